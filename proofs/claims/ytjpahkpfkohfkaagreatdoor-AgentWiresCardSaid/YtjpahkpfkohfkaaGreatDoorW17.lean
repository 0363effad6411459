/- Messages protected, encoded, verified: what they are. The reference's messages: the same octets. Octets that are too few; what is trimmed. The attrib ..; no conditions. -/
import Derived.Test.YtjpahkpfkohfkaaGreatDoorW16
import Derived.Test.YtjpahkpfkohfkaaGreatDoorW15
import Derived.Test.YtjpahkpfkohfkaaGreatDoorW12
import Derived.Test.YtjpahkpfkohfkaaGreatDoorW9
import Derived.KernelRfl
set_option linter.unusedVariables false
set_option linter.unusedSimpArgs false
set_option maxRecDepth 100000
namespace Go.Proofs.YtjpahkpfkohfkaaGreatDoor
open Go Go.EV
def D1(kd more:Int)(id:za)(l:List Q3):za:=headB kd ((Y4 l:Nat)+more) id++W2 l
theorem bodyB_size(kd more:Int)(id:za)(l:List Q3):(D1 kd more id l).size=8+id.size+Y4 l:=by
 unfold D1;rw[ByteArray.size_append,headB_size,I7]
def macA(kd:Int)(id:za)(l:List Q3)(key:za):Q3:=⟨8,macF key (D1 kd 36 id l)⟩
section
variable {m:Z8} {kd:Int} (hk:(g204 m.fG m.fH).run=some kd) (h0:0<=kd) (h1:kd < 65536) (hm:D9 m)
include hk h0 h1 hm
theorem okSINTEG{l:List Q3}(hl:l.length<=30)(ha:∀a,a∈l->L5 a)(hz:Y4 l<=1200){key:za}(hkey:key.size<=4096):SOk (s121 m l key) (λr=>r=macF key (D1 kd 36 m.fj l)):=by
 unfold s121
 show Ok (g121 m l key) _
 refine Ok.c (okWRITTEN m l 36 kd hk h0 h1 hm.2.2.1 hl ha (by decide)) λr hr=>?_
 subst hr
 refine Ok.c (okDMAC key _ hkey (by have:=bodyB_size kd 36 m.fj l;unfold D1 at this;rw[this,hm.2.2.1];omega)) λr hr=>Ok.d (by rw[hr];rfl)
theorem okSENC:SOk (s59 m) (λr=>r=(D1 kd 0 m.fj m.fo,0)):=by
 unfold s59
 show Ok (g59 m) _
 refine Ok.c (okSCHECK m hm) λr hr=>?_
 subst hr
 exact Ok.f rfl (Ok.c (okWRITTEN m m.fo 0 kd hk h0 h1 hm.2.2.1 hm.2.2.2.1 hm.q.1 (by decide)) λr hr=>Ok.d (by rw[hr];rfl))
end
def plusA(m:Z8)(a:Q3):Z8:=⟨m.fG,m.fH,m.fj,m.fo++[a]⟩
theorem sizeL_app(l k:List Q3):Y4 (l++k)=Y4 l+Y4 k:=by unfold Y4;rw[wA,List.sum_append]
theorem plusA_ok{m:Z8}{a:Q3}(hm:D9 m)(ha:L5 a)(hl:m.fo.length<=29)(hz:Y4 m.fo+a.fp.size<=1173):D9 (plusA m a):=by
 obtain⟨a1,a2,a3,a4,a5,a6⟩:=hm
 refine⟨a1,a2,a3,by show (m.fo++[a]).length<=30;simp;omega,λx hx=>?_,?_⟩
 ·rcases zU.1 (show x∈m.fo++[a] from hx) with h|h
  ·exact a5 x h
  ·rw[we.1 h];exact ha
 ·show 20+Y4 (m.fo++[a])<=1200
  rw[sizeL_app]
  have:Y4 [a]=4+up4 a.fp.size:=by simp[Y4]
  have:up4 a.fp.size<=a.fp.size+3:=by unfold up4;omega
  omega
theorem okSWITH(m:Z8)(a:Q3)(h:D9 (plusA m a)):SOk (s120 m a) (λr=>r=(plusA m a,0)):=by
 unfold s120
 show Ok (g120 m a) _
 have hl:m.fo.length<=29:=by have:=h.2.2.2.1;unfold plusA at this;simp at this;omega
 refine Ok.c (R:=λ_=>True) (show Ok (g196 m.fo) _ from Ok.app (by simp;omega) (Ok.d trivial)) λ_ _=>?_
 refine Ok.app (by simp;omega) (Ok.v (okSCHECK (plusA m a) h) λr hr=>?_)
 subst hr
 exact Ok.f rfl (Ok.g (Ok.d rfl))
theorem okSPROT{m:Z8}{kd:Int}(hk:(g204 m.fG m.fH).run=some kd)(h0:0<=kd)(h1:kd < 65536)(hm:D9 m){key:za}(hkey:key.size<=4096)(h8:∀a,a∈m.fo->a.fm≠8/\a.fm≠32808)(hp:D9 (plusA m (macA kd m.fj m.fo key))) :
  SOk (s57 m key) (λr=>r=(plusA m (macA kd m.fj m.fo key),0)):=by
 unfold s57
 show Ok (g57 m key) _
 have hl:m.fo.length<=1000:=by have:=hm.2.2.2.1;omega
 refine Ok.c (okSCHECK m hm) λr hr=>?_
 subst hr
 refine Ok.f rfl (Ok.f (by simp;omega) (Ok.n (R:=λc=>c=false) ?_ λc hc=>?_))
 ·refine Ok.c (okSHAS m 8 hl) λr hr=>Ok.f ?_ (Ok.c (okSHAS m 32808 hl) λr hr=>Ok.d ?_)
  ·cases r with
   | false=>rfl
   | true=>obtain⟨a,x1,x2⟩:=hr.1 rfl;exact absurd x2 (h8 a x1).1
  ·cases r with
   | false=>rfl
   | true=>obtain⟨a,x1,x2⟩:=hr.1 rfl;exact absurd x2 (h8 a x1).2
 ·subst hc
  refine Ok.f rfl (Ok.c (okSINTEG hk h0 h1 hm (l:=m.fo) hm.2.2.2.1 hm.q.1 (by have:=hm.q.2;omega) hkey) λr hr=>?_)
  subst hr
  exact Ok.c (okSWITH m (macA kd m.fj m.fo key) hp) λr hr=>Ok.d (by rw[hr])
def M2(k:Int):List Q3->Int
 | []=>-1
 | a :: l=>if a.fm=k then 0 else if M2 k l < 0 then -1 else M2 k l+1
theorem firstK_find(k:Int)(l:List Q3):Find l (λa=>a.fm=k) (M2 k l):=by
 induction l with
 | nil=>exact .inr ⟨rfl,λx hx=>by simp at hx⟩
 | cons a l ih=>
  unfold M2
  by_cases h:a.fm=k
  ·rw[if_pos h]
   exact .inl ⟨0,a,rfl,rfl,h,λj x hj=>absurd hj (Nat.not_lt_zero _)⟩
  ·rw[if_neg h]
   rcases ih with⟨i,x,hi,hx,hk,hb⟩|⟨hi,hn⟩
   ·rw[hi,if_neg (by omega)]
    refine .inl ⟨i+1,x,by omega,hx,hk,λj y hj hy=>?_⟩
    cases j with
    | zero=>simp at hy;subst hy;exact h
    | succ j=>exact hb j y (by omega) hy
   ·rw[hi,if_pos (by decide)]
    refine .inr ⟨rfl,λx hx=>?_⟩
    rcases zT.1 hx with rfl|hx
    ·exact h
    ·exact hn x hx
theorem firstK_at{k:Int}{l:List Q3}(h:¬M2 k l < 0):∃i x,M2 k l=((i:Nat):Int)/\l[i]?=some x/\x.fm=k/\i < l.length:=by
 rcases firstK_find k l with⟨i,x,hi,hx,hk,_⟩|⟨hi,_⟩
 ·exact⟨i,x,hi,hx,hk,(wm.1 hx).1⟩
 ·rw[hi] at h;exact absurd (by decide) h
theorem has_first{k:Int}{l:List Q3}:(∃a,a∈l/\a.fm=k)↔¬M2 k l < 0:=by
 have h:=(firstK_find k l).nonneg
 rw[<-h];omega
def verA(a:Option Q3)(v:za):Int:=match a with
 | some x=>if x.fp=v then 0 else 9
 | none=>0
def verS(m:Z8)(key:za):Int:=
 if M2 8 m.fo < 0 then 4
 else verA m.fo[(M2 8 m.fo).toNat]? (macF key (D1 (W7 m.fG m.fH) 36 m.fj (m.fo.take (M2 8 m.fo).toNat)))
theorem sizeL_tk(l:List Q3)(k:Nat):Y4 (l.take k)<=Y4 l:=by
 unfold Y4
 conv=>rhs;rw[<-List.take_append_drop k l]
 rw[wA,List.sum_append]
 omega
theorem okSVERG{m:Z8}(hm:D9 m){key:za}(hkey:key.size<=4096):SOk (s61 m key) (λr=>r=verS m key):=by
 have hlen:m.fo.length<=30:=hm.2.2.2.1
 have hk:=kind_eq hm.1 hm.2.1
 have hkr:=F3 hm.1 hm.2.1
 unfold s61
 refine SOk.fn ?_
 unfold g61 verS
 refine Ok.c (okSCHECK m hm) λr hr=>?_
 subst hr
 refine Ok.f rfl (Ok.f (by simp;omega) (Ok.c (okSHAS m 8 (by omega)) λr hr=>?_))
 rw[has_first] at hr
 by_cases hf:M2 8 m.fo < 0
 ·have:r=false:=by cases r with
   | false=>rfl
   | true=>exact absurd hf (hr.1 rfl)
  subst this
  exact Ok.t rfl (Ok.d (by rw[if_pos hf]))
 ·have:r=true:=hr.2 hf
  subst this
  rw[if_neg hf]
  obtain⟨i,x,hi,hx,hxk,hil⟩:=firstK_at hf
  refine Ok.f rfl (Ok.c (okSIDX8 m.fo (by omega)) λr hr=>?_)
  have hi2:r=((i:Nat):Int):=by rw[<-hi];exact Find.eq hr (firstK_find 8 _)
  subst hi2
  rw[hi]
  refine Ok.r (x:=x) (by simp) (by rw[zN];exact hx) (Ok.k (by rw[mlenn_eq];simp;omega) (Ok.re ?_))
  simp only[zN]
  refine Ok.c (okSINTEG hk hkr.1 (by omega) hm (l:=m.fo.take i) (by rw[wV];omega) (λa ha=>hm.q.1 a (qa ha)) (by have:=sizeL_tk m.fo i;have:=hm.q.2;omega) hkey) λr hr=>?_
  subst hr
  rw[hx]
  refine Ok.e (λhc=>Ok.d ?_) λhc=>Ok.d ?_
  ·show 9=ite _ _ _
   rw[if_neg (by simpa using hc)]
  ·show 0=ite _ _ _
   rw[if_pos (by simpa using hc)]
def encM(m:Z8):za:=D1 (W7 m.fG m.fH) 0 m.fj m.fo
theorem bit_eq(m:Int)(hm:0<=m)(k:Nat)(hk:k<=64):Int.tmod (Z3 .i64 m (k:Int)) 2=m / 2 ^ k % 2:=by
 grind [M0,Int.tmod_eq_emod_of_nonneg,Int.ediv_nonneg,Int.pow_nonneg]
theorem st_eq{n b:Int}(h0:0<=n)(h1:n < 65536)(b0:0<=b)(b1:b < 2):Q7 ((Q7 ((2:Int) * n))+b)=2 * n+b:=by
 grind [Z9]
theorem kd_d1{c m:Int}(hc:0<=c/\c<=3)(hm:0<=m/\m<=4095):Q7 ((Q7 ((2:Int) * (m / 2048)))+m / 1024 % 2)=m / 1024:=by rw[st_eq (by omega) (by omega) (by omega) (by omega)];omega
theorem kd_d2{c m:Int}(hc:0<=c/\c<=3)(hm:0<=m/\m<=4095):Q7 ((Q7 ((2:Int) * (m / 1024)))+m / 512 % 2)=m / 512:=by rw[st_eq (by omega) (by omega) (by omega) (by omega)];omega
theorem kd_d3{c m:Int}(hc:0<=c/\c<=3)(hm:0<=m/\m<=4095):Q7 ((Q7 ((2:Int) * (m / 512)))+m / 256 % 2)=m / 256:=by rw[st_eq (by omega) (by omega) (by omega) (by omega)];omega
theorem kd_d4{c m:Int}(hc:0<=c/\c<=3)(hm:0<=m/\m<=4095):Q7 ((Q7 ((2:Int) * (m / 256)))+m / 128 % 2)=m / 128:=by rw[st_eq (by omega) (by omega) (by omega) (by omega)];omega
theorem kd_f0{c m:Int}(hc:0<=c/\c<=3)(hm:0<=m/\m<=4095):Q7 ((Q7 ((2:Int) * (m / 128)))+c / 2)=2 * (m / 128)+c / 2:=st_eq (by omega) (by omega) (by omega) (by omega)
theorem kd_f1{c m:Int}(hc:0<=c/\c<=3)(hm:0<=m/\m<=4095):Q7 ((Q7 ((2:Int) * (2 * (m / 128)+c / 2)))+m / 64 % 2)=4 * (m / 128)+2 * (c / 2)+m / 64 % 2:=by rw[st_eq (by omega) (by omega) (by omega) (by omega)];omega
theorem kd_f2{c m:Int}(hc:0<=c/\c<=3)(hm:0<=m/\m<=4095):Q7 ((Q7 ((2:Int) * (4 * (m / 128)+2 * (c / 2)+m / 64 % 2)))+m / 32 % 2)=8 * (m / 128)+4 * (c / 2)+m / 32 % 4:=by rw[st_eq (by omega) (by omega) (by omega) (by omega)];omega
theorem kd_f3{c m:Int}(hc:0<=c/\c<=3)(hm:0<=m/\m<=4095):Q7 ((Q7 ((2:Int) * (8 * (m / 128)+4 * (c / 2)+m / 32 % 4)))+m / 16 % 2)=16 * (m / 128)+8 * (c / 2)+m / 16 % 8:=by rw[st_eq (by omega) (by omega) (by omega) (by omega)];omega
theorem kd_f4{c m:Int}(hc:0<=c/\c<=3)(hm:0<=m/\m<=4095):Q7 ((Q7 ((2:Int) * (16 * (m / 128)+8 * (c / 2)+m / 16 % 8)))+c % 2)=32 * (m / 128)+16 * (c / 2)+2 * (m / 16 % 8)+c % 2:=by rw[st_eq (by omega) (by omega) (by omega) (by omega)];omega
theorem kd_f5{c m:Int}(hc:0<=c/\c<=3)(hm:0<=m/\m<=4095):Q7 ((Q7 ((2:Int) * (32 * (m / 128)+16 * (c / 2)+2 * (m / 16 % 8)+c % 2)))+m / 8 % 2)=2 * (32 * (m / 128)+16 * (c / 2)+2 * (m / 16 % 8)+c % 2)+m / 8 % 2:=st_eq (by omega) (by omega) (by omega) (by omega)
theorem kd_f6{c m:Int}(hc:0<=c/\c<=3)(hm:0<=m/\m<=4095):Q7 ((Q7 ((2:Int) * (2 * (32 * (m / 128)+16 * (c / 2)+2 * (m / 16 % 8)+c % 2)+m / 8 % 2)))+m / 4 % 2)=4 * (32 * (m / 128)+16 * (c / 2)+2 * (m / 16 % 8)+c % 2)+m / 4 % 4:=by rw[st_eq (by omega) (by omega) (by omega) (by omega)];omega
theorem kd_f7{c m:Int}(hc:0<=c/\c<=3)(hm:0<=m/\m<=4095):Q7 ((Q7 ((2:Int) * (4 * (32 * (m / 128)+16 * (c / 2)+2 * (m / 16 % 8)+c % 2)+m / 4 % 4)))+m / 2 % 2)=8 * (32 * (m / 128)+16 * (c / 2)+2 * (m / 16 % 8)+c % 2)+m / 2 % 8:=by rw[st_eq (by omega) (by omega) (by omega) (by omega)];omega
theorem kd_f8{c m:Int}(hc:0<=c/\c<=3)(hm:0<=m/\m<=4095):Q7 ((Q7 ((2:Int) * (8 * (32 * (m / 128)+16 * (c / 2)+2 * (m / 16 % 8)+c % 2)+m / 2 % 8)))+m / 1 % 2)=16 * (32 * (m / 128)+16 * (c / 2)+2 * (m / 16 % 8)+c % 2)+m % 16:=by rw[st_eq (by omega) (by omega) (by omega) (by omega)];omega
theorem kd_z{m:Int}(hm:0<=m/\m<=4095):Q7 ((0:Int)+m / 2048 % 2)=m / 2048:=by grind [Z9]
theorem kd_e(c m:Int):16 * (32 * (m / 128)+16 * (c / 2)+2 * (m / 16 % 8)+c % 2)+m % 16=W7 c m:=by unfold W7;omega
theorem okR8KIND{c m:Int}(hc:0<=c/\c<=3)(hm:0<=m/\m<=4095):SOk (s147 c m) (λr=>r=W7 c m):=by
 unfold s147
 refine SOk.fn ?_
 have b:∀k:Nat,k<=64->Int.tmod (Z3 .i64 m (k:Int)) 2=m / 2 ^ k % 2:=bit_eq m hm.1
 have b11:Int.tmod (Z3 .i64 m 11) 2=m / 2048 % 2:=b 11 (by decide)
 have b10:Int.tmod (Z3 .i64 m 10) 2=m / 1024 % 2:=b 10 (by decide)
 have b9:Int.tmod (Z3 .i64 m 9) 2=m / 512 % 2:=b 9 (by decide)
 have b8:Int.tmod (Z3 .i64 m 8) 2=m / 256 % 2:=b 8 (by decide)
 have b7:Int.tmod (Z3 .i64 m 7) 2=m / 128 % 2:=b 7 (by decide)
 have b6:Int.tmod (Z3 .i64 m 6) 2=m / 64 % 2:=b 6 (by decide)
 have b5:Int.tmod (Z3 .i64 m 5) 2=m / 32 % 2:=b 5 (by decide)
 have b4:Int.tmod (Z3 .i64 m 4) 2=m / 16 % 2:=b 4 (by decide)
 have b3:Int.tmod (Z3 .i64 m 3) 2=m / 8 % 2:=b 3 (by decide)
 have b2:Int.tmod (Z3 .i64 m 2) 2=m / 4 % 2:=b 2 (by decide)
 have b1:Int.tmod (Z3 .i64 m 1) 2=m / 2 % 2:=b 1 (by decide)
 have b0:Int.tmod (Z3 .i64 m 0) 2=m / 1 % 2:=b 0 (by decide)
 have c2:Q7 (Int.tdiv c 2)=c / 2:=by rw[Int.tdiv_eq_ediv_of_nonneg hc.1,Z9 (by omega) (by omega)]
 have c1:Int.tmod c 2=c % 2:=(by grind)
 have d1:=kd_d1 hc hm
 have d2:=kd_d2 hc hm
 have d3:=kd_d3 hc hm
 have d4:=kd_d4 hc hm
 have f0:=kd_f0 hc hm
 have f1:=kd_f1 hc hm
 have f2:=kd_f2 hc hm
 have f3:=kd_f3 hc hm
 have f4:=kd_f4 hc hm
 have f5:=kd_f5 hc hm
 have f6:=kd_f6 hc hm
 have f7:=kd_f7 hc hm
 have f8:=kd_f8 hc hm
 have z:=kd_z hm
 refine Ok.d ?_
 simp_all [kd_e]
theorem okRUP(n:Nat)(hn:n<=1000000):SOk (s148 (n:Int) 4) (λr=>r=((up4 n:Nat):Int)):=by
 unfold s148
 refine SOk.fn ?_
 unfold g148
 refine Ok.b (R:=λe=>e=((up4 n:Nat):Int)) ?_ λe he=>Ok.d he
 have hm:∀k:Nat,Int.tmod ((n+k:Nat):Int) 4=(((n+k) % 4:Nat):Int):=(by grind)
 refine Ok.s (up4 n - n) (by unfold up4;omega) (λk y=>y=((n+k:Nat):Int)) rfl (λk y hy hk=>?_) λy hy=>?_
 ·subst hy
  refine Ok.k rfl (Ok.t ?_ (Ok.d ?_))
  ·rw[hm];grind [up4]
  ·show Q7 (((n+k:Nat):Int)+1)=_
   unfold up4 at hk
   rw[Z9 (by omega) (by omega)];omega
 ·subst hy
  have h:=up4_le n
  refine Ok.k rfl (Ok.f ?_ (Ok.d ?_))
  ·grind [up4]
  grind
theorem okRPAD(s:za)(h:s.size<=100000):SOk (s217 s 4) (λr=>r=s++z4 s):=by
 unfold s217
 refine SOk.fn ?_
 unfold g217
 have hup:=up4_le s.size
 have hu2:up4 s.size<=s.size+3:=by unfold up4;omega
 refine Ok.c (okRUP s.size (by omega)) λr hr=>?_
 subst hr
 have e:Q7 (((up4 s.size:Nat):Int) - (s.size:Int))=((up4 s.size - s.size:Nat):Int):=by grind [Z9]
 rw[e]
 refine Ok.c (R:=λr=>r=z4 s) ?_ λr hr=>?_
 ·unfold s255
  refine SOk.fn ?_
  refine Ok.o (r:=()) ?_ (Ok.o rfl (Ok.d (by rw[zN];rfl)))
  show (bif decide (0<=((up4 s.size - s.size:Nat):Int))&&decide (((up4 s.size - s.size:Nat):Int)<=((up4 s.size - s.size:Nat):Int))&&decide (1 * (((up4 s.size - s.size:Nat):Int)).toNat<=281474976710656)&&decide (((up4 s.size - s.size:Nat):Int)<=9223372036854775807) then some () else none)=some ()
  grind
 ·subst hr
  refine Ok.k ?_ (Ok.d rfl)
  have:=z4_size s
  grind
theorem okR8SIZE(l:List Q3)(h:∀a,a∈l->L5 a)(hl:l.length<=1000):SOk (s214 l) (λr=>r=(Y4 l:Nat)):=by
 unfold s214
 refine SOk.fn ?_
 unfold g214
 refine Ok.b (R:=λe=>e=((Y4 l:Nat):Int)) ?_ λe he=>Ok.d he
 refine Ok.s l.length (by omega) (λk y=>y=(((Y4 (l.take k):Nat):Int),(k:Int))) rfl (λk y hy hk=>?_) λy hy=>?_
 ·subst hy
  obtain⟨x,hx,hx'⟩:=M5 (l:=l) (k:=k) hk
  have hax:=(h x (zO hx')).2
  have hsz:=sizeL_le (l:=l.take k) λa ha=>h a (qa ha)
  have htl:(l.take k).length<=1000:=by grind
  have hu2:up4 x.fp.size<=x.fp.size+3:=by unfold up4;omega
  grind [Ok.t,U6,Ok.r,Ok.c,okRUP,Ok.d,sizeL_take,Z9,Y0,Q7,Y4]
 grind [Ok.f,U6,Ok.d,List.take_length,Y4]
theorem okR8RIGHT(m:Z8)(h:D9 m):SOk (s138 m) (λr=>r=true):=by
 obtain⟨⟨a1,a2⟩,⟨a3,a4⟩,a5,a6,a7,a8⟩:=h
 unfold s138
 refine SOk.fn ?_
 unfold g138
 refine Ok.n (R:=λc=>c=false) ?_ λc hc=>?_
 ·refine Ok.f (by simp;omega) (Ok.f (by simp;omega) (Ok.f (by simp;omega) (Ok.f (by simp;omega) (Ok.f (by rw[a5];rfl) (Ok.d ?_)))))
  grind [U6]
 subst hc
 refine Ok.f rfl (Ok.p (R:=λe=>e=.inr ()) ?_ (λe he=>by cases he) λe he=>?_)
 ·refine Ok.s m.fo.length (by omega) (λk y=>y=(k:Int)) rfl (λk y hy hk=>?_) λy hy=>?_
  ·subst hy
   obtain⟨x,hx,hx'⟩:=M5 (l:=m.fo) (k:=k) hk
   obtain⟨⟨b1,b2⟩,b3⟩:=a7 x (zO hx')
   refine Ok.t (by grind [U6]) (Ok.n (R:=λc=>c=false) ?_ λc hc=>?_)
   ·grind [Ok.r,Ok.f,Ok.d]
   ·subst hc
    exact Ok.f rfl (Ok.d (Y0 hk (by omega)))
  ·subst hy
   exact Ok.f (by rw[U6];simp) (Ok.d rfl)
 grind [Ok.c,okR8SIZE,Ok.d,Z9]
theorem encL_snoc(l:List Q3)(x:Q3):W2 (l++[x])=W2 l++encA x:=by
 induction l with
 | nil=>simp[W2]
 | cons y l ih=>rw[List.cons_append,W2,W2,ih,ByteArray.append_assoc]
theorem okR8WRITTEN(m:Z8)(l:List Q3)(more:Int)(hc:0<=m.fG/\m.fG<=3)(hme:0<=m.fH/\m.fH<=4095)(hid:m.fj.size=12)(hl:l.length<=30)(ha:∀a,a∈l->L5 a)(hm:0<=more/\more<=100) :
  SOk (s146 m l more) (λr=>r=D1 (W7 m.fG m.fH) more m.fj l):=by
 have hk:=F3 hc hme
 have hz:=sizeL_le ha
 unfold s146
 refine SOk.fn ?_
 unfold g146
 refine Ok.c (okR8KIND hc hme) λr hr=>?_
 subst hr
 refine Ok.c (show SOk _ _ from S8 2 _ hk.1 (by omega) (by decide)) λr hr=>?_
 subst hr
 refine Ok.c (okR8SIZE l ha (by omega)) λr hr=>?_
 subst hr
 rw[Z9 (n:=((Y4 l:Nat):Int)+more) (by omega) (by omega)]
 refine Ok.c (show SOk _ _ from S8 2 _ (by omega) (by omega) (by decide)) λr hr=>?_
 subst hr
 refine Ok.k (by grind [strOfNums_size,J9]) (Ok.c (show SOk _ _ from S8 4 _ (by decide) (by decide) (by decide)) λr hr=>?_)
 subst hr
 refine Ok.k (by grind [ByteArray.size_append,strOfNums_size,J9]) (Ok.k (by grind [ByteArray.size_append,strOfNums_size,J9]) ?_)
 have hH:((strOfNums (beN 2 (W7 m.fG m.fH))++strOfNums (beN 2 (((Y4 l:Nat):Int)+more)))++strOfNums (beN 4 554869826))++m.fj=headB (W7 m.fG m.fH) (((Y4 l:Nat):Int)+more) m.fj:=rfl
 rw[hH]
 have hhz:=headB_size (W7 m.fG m.fH) (((Y4 l:Nat):Int)+more) m.fj
 unfold D1
 generalize headB (W7 m.fG m.fH) (((Y4 l:Nat):Int)+more) m.fj=H at hhz ⊢
 refine Ok.b (R:=λe=>e=H++W2 l) ?_ λe he=>Ok.d he
 refine Ok.s l.length (by omega) (λk y=>y=(H++W2 (l.take k),(k:Int))) (by simp[W2]) (λk y hy hk=>?_) λy hy=>?_
 ·subst hy
  obtain⟨x,hx,hx'⟩:=M5 (l:=l) (k:=k) hk
  obtain⟨⟨x1,x2⟩,x3⟩:=ha x (zO hx')
  have hsz:=sizeL_le (l:=l.take k) λa h=>ha a (qa h)
  have htl:(l.take k).length<=30:=by grind
  have hE:(H++W2 (l.take k)).size<=30000:=by grind [ByteArray.size_append,I7]
  have e1:W2 (l.take (k+1))=W2 (l.take k)++encA x:=by grind [List.take_add_one,encL_snoc]
  rw[show H++W2 (l.take (k+1))=(H++W2 (l.take k))++encA x by rw[e1,ByteArray.append_assoc]]
  generalize H++W2 (l.take k)=E at hE ⊢
  have hz4:=z4_size x.fp
  rw[ByteArray.size_append] at hz4
  have hu2:up4 x.fp.size<=x.fp.size+3:=by unfold up4;omega
  refine Ok.t (by grind [U6]) (Ok.r (by simp) hx (Ok.c (show SOk _ _ from S8 2 _ x1 (by omega) (by decide)) λr hr=>?_))
  subst hr
  refine Ok.k (by simp only[strOfNums_size,J9,zG];omega) (Ok.r (by simp) hx (Ok.c (show SOk _ _ from S8 2 _ (by omega) (by omega) (by decide)) λr hr=>?_))
  subst hr
  refine Ok.k (by simp only[ByteArray.size_append,strOfNums_size,J9,zG];omega) (Ok.r (by simp) hx (Ok.c (okRPAD x.fp (by omega)) λr hr=>?_))
  subst hr
  refine Ok.k (by simp only[ByteArray.size_append,strOfNums_size,J9,zG];omega) (Ok.d ?_)
  show (_,Q7 ((k:Int)+1))=_
  rw[Y0 hk (by omega)]
  unfold encA u16
  simp only[ByteArray.append_assoc]
 ·subst hy
  refine Ok.f (by rw[U6];simp) (Ok.d ?_)
  show H++W2 (l.take l.length)=_
  rw[List.take_length]
theorem okR8ENC(m:Z8)(h:D9 m):SOk (s67 m) (λr=>r=encM m):=by
 unfold s67
 refine SOk.fn ?_
 exact Ok.c (okR8WRITTEN m m.fo 0 h.1 h.2.1 h.2.2.1 h.2.2.2.1 h.q.1 (by decide)) λr hr=>Ok.d hr
theorem F9(m:Z8)(k:Int)(hl:m.fo.length<=1000):SOk (s71 m k) (λr=>r=M2 k m.fo):=by
 unfold s71
 refine SOk.fn ?_
 unfold g71
 have key:∀r,Find m.fo (λa=>a.fm=k) r->r=M2 k m.fo:=λr h=>Find.eq h (firstK_find k _)
 refine Ok.p (R:=λe=>Find m.fo (λa=>a.fm=k) (match e with|.inl r=>r|.inr _=>-1)) ?_ (by grind [Ok.d]) (by grind [Ok.d])
 refine Ok.s m.fo.length (by omega) (λi y=>y=(i:Int)/\∀j x,j < i->m.fo[j]?=some x->¬x.fm=k) (by grind) (λi y hy hi=>?_) λy hy=>?_
 ·obtain⟨rfl,hup⟩:=hy
  obtain⟨x,hx,hx'⟩:=M5 (l:=m.fo) (k:=i) hi
  refine Ok.t (by grind [U6]) (Ok.r (by simp) hx (Ok.e (λhc=>Ok.d ?_) λhc=>Ok.d ?_))
  ·exact .inl (by grind)
  ·exact⟨Y0 hi (by omega),(by grind)⟩
 ·obtain⟨rfl,hup⟩:=hy
  exact Ok.f (by rw[U6];simp) (Ok.d (.inr ⟨rfl,none_of_upto hup⟩))
theorem okR8INTEG(t:E6)(ht:tabS t)(m:Z8)(hm:D9 m)(i:Nat)(hi:i<=m.fo.length)(key:za)(hkey:key.size<=4096):SOk (s140 t m (i:Int) key) (λr=>r=macF key (D1 (W7 m.fG m.fH) 36 m.fj (m.fo.take i))):=by
 have hlen:m.fo.length<=30:=hm.2.2.2.1
 have hsz:=sizeL_tk m.fo i
 have hz2:=hm.q.2
 have hbz:=bodyB_size (W7 m.fG m.fH) 36 m.fj (m.fo.take i)
 rw[hm.2.2.1] at hbz
 unfold s140
 refine SOk.fn ?_
 refine Ok.k (by grind [mlenn_eq]) (Ok.re ?_)
 simp only[zN]
 refine Ok.c (okR8WRITTEN m (m.fo.take i) 36 hm.1 hm.2.1 hm.2.2.1 (by grind) (λa ha=>hm.q.1 a (qa ha)) (by decide)) λr hr=>?_
 grind [Ok.c,okRMAC,Ok.d]
theorem okR8VER(t:E6)(ht:tabS t){m:Z8}(hm:D9 m){key:za}(hkey:key.size<=4096):SOk (s69 t m key) (λr=>r=verS m key):=by
 have hlen:m.fo.length<=30:=hm.2.2.2.1
 unfold s69
 refine SOk.fn ?_
 unfold g69 verS
 refine Ok.c (okR8RIGHT m hm) λr hr=>?_
 subst hr
 refine Ok.f rfl (Ok.f (by simp;omega) (Ok.c (F9 m 8 (by omega)) λr hr=>?_))
 subst hr
 by_cases hf:M2 8 m.fo < 0
 ·simp_all [Ok.t,Ok.d,if_pos]
 ·obtain⟨i,x,hi,hx,hxk,hil⟩:=firstK_at hf
  rw[if_neg hf]
  refine Ok.f (by simpa using hf) (Ok.c (F9 m 8 (by omega)) λr hr=>?_)
  rw[hi] at hr ⊢
  subst hr
  refine Ok.r (x:=x) (by simp) (by grind) (Ok.c (F9 m 8 (by omega)) λr hr=>?_)
  rw[hi] at hr
  subst hr
  refine Ok.c (okR8INTEG t ht m hm i (by omega) key hkey) λr hr=>?_
  subst hr
  rw[zN,hx]
  refine Ok.e (λhc=>Ok.d ?_) λhc=>Ok.d ?_
  ·show 9=ite _ _ _
   grind
  ·show 0=ite _ _ _
   grind
theorem okUINTE(s:za)(a n:Nat)(ha:a<=s.size)(h:s.size < a+n)(hn:1<=n)(hn7:n<=7)(hs:s.size<=1000000):SOk (s129 ⟨s,a⟩ (n:Int)) (λr=>r.2.2=7):=by
 unfold s129
 refine SOk.fn ?_
 refine Ok.c (R:=λr=>r.2.2=7) ?_ λr hr=>Ok.d hr
 unfold s207
 refine SOk.fn ?_
 unfold g207
 refine Ok.c (okREAD s a ha) λr hr=>?_
 subst hr
 refine Ok.f rfl ?_
 refine Ok.n (R:=λc=>c=false) ?_ λc hc=>?_
 ·refine Ok.f (by simp;omega) (Ok.d ?_)
  simp;omega
 ·subst hc
  have e1:Q7 ((s.size:Int) - (a:Int))=(s.size:Int) - a:=Z9 (by omega) (by omega)
  refine Ok.f rfl (Ok.t ?_ (Ok.d rfl))
  show decide (Q7 ((s.size:Int) - (a:Int)) < (n:Int))=true
  rw[e1];simp;omega
theorem okTAKEE(s:za)(a n:Nat)(ha:a<=s.size)(h:s.size < a+n)(hs:s.size<=1000000):SOk (s211 ⟨s,a⟩ (n:Int)) (λr=>r.2.2=7):=by
 unfold s211
 refine SOk.fn ?_
 unfold g211
 have em:(if (0:Int) > (n:Int) then (0:Int) else (n:Int))=n:=by rw[if_neg (by omega)]
 rw[em]
 refine Ok.c (R:=λr=>r.2.2=7) ?_ λr hr=>Ok.d hr
 unfold s241
 refine SOk.fn ?_
 unfold g241
 refine Ok.c (okREAD s a ha) λr hr=>?_
 subst hr
 refine Ok.f rfl ?_
 refine Ok.n (R:=λc=>c=false) ?_ λc hc=>?_
 ·refine Ok.f (by simp) (Ok.d ?_)
  simp
 ·subst hc
  have e1:Q7 ((s.size:Int) - (a:Int))=(s.size:Int) - a:=Z9 (by omega) (by omega)
  refine Ok.f rfl (Ok.t ?_ (Ok.d rfl))
  show decide (Q7 ((s.size:Int) - (a:Int)) < (n:Int))=true
  rw[e1];simp;omega
def zer(s:za):Prop:=∀i,i < s.size->bAt s (i:Int)=0
theorem bAt_ext{s:za}{a b i:Nat}(hb:b<=s.size)(hi:a+i < b):bAt (s.extract a b) (i:Int)=bAt s ((a+i:Nat):Int):=by
 unfold bAt
 rw[zN,zN,ByteArray.data_extract,wH,wH,Array.getElem?_extract,if_pos (by have:s.data.size=s.size:=rfl;omega)]
theorem emp_iff{s:za}:s=zb↔s.size=0:=⟨λh=>by rw[h];rfl,λh=>ByteArray.ext (Array.eq_empty_of_size_eq_zero h)⟩
theorem okTRIMRZ(s:za)(hs:s.size<=1000):SOk (s244 s 0) (λr=>(zer s->r=zb)/\(¬zer s->¬zer r/\r.size<=s.size)):=by
 unfold s244
 refine SOk.fn ?_
 unfold g244
 refine Ok.b (R:=λr=>(zer s->r=zb)/\(¬zer s->¬zer r/\r.size<=s.size)) ?_ λe he=>Ok.d he
 refine Ok.lp (λy=>y.size<=s.size/\(zer s↔zer y)) (λy=>y.size) ⟨zD _,Iff.rfl⟩ (A9 (by show s.size<=_;omega)) λy hy=>?_
 obtain⟨hy1,hy2⟩:=hy
 have e1:0 < y.size->Q7 ((y.size:Int) - 1)=((y.size - 1:Nat):Int):=λh=>by rw[Z9 (by omega) (by omega)];omega
 refine Ok.n (R:=λc=>(c=true↔0 < y.size/\bAt y ((y.size - 1:Nat):Int)=0)) ?_ λc hc=>?_
 ·refine Ok.e (λh=>?_) λh=>Ok.d ?_
  ·have h0:0 < y.size:=by simpa using h
   refine Ok.k (by rw[e1 h0];simp;omega) (Ok.d ?_)
   rw[e1 h0,beq_iff_eq]
   exact⟨λh=>⟨h0,h⟩,λh=>h.2⟩
  ·have:¬0 < y.size:=by simpa using h
   exact⟨λh=>(by cases h),λh=>absurd h.1 this⟩
 ·refine Ok.e (λh=>?_) λh=>Ok.d ?_
  ·obtain⟨h0,h1⟩:=hc.1 h
   rw[e1 h0,zN]
   refine Ok.k (by simp) (Ok.d ?_)
   have hz:(y.extract 0 (y.size - 1)).size=y.size - 1:=by rw[ByteArray.size_extract];omega
   refine And.intro (And.intro (by omega) (hy2.trans ⟨λhq i hi=>?_,λhq i hi=>?_⟩)) (by show (y.extract 0 (y.size - 1)).size < y.size;omega)
   ·rw[bAt_ext (by omega) (by omega),zX];exact hq i (by omega)
   ·rcases wo i (y.size - 1) with h2|h2
    ·have:=hq i (by omega)
     rwa [bAt_ext (by omega) (by omega),zX] at this
    ·rw[show i=y.size - 1 by omega];exact h1
  ·have hn:¬(0 < y.size/\bAt y ((y.size - 1:Nat):Int)=0):=λq=>by rw[hc.2 q] at h;cases h
   refine And.intro (λhq=>?_) (λhq=>⟨λq=>hq (hy2.2 q),hy1⟩)
   rw[emp_iff]
   have hq:=hy2.1 hq
   by_cases h0:y.size=0
   ·exact h0
   ·exact absurd ⟨by omega,hq _ (by omega)⟩ hn
theorem okTRIMLZ(s:za)(hs:s.size<=1000):SOk (s243 s 0) (λr=>(r=zb↔zer s)):=by
 unfold s243
 refine SOk.fn ?_
 unfold g243
 refine Ok.b (R:=λr=>(r=zb↔zer s)) ?_ λe he=>Ok.d he
 refine Ok.lp (λy=>y.size<=s.size/\(zer s↔zer y)) (λy=>y.size) ⟨zD _,Iff.rfl⟩ (A9 (by show s.size<=_;omega)) λy hy=>?_
 obtain⟨hy1,hy2⟩:=hy
 refine Ok.n (R:=λc=>(c=true↔0 < y.size/\bAt y 0=0)) ?_ λc hc=>?_
 ·refine Ok.e (λh=>?_) λh=>Ok.d ?_
  ·have h0:0 < y.size:=by simpa using h
   refine Ok.k (by simp;omega) (Ok.d ?_)
   rw[beq_iff_eq]
   exact⟨λh=>⟨h0,h⟩,λh=>h.2⟩
  ·have:¬0 < y.size:=by simpa using h
   exact⟨λh=>(by cases h),λh=>absurd h.1 this⟩
 ·refine Ok.e (λh=>?_) λh=>Ok.d ?_
  ·obtain⟨h0,h1⟩:=hc.1 h
   refine Ok.k (by simp;omega) (Ok.d ?_)
   have hz:(y.extract 1 y.size).size=y.size - 1:=by rw[ByteArray.size_extract];omega
   refine And.intro (And.intro (by omega) (hy2.trans ⟨λhq i hi=>?_,λhq i hi=>?_⟩)) (by show (y.extract 1 y.size).size < y.size;omega)
   ·rw[bAt_ext (by omega) (by omega)];exact hq _ (by omega)
   ·cases i with
    | zero=>exact h1
    | succ i=>
     have:=hq i (by omega)
     rwa [bAt_ext (by omega) (by omega),Nat.add_comm 1 i] at this
  ·have hn:¬(0 < y.size/\bAt y 0=0):=λq=>by rw[hc.2 q] at h;cases h
   show y=zb↔zer s
   rw[emp_iff]
   refine⟨λh0=>hy2.2 λi hi=>by omega,λhq=>?_⟩
   have hq:=hy2.1 hq
   by_cases h0:y.size=0
   ·exact h0
   ·exact absurd ⟨by omega,hq 0 (by omega)⟩ hn
theorem okTRIMZ(s:za)(hs:s.size<=1000):SOk (s212 s) (λr=>(r=zb↔zer s)):=by
 unfold s212
 refine SOk.fn ?_
 unfold g212
 refine Ok.n (R:=λc=>(c=true↔s=zb)) (Ok.e (λh=>Ok.d ?_) λh=>Ok.d ?_) λc hc=>Ok.e (λh=>Ok.d ?_) λh=>?_
 ·simpa using h
 ·simpa using h
 ·have h:=hc.1 h
  rw[h]
  exact⟨λ_ i hi=>absurd hi (Nat.not_lt_zero _),λ_=>rfl⟩
 ·refine Ok.tt (Ok.c (okTRIMRZ s hs) λr1 h1=>?_)
  by_cases hz:zer s
  ·have:=h1.1 hz
   subst this
   exact Ok.c (okTRIMLZ _ (by decide)) λr2 h2=>Ok.d ⟨λ_=>hz,λ_=>h2.2 λi hi=>absurd hi (Nat.not_lt_zero _)⟩
  ·obtain⟨h2,h3⟩:=h1.2 hz
   exact Ok.c (okTRIMLZ r1 (by omega)) λr2 h4=>Ok.d ⟨λq=>absurd (h4.1 q) h2,λq=>absurd q hz⟩
theorem must_runP(c:Bool):(gMustP c).run=some (bif c then .inl () else .inr ()):=by
 cases c
 ·rfl
 ·rfl
theorem T0(a:Nat)(c:Bool):(mustT a c).run=some (bif c then .inl () else .inr ()):=by
 cases c
 ·obtain⟨r,e1,e2⟩:Ok (mustT a false) (λr=>r=.inr ()):=Ok.callp (x:=.inr ()) rfl (λ_ h=>by cases h) λ_ _=>Ok.d rfl
  grind
 ·obtain⟨r,e1,e2⟩:Ok (mustT a true) (λr=>r=.inl ()):=Ok.callp (x:=.inl ()) rfl (λ_ _=>Ok.d rfl) λ_ h=>by cases h
  grind
section
variable {S:za} {a:Int}
theorem at2_run{y:Int×U5×Int}(h:(s129 ⟨S,a⟩ 2).o=some y):(gAt2 0 S [] S a).run=some (y.2.1.fS,y.2.1.fF,y.1,y.2.2):=by
 obtain⟨r,e1,e2⟩:Ok (gAt2 0 S [] S a) (λr=>r=(y.2.1.fS,y.2.1.fF,y.1,y.2.2)):=Ok.c (SOk.o h) (by grind [Ok.d])
 rw[e1,e2]
variable {u2 u4:AI4} {u6 u8:AS4}
theorem at4_run{y:Int×U5×Int}(h:(s129 ⟨u2.1,u2.2.1⟩ 2).o=some y):(gAt4 0 S [] S a u2).run=some (y.2.1.fS,y.2.1.fF,y.2.2,y.1):=by
 obtain⟨r,e1,e2⟩:Ok (gAt4 0 S [] S a u2) (λr=>r=(y.2.1.fS,y.2.1.fF,y.2.2,y.1)):=Ok.c (SOk.o h) (by grind [Ok.d])
 rw[e1,e2]
theorem at6_run{y:za×U5×Int}(h:(s211 ⟨u4.1,u4.2.1⟩ u4.2.2.2).o=some y):(gAt6 0 S [] S a u2 u4).run=some (y.2.1.fS,y.2.1.fF,y.2.2,y.1):=by
 obtain⟨r,e1,e2⟩:Ok (gAt6 0 S [] S a u2 u4) (λr=>r=(y.2.1.fS,y.2.1.fF,y.2.2,y.1)):=Ok.c (SOk.o h) (by grind [Ok.d])
 rw[e1,e2]
theorem at8_run{y:za×U5×Int}(h:(s211 ⟨u6.1,u6.2.1⟩ (Y1 .i64 (Q7 (0 - u4.2.2.2)) 3)).o=some y):(gAt8 0 S [] S a u2 u4 u6).run=some (y.2.1.fS,y.2.1.fF,y.2.2,y.1):=by
 obtain⟨r,e1,e2⟩:Ok (gAt8 0 S [] S a u2 u4 u6) (λr=>r=(y.2.1.fS,y.2.1.fF,y.2.2,y.1)):=Ok.c (SOk.o h) (by grind [Ok.d])
 rw[e1,e2]
theorem at9_err(h:u8.2.2.1=7):(gAt9P u8).run=some (.inr ()):=by
 obtain⟨r,e1,e2⟩:Ok (gAt9P u8) (λr=>r=.inr ()):=Ok.f (by rw[h];rfl) ⟨_,T0 9008 false,rfl⟩
 rw[e1,e2]
theorem at9_ok(h:u8.2.2.1=0)(hz:u8.2.2.2.size<=1000)(c:Bool)(hc:c=true↔zer u8.2.2.2):(gAt9P u8).run=some (bif c then .inl () else .inr ()):=by
 obtain⟨r,e1,e2⟩:Ok (gAt9P u8) (λr=>r=(bif c then .inl () else .inr ())):=by
  refine Ok.t (by rw[h];rfl) (Ok.c (okTRIMZ _ hz) λr hr=>⟨_,T0 9008 _,?_⟩)
  grind
 rw[e1,e2]
end
def n2(S:za)(a:Nat):Int:=num (Z1 (S.extract a (a+2)))
theorem F0{S:za}{a:Nat}(h:a+2<=S.size):0<=n2 S a/\n2 S a < 65536:=by
 have:=num_lt (l:=Z1 (S.extract a (a+2))) λc hc=>G0 hc
 rw[J0,extract_size h] at this
 exact this
open Classical in
noncomputable def parse1(S:za)(a:Nat):Option (Q3×Nat):=
 if S.size < a+4+up4 (n2 S (a+2)).toNat then none
 else if zer (S.extract (a+4+(n2 S (a+2)).toNat) (a+4+up4 (n2 S (a+2)).toNat)) then some (⟨n2 S a,S.extract (a+4) (a+4+(n2 S (a+2)).toNat)⟩,a+4+up4 (n2 S (a+2)).toNat)
 else none
theorem and3G(n:Nat)(hn:n < 65536):Y1 .i64 (Q7 (0 - (n:Int))) 3=((up4 n - n:Nat):Int):=by
 have h1:Q7 (0 - (n:Int))=-(n:Int):=by grind [Z9]
 rw[h1]
 show IntKind.i64.wrap ((BitVec.ofInt 64 (-(n:Int)) &&& BitVec.ofInt 64 3).toNat:Int)=_
 have h2:(BitVec.ofInt 64 (-(n:Int)) &&& BitVec.ofInt 64 3).toNat=(up4 n - n):=by
  rw[BitVec.toNat_and,show (BitVec.ofInt 64 3).toNat=2 ^ 2 - 1 from rfl,Nat.and_two_pow_sub_one_eq_mod,BitVec.toNat_ofInt]
  unfold up4
  omega
 rw[h2]
 exact Z9 (by grind) (by unfold up4;omega)
noncomputable def outV1(S:za):Option (Q3×Nat)->(Q3×za×Int)⊕Unit
 | some (x,b)=>.inl (x,S,(b:Int))
 | none=>.inr ()
theorem parse1_none{S:za}{a:Nat}(h:S.size < a+4+up4 (n2 S (a+2)).toNat):parse1 S a=none:=if_pos h
theorem atBody_val(S:za)(a:Nat)(ha:a<=S.size)(hS:S.size<=1000):atBody S S (a:Int)=some (outV1 S (parse1 S a)):=by
 have hup:=up4_le (n2 S (a+2)).toNat
 unfold atBody
 rcases wo S.size (a+2) with h2|h2
 ·obtain⟨y,y1,y2⟩:=okUINTE S a 2 ha h2 (by decide) (by decide) (by omega)
  rw[at2_run y1];simp only[zP]
  rw[y2,T0,parse1_none (by omega)]
  simp only[show ((7:Int)==0)=false from rfl,cond_false,zP,Sum.elim_inr,outV1]
 obtain⟨y,y1,y2⟩:=okUINT S a 2 h2 (by decide) (by decide) (by omega)
 subst y2
 rw[at2_run y1];simp only[zP]
 rw[T0]
 simp only[show ((0:Int)==0)=true from rfl,cond_true,zP,Sum.elim_inl]
 rcases wo S.size (a+4) with h4|h4
 ·obtain⟨y,y1,y2⟩:=okUINTE S (a+2) 2 h2 (by omega) (by decide) (by decide) (by omega)
  rw[at4_run y1];simp only[zP]
  rw[y2,T0,parse1_none (by omega)]
  simp only[show ((7:Int)==0)=false from rfl,cond_false,zP,Sum.elim_inr,outV1]
 obtain⟨y,y1,y2⟩:=okUINT S (a+2) 2 (by omega) (by decide) (by decide) (by omega)
 subst y2
 rw[at4_run y1];simp only[zP]
 rw[T0]
 simp only[show ((0:Int)==0)=true from rfl,cond_true,zP,Sum.elim_inl]
 have hr:=F0 (S:=S) (a:=a+2) (by omega)
 rw[show num (Z1 (S.extract (a+2) (a+2+2)))=n2 S (a+2) from rfl,show num (Z1 (S.extract a (a+2)))=n2 S a from rfl]
 unfold parse1
 generalize hn:n2 S (a+2)=n at hup hr ⊢
 obtain⟨n,rfl⟩:∃k:Nat,n=(k:Int):=⟨n.toNat,by omega⟩
 simp only[_root_.Int.toNat_natCast] at hup ⊢
 rcases wo S.size (a+4+n) with h6|h6
 ·obtain⟨y,y1,y2⟩:=okTAKEE S (a+2+2) n (by omega) (by omega) (by omega)
  rw[at6_run y1];simp only[zP]
  rw[y2,T0,if_pos (by omega)]
  simp only[show ((7:Int)==0)=false from rfl,cond_false,zP,Sum.elim_inr,outV1]
 obtain⟨y,y1,y2⟩:=okTAKE S (a+2+2) n (by omega) (by omega)
 subst y2
 rw[at6_run y1];simp only[zP]
 rw[T0]
 simp only[show ((0:Int)==0)=true from rfl,cond_true,zP,Sum.elim_inl]
 have e3:=and3G n (by omega)
 rcases wo S.size (a+4+up4 n) with h8|h8
 ·obtain⟨y,y1,y2⟩:=okTAKEE S (a+2+2+n) (up4 n - n) (by omega) (by omega) (by omega)
  simp_all [at8_run,zP,at9_err,if_pos,Sum.elim_inr,outV1]
 obtain⟨y,y1,y2⟩:=okTAKE S (a+2+2+n) (up4 n - n) (by omega) (by omega)
 subst y2
 rw[<-e3] at y1
 rw[at8_run y1];simp only[zP]
 have ez:S.extract (a+2+2+n) (a+2+2+n+(up4 n - n))=S.extract (a+4+n) (a+4+up4 n):=by congr 1;omega
 rw[if_neg (by omega)]
 by_cases hz:zer (S.extract (a+4+n) (a+4+up4 n))
 ·rw[at9_ok (u8:=(_,_,_,_)) rfl (by grind [ByteArray.size_extract]) true (by grind),if_pos hz]
  simp only[cond_true,zP,Sum.elim_inl,outV1,atN]
  grind
 ·rw[at9_ok (u8:=(_,_,_,_)) rfl (by grind [ByteArray.size_extract]) false (by grind),if_neg hz]
  simp only[cond_false,zP,Sum.elim_inr,outV1]
theorem beN_num{l:List Int}(h:∀c,c∈l->0<=c/\c < 256):beN l.length (num l)=l:=by
 rcases List.eq_nil_or_concat l with rfl|⟨k,x,rfl⟩
 ·rfl
 ·have hk:∀c,c∈k->0<=c/\c < 256:=λc hc=>h c (by simp[hc])
  have hx:=h x (by simp)
  rw[List.concat_eq_append,wM,num_snoc]
  show beN (k.length+1) _=_
  rw[beN,show (num k * 256+x) / 256=num k by omega,show (num k * 256+x) % 256=x by omega,beN_num hk]
termination_by l.length
decreasing_by grind
theorem C7{S:za}{a n:Nat}(h:a+n<=S.size):strOfNums (beN n (num (Z1 (S.extract a (a+n)))))=S.extract a (a+n):=by
 have hl:(Z1 (S.extract a (a+n))).length=n:=by rw[J0,extract_size h]
 have:=beN_num (l:=Z1 (S.extract a (a+n))) λc hc=>G0 hc
 grind [C8]
theorem bAt_octP{s:za}{k:Nat}(h:k < s.size):(Z1 s)[k]?=some (bAt s (k:Int)):=by
 simp_all [zV,zN,Array.getElem?_toList,wl,wH,Z1,bAt]
theorem zer_eq{s:za}(h:zer s):s=strOfNums (List.replicate s.size 0):=by
 rw[<-C8 s]
 congr 1
 rw[C8]
 refine List.ext_getElem? λi=>?_
 rw[List.getElem?_replicate]
 by_cases hi:i < s.size
 ·rw[bAt_octP hi,h i hi,if_pos hi]
 simp_all [if_neg,List.getElem?_eq_none,J0]
theorem zer_rep(n:Nat):zer (strOfNums (List.replicate n 0)):=λi hi=>by
 have h:=bAt_octP hi
 rw[A1 (l:=List.replicate n 0) (λc hc=>by rw[List.eq_of_mem_replicate hc];decide),List.getElem?_replicate] at h
 grind
theorem app_ext{S:za}{a b c:Nat}(h:a<=b)(h2:b<=c):S.extract a b++S.extract b c=S.extract a c:=by
 simp_all
theorem parse1_sound{S:za}{a b:Nat}{x:Q3}(h:parse1 S a=some (x,b)):encA x=S.extract a b/\b<=S.size/\a < b/\(0<=x.fm/\x.fm < 65536)/\x.fp.size<=S.size:=by
 unfold parse1 at h
 split at h
 ·cases h
 rename_i h1
 split at h
 rotate_left
 ·cases h
 rename_i h2
 obtain⟨rfl,rfl⟩:=Prod.mk.inj (wq h)
 have hup:=up4_le (n2 S (a+2)).toNat
 have hr:=F0 (S:=S) (a:=a+2) (by omega)
 have hk:=F0 (S:=S) (a:=a) (by omega)
 have e1:u16 (n2 S a)=S.extract a (a+2):=C7 (by omega)
 have e2:u16 (n2 S (a+2))=S.extract (a+2) (a+2+2):=C7 (by omega)
 generalize n2 S (a+2)=n at *
 obtain⟨n,rfl⟩:∃k:Nat,n=(k:Int):=⟨n.toNat,by omega⟩
 simp only[zN] at *
 grind [ByteArray.size_extract,zer_eq,app_ext,up4,encA,z4]
theorem ext_mid{a b c:za}:(a++b++c).extract a.size (a.size+b.size)=b:=by
 rw[ByteArray.extract_append,ByteArray.extract_append]
 have e1:a.extract a.size (a.size+b.size)=zb:=by simp_all
 have e2:b.extract (a.size - a.size) (a.size+b.size - a.size)=b:=by
  simp_all
 grind [ByteArray.extract_eq_empty_iff,ByteArray.size_append,ByteArray.empty_append,ByteArray.append_empty,ByteArray.empty]
theorem P6{s a b c:za}{i j:Nat}(h:s=a++b++c)(hi:i=a.size)(hj:j=i+b.size):s.extract i j=b:=by
 grind [ext_mid]
theorem num_u16{v:Int}(h0:0<=v)(h:v < 65536):num (Z1 (u16 v))=v:=by
 unfold u16;rw[A1 (beN_byte 2 v),num_beN 2 v h0 (by rw[show (256:Int) ^ 2=65536 by decide];exact h)]
theorem enc_split{l:List Q3}{k:Nat}{x:Q3}(h:l[k]?=some x):W2 l=W2 (l.take k)++encA x++W2 (l.drop (k+1)):=by
 induction l generalizing k with
 | nil=>simp at h
 | cons a l ih=>
  grind [ByteArray.empty_append,List.getElem?_cons_succ,ByteArray.append_assoc,W2]
theorem parse1_enc{S:za}{l:List Q3}{k:Nat}{x:Q3}(h:l[k]?=some x)(hx:L5 x)(hS:W2 l=S):parse1 S (Y4 (l.take k))=some (x,Y4 (l.take (k+1))):=by
 subst hS
 obtain⟨⟨x1,x2⟩,x3⟩:=hx
 have hsp:=enc_split h
 have hz:(W2 l).size=Y4 (l.take k)+(4+up4 x.fp.size)+(W2 (l.drop (k+1))).size:=by grind [ByteArray.size_append,I7,encA_size]
 have hsp1:W2 l=W2 (l.take k)++u16 x.fm++(u16 (x.fp.size:Nat)++(x.fp++z4 x.fp)++W2 (l.drop (k+1))):=by grind [ByteArray.append_assoc,encA]
 have hsp2:W2 l=(W2 (l.take k)++u16 x.fm)++u16 (x.fp.size:Nat)++((x.fp++z4 x.fp)++W2 (l.drop (k+1))):=by grind [ByteArray.append_assoc,encA]
 have hsp3:W2 l=(W2 (l.take k)++u16 x.fm++u16 (x.fp.size:Nat))++x.fp++(z4 x.fp++W2 (l.drop (k+1))):=by grind [ByteArray.append_assoc,encA]
 have hsp4:W2 l=(W2 (l.take k)++u16 x.fm++u16 (x.fp.size:Nat)++x.fp)++z4 x.fp++W2 (l.drop (k+1)):=by grind [ByteArray.append_assoc,encA]
 have p:=I7 (l.take k)
 have hz4:(z4 x.fp).size=up4 x.fp.size - x.fp.size:=by unfold z4;rw[strOfNums_size,wW]
 have hup:=up4_le x.fp.size
 have q1:(W2 l).extract (Y4 (l.take k)) (Y4 (l.take k)+2)=u16 x.fm:=P6 hsp1 p.symm (by rw[W0])
 have q2:(W2 l).extract (Y4 (l.take k)+2) (Y4 (l.take k)+2+2)=u16 (x.fp.size:Nat):=(by grind [P6,ByteArray.size_append,W0])
 have q3:(W2 l).extract (Y4 (l.take k)+4) (Y4 (l.take k)+4+x.fp.size)=x.fp:=P6 hsp3 (by grind) rfl
 have q4:(W2 l).extract (Y4 (l.take k)+4+x.fp.size) (Y4 (l.take k)+4+up4 x.fp.size)=z4 x.fp:=(by grind [P6,ByteArray.size_append,W0])
 have m1:n2 (W2 l) (Y4 (l.take k))=x.fm:=by grind [num_u16,n2]
 have m2:n2 (W2 l) (Y4 (l.take k)+2)=((x.fp.size:Nat):Int):=by grind [num_u16,n2]
 unfold parse1
 rw[m1,m2]
 simp only[zN]
 have hzer:zer ((W2 l).extract (Y4 (l.take k)+4+x.fp.size) (Y4 (l.take k)+4+up4 x.fp.size)):=by rw[q4];exact zer_rep _
 simp_all [if_neg,if_pos,sizeL_take,Nat.add_assoc]
theorem sizeL_take_le(l:List Q3)(k:Nat):Y4 (l.take k)<=Y4 l:=by
 grind [List.take_append_drop,Y4]
def AttR(S:za)(q:ALL2):Prop:=(∀l,q=.inl l->W2 l=S/\∀x,x∈l->(0<=x.fm/\x.fm < 65536)/\x.fp.size<=S.size)/\∀l,(∀x,x∈l->L5 x)->W2 l=S->q=.inl l
theorem gAd_run(l:List Q3)(x:Q3)(h:l.length<=1000000):(gAd l x).run=some ():=by
 obtain⟨r,e1,_⟩:Ok (gAd l x) (λ_=>True):=Ok.app (by grind) (Ok.d trivial)
 rw[e1]
theorem sizeL_len(l:List Q3):4 * l.length<=Y4 l:=by
 unfold Y4
 induction l with
 | nil=>grind
 | cons x l ih=>grind
theorem attP_val(S:za)(hS:S.size<=1000):∃q,attP S=some q/\AttR S q:=by
 refine iter_inv (f:=atStep S) (λy=>∃a out,y=(S,((a:Nat):Int),out)/\a<=S.size/\W2 out=S.extract 0 a/\(∀x,x∈out->(0<=x.fm/\x.fm < 65536)/\x.fp.size<=S.size)/\∀l,(∀x,x∈l->L5 x)->W2 l=S->∃k,k<=l.length/\out=l.take k/\a=Y4 (l.take k))
  (λy=>S.size - y.2.1.toNat) (AttR S) ?_ FUEL (S,0,[]) ⟨0,[],rfl,Nat.zero_le _,?_,λx hx=>by simp at hx,λl _ _=>⟨0,Nat.zero_le _,rfl,rfl⟩⟩ (A9 (by grind))
 ·rintro y ⟨a,out,rfl,ha,he,hk,hc⟩
  unfold atStep
  rcases wo a S.size with hlt|hge
  ·rw[ww (show ((a:Nat):Int) < (S.size:Int) by omega),cond_true,atBody_val S a ha hS]
   simp only[zP]
   have hl:out.length<=1000000:=by
    grind [sizeL_len,I7,ByteArray.size_extract]
   cases hp:parse1 S a with
   | none=>
    refine⟨.inr (.inr out),rfl,?_⟩
    refine And.intro (λl h=>(by cases h)) λl hl2 hS2=>?_
    exfalso
    obtain⟨k,k1,_,k3⟩:=hc l hl2 hS2
    have hlt2:k < l.length:=by
     grind [Nat.lt_or_ge,List.take_of_length_le,I7]
    simp_all [zR,parse1_enc,List.getElem_mem]
   | some z=>
    obtain⟨x,b⟩:=z
    obtain⟨p1,p2,p3,p4,p5⟩:=parse1_sound hp
    refine⟨.inl (S,((b:Nat):Int),out++[x]),?_,?_⟩
    rotate_left
    ·refine And.intro ⟨b,out++[x],rfl,p2,?_,λy hy=>?_,λl hl2 hS2=>?_⟩ ?_
     ·have:∀l:List Q3,W2 (l++[x])=W2 l++encA x:=λl=>by
       induction l with
       | nil=>simp[W2]
       | cons y l ih=>rw[List.cons_append,W2,W2,ih,ByteArray.append_assoc]
      grind [ByteArray.extract_append_extract]
     ·grind
     ·obtain⟨k,k1,k2,k3⟩:=hc l hl2 hS2
      have hlt2:k < l.length:=by
       grind [Nat.lt_or_ge,List.take_of_length_le,I7]
      have hx:l[k]?=some l[k]:=(by grind)
      have h2:=parse1_enc hx (by grind) hS2
      grind [Prod.mk.inj,Option.some.inj,List.take_add_one]
     grind
    ·show ((gAd out x).run.bind λ_=>_)=_
     grind [gAd_run]
  ·rw[wR (show ¬((a:Nat):Int) < (S.size:Int) by omega),cond_false]
   refine⟨.inr (.inl out),rfl,?_⟩
   refine And.intro (λl h=>?_) λl hl2 hS2=>?_
   ·grind [ByteArray.extract_zero_size]
   ·obtain⟨k,k1,k2,k3⟩:=hc l hl2 hS2
    rcases wo k l.length with h|h
    ·exfalso
     have hx:l[k]?=some l[k]:=zR h
     have h1:=sizeL_take hx
     grind [sizeL_take_le,I7]
    grind
 ·show zb=S.extract 0 0
  grind [ByteArray.extract_eq_empty_iff]
end Go.Proofs.YtjpahkpfkohfkaaGreatDoor
namespace Go.Proofs.YtjpahkpfkohfkaaGreatDoor
open Go Go.EV
def DecR(s:za)(r:Z8×Int):Prop:=
 if s.size < 20\/(s.size:Int) < 20+n2 s 2 then r=(z0,7)
 else (∃m,D9 m/\encM m=s/\r=(m,0))\/(∀m,D9 m->encM m≠s)/\r=(z0,5)
theorem DecR_one{s:za}{r r':Z8×Int}(h:DecR s r)(h':DecR s r')(hu:∀m m',D9 m->D9 m'->encM m=s->encM m'=s->m=m'):r=r':=by
 unfold DecR at h h'
 grind
theorem I0{m:Z8}{s:za}(hm:D9 m)(h:encM m=s):s.size=20+Y4 m.fo/\n2 s 0=W7 m.fG m.fH/\n2 s 2=((Y4 m.fo:Nat):Int)/\num (Z1 (s.extract 4 (4+4)))=554869826/\s.extract 8 20=m.fj/\s.extract 20 s.size=W2 m.fo:=by
 subst h
 have hid:m.fj.size=12:=hm.2.2.1
 have hz:20+Y4 m.fo<=1200:=hm.q.2
 have hk:=F3 hm.1 hm.2.1
 unfold encM
 generalize W7 m.fG m.fH=kd at hk ⊢
 have hS:=bodyB_size kd 0 m.fj m.fo
 generalize m.fj=id at hid hS ⊢
 generalize m.fo=l at hz hS ⊢
 have s1:D1 kd 0 id l=zb++u16 kd++(u16 ((Y4 l:Nat)+0)++strOfNums (beN 4 554869826)++id++W2 l):=by
  grind [ByteArray.append_assoc,ByteArray.empty_append,D1,headB]
 have s2:D1 kd 0 id l=u16 kd++u16 ((Y4 l:Nat)+0)++(strOfNums (beN 4 554869826)++id++W2 l):=by
  grind [ByteArray.append_assoc,D1,headB]
 have s3:D1 kd 0 id l=(u16 kd++u16 ((Y4 l:Nat)+0))++strOfNums (beN 4 554869826)++(id++W2 l):=by
  grind [ByteArray.append_assoc,D1,headB]
 have s4:D1 kd 0 id l=(u16 kd++u16 ((Y4 l:Nat)+0)++strOfNums (beN 4 554869826))++id++W2 l:=rfl
 have s5:D1 kd 0 id l=(u16 kd++u16 ((Y4 l:Nat)+0)++strOfNums (beN 4 554869826)++id)++W2 l++zb:=by
  simp_all
 have x1:(D1 kd 0 id l).extract 0 (0+2)=u16 kd:=P6 s1 rfl (by rw[W0])
 have x2:(D1 kd 0 id l).extract 2 (2+2)=u16 ((Y4 l:Nat)+0):=(by grind [P6,W0])
 have x3:(D1 kd 0 id l).extract 4 (4+4)=strOfNums (beN 4 554869826):=(by grind [P6,ByteArray.size_append,W0,H4,J9])
 have x4:(D1 kd 0 id l).extract 8 20=id:=(by grind [P6,ByteArray.size_append,W0,H4,J9])
 have x5:(D1 kd 0 id l).extract 20 (D1 kd 0 id l).size=W2 l:=P6 s5 (by simp only[ByteArray.size_append,W0,H4,J9,hid]) (by rw[hS,I7,hid])
 refine⟨by rw[hS,hid],?_,?_,?_,x4,x5⟩
 ·grind [num_u16,n2]
 ·grind [num_u16,n2]
 ·rw[x3,A1 (beN_byte 4 _),num_beN 4 _ (by decide) (by decide)]
theorem enc_made{s id:za}{l:List Q3}(hs:s.size=20+Y4 l)(h0:n2 s 0 < 16384)(h2:n2 s 2=((Y4 l:Nat):Int))(h4:num (Z1 (s.extract 4 (4+4)))=554869826)(hi:s.extract 8 20=id)(hl:W2 l=s.extract 20 s.size):encM ⟨clsS (n2 s 0),metS (n2 s 0),id,l⟩=s:=by
 have h00:=(F0 (S:=s) (a:=0) (by omega)).1
 unfold encM D1 headB
 simp only
 rw[kind_cls ⟨h00,h0⟩,hl,Int.add_zero,<-h2,<-h4,<-hi]
 rw[show u16 (n2 s 0)=s.extract 0 2 from C7 (a:=0) (n:=2) (by omega),show u16 (n2 s 2)=s.extract 2 4 from C7 (a:=2) (n:=2) (by omega),C7 (a:=4) (n:=4) (by omega)]
 grind [app_ext,ByteArray.extract_zero_size]
theorem ext_whole{s:za}{n:Nat}(h:n=s.size):s.extract 0 n=s:=by simp_all
theorem okDECODE2{s:za}{a n:Nat}(h:a+n<=s.size)(hn:1<=n)(hn7:n<=7)(hs:s.size<=100000):SOk (s128 (a:Int) ((a+n:Nat):Int) s) (λr=>r=num (Z1 (s.extract a (a+n)))):=by
 have hz:=extract_size h
 unfold s128
 refine SOk.fn ?_
 unfold g128
 refine Ok.k (by simp;omega) ?_
 have e:Q7 (((a+n:Nat):Int) - (a:Int))=(n:Int):=by grind [Z9]
 rw[e,zN,zN]
 refine Ok.c (okUINT (s.extract a (a+n)) 0 n (by omega) hn hn7 (by omega)) λr hr=>Ok.d ?_
 simp_all [zX,ext_whole,num,Z1]
def GoodR(s:za)(r:Z8×Int):Prop:=(∃m,D9 m/\encM m=s/\r=(m,0))\/(∀m,D9 m->encM m≠s)/\r=(z0,5)
theorem mustP_o(c:Bool):(sMustP c).o=some (bif c then .inl () else .inr ()):=by
 cases c
 ·exact must_runP false
 ·exact must_runP true
theorem inl_inr{α β:Type}{a:α}{b:β}{p:Prop}(h:(Sum.inl a:α⊕β)=.inr b):p:=by cases h
theorem sumU_of{s:za}{l:List Q3}(h:attP s=some (.inl l)):sumU (attP s)=some (.inl l):=by rw[h];rfl
theorem sumU_of2{s:za}{l:List Q3}(h:attP s=some (.inr l)):sumU (attP s)=some (.inr ()):=by rw[h];rfl
attribute [local irreducible] attP sumU in
theorem okGDEM(s:za)(hs:s.size<=120)(h20:20<=s.size)(ht:n2 s 0 < 16384)(h4:num (Z1 (s.extract 4 (4+4)))=554869826)(hsz:(s.size:Int)=20+n2 s 2):Ok (gDeM s (n2 s 0)) (λq=>GoodR s (decR s q)):=by
 have h00:=F0 (S:=s) (a:=0) (by omega)
 unfold gDeM
 rw[(read_eq ⟨h00.1,ht⟩).1,(read_eq ⟨h00.1,ht⟩).2]
 have hez:(s.extract 20 s.size).size=s.size - 20:=by simp_all
 obtain⟨q,hq,hq1,hq2⟩:=attP_val (s.extract 20 s.size) (by omega)
 refine Ok.k (by simp;omega) (Ok.k (by simp;omega) (Ok.c (R:=λ_=>True) ⟨(),rfl,trivial⟩ λ_ _=>?_))
 cases q with
 | inr l=>
  refine Ok.callp (x:=.inr ()) (sumU_of2 hq) (λ_ h=>by cases h) λ_ _=>Ok.d (.inr ⟨λm hm2 h=>?_,rfl⟩)
  have hf:=I0 hm2 h
  have:=hq2 m.fo hm2.q.1 hf.q.2.symm
  cases this
 | inl l=>
  obtain⟨g1,g2⟩:=hq1 l rfl
  have gz:Y4 l=s.size - 20:=by grind [I7]
  have gl:=sizeL_len l
  have hid:(s.extract 8 20).size=12:=by simp_all
  have hmo:D9 ⟨clsS (n2 s 0),metS (n2 s 0),s.extract 8 20,l⟩:=⟨clsS_range ⟨h00.1,ht⟩,metS_range ⟨h00.1,ht⟩,hid,by grind,λx hx=>⟨(g2 x hx).1,by grind⟩,by grind⟩
  have he:=enc_made (s:=s) (id:=s.extract 8 20) (l:=l) (by omega) ht (by omega) h4 rfl g1
  have hco:(sCoP (s.extract 20 s.size)).o=some (.inl l):=sumU_of hq
  refine Ok.callp (x:=.inl l) hco (λr hr=>?_) λ_ h=>inl_inr h
  obtain rfl:=Sum.inl.inj hr
  refine Ok.c (okSCHECK _ hmo) λc hc=>?_
  subst hc
  rw[show ((0:Int)==0)=true from rfl]
  refine Ok.callp (x:=.inl ()) (mustP_o true) (λ_ _=>Ok.d ?_) λ_ h=>inl_inr h
  exact .inl ⟨⟨clsS (n2 s 0),metS (n2 s 0),s.extract 8 20,l⟩,hmo,he,rfl⟩
theorem okDECM(s:za)(hs:s.size<=120):∃r,decM s=some r/\DecR s r:=by
 unfold decM DecR
 rcases wo s.size 20 with h20|h20
 ·have e:(gDeE s).run=some (z0,7):=by
   obtain⟨r,e1,e2⟩:Ok (gDeE s) (λr=>r=(z0,7)):=Ok.f (by simp;omega) (Ok.t (by simp;omega) (Ok.d rfl))
   rw[e1,e2]
  grind
 have e:(gDeE s).run=none:=by
  grind [decide_eq_false,gDeE,T.run]
 have e1:(gDe1 s).run=some ():=by
  obtain⟨r,e1,_⟩:Ok (gDe1 s) (λ_=>True):=Ok.f (by simp;omega) (Ok.f (by simp;omega) (Ok.d trivial))
  rw[e1]
 rw[e,e1]
 simp only[zP]
 have hn2:=F0 (S:=s) (a:=2) (by omega)
 have h00:=F0 (S:=s) (a:=0) (by omega)
 have key:Ok (gDe2P s) (λq=>if (s.size:Int) < 20+n2 s 2 then q=.inr (.inl ()) else GoodR s (decR s q)):=by
  refine Ok.v (okDECODE2 (s:=s) (a:=2) (n:=2) (by omega) (by decide) (by decide) (by omega)) λr hr=>?_
  have hr:r=n2 s 2:=hr
  subst hr
  rw[Z9 (n:=(20:Int)+n2 s 2) (by omega) (by omega)]
  refine Ok.e (λhc=>Ok.d (by grind)) λhc=>?_
  have hc:¬(s.size:Int) < 20+n2 s 2:=by simpa using hc
  simp only[if_neg hc]
  refine Ok.v (okDECODE2 (s:=s) (a:=0) (n:=2) (by omega) (by decide) (by decide) (by omega)) λr hr=>?_
  have hr:r=n2 s 0:=hr
  subst hr
  refine Ok.e (λht=>?_) λht=>?_
  rotate_left
  ·refine Ok.callp (x:=.inr ()) (mustP_o false) (λ_ h=>by cases h) λ_ _=>Ok.d (.inr ⟨λm hm h=>?_,rfl⟩)
   have hf:=I0 hm h
   have hk:=F3 hm.1 hm.2.1
   rw[hf.2.1] at ht
   have:¬W7 m.fG m.fH < 16384:=by simpa using ht
   omega
  have ht:n2 s 0 < 16384:=by simpa using ht
  refine Ok.v (okDECODE2 (s:=s) (a:=4) (n:=4) (by omega) (by decide) (by decide) (by omega)) λr hr=>?_
  refine Ok.e (λhm=>?_) λhm=>?_
  rotate_left
  ·refine Ok.callp (x:=.inr ()) (mustP_o false) (λ_ h=>by cases h) λ_ _=>Ok.d (.inr ⟨λm hm2 h=>?_,rfl⟩)
   have hf:=I0 hm2 h
   grind
  have h4:num (Z1 (s.extract 4 (4+4)))=554869826:=by grind
  by_cases hsz:(s.size:Int)=20+n2 s 2
  rotate_left
  ·refine Ok.callp (x:=.inr ()) (by grind [mustP_o,beq_false_of_ne,n2]) (λ_ h=>by cases h) λ_ _=>Ok.d (.inr ⟨λm hm2 h=>?_,rfl⟩)
   have hf:=I0 hm2 h
   grind
  refine Ok.callp (x:=.inl ()) (by simp_all [mustP_o,beq_iff_eq,n2]) (λ_ _=>?_) λ_ h=>by cases h
  grind [okGDEM]
 obtain⟨q,k1,k2⟩:=key
 rw[k1]
 refine⟨_,rfl,?_⟩
 by_cases hc:(s.size:Int) < 20+n2 s 2
 ·rw[if_pos hc] at k2
  rw[if_pos (.inr hc),k2]
  rfl
 ·rw[if_neg hc] at k2
  rw[if_neg (by omega)]
  exact k2
theorem kind_iff{c k t:Int}(hc:0<=c/\c<=3)(hk:0<=k/\k<=4095)(ht:0<=t):W7 c k=t↔t < 16384/\clsS t=c/\metS t=k:=by
 grind [F3,clsS_kind,metS_kind,kind_cls]
theorem n2_shift{s:za}{j:Nat}(h:20+j+2<=s.size):n2 (s.extract 20 s.size) j=n2 s (20+j):=by
 grind [ByteArray.extract_extract,n2]
theorem parse1_inv{S:za}{a b:Nat}{x:Q3}(h:parse1 S a=some (x,b)):x=⟨n2 S a,S.extract (a+4) (a+4+(n2 S (a+2)).toNat)⟩/\b=a+4+up4 (n2 S (a+2)).toNat/\b<=S.size:=by
 unfold parse1 at h
 split at h
 ·cases h
 grind
def fnd(t c:Int)(n:Nat)(y:Int×Int×Bool):Int×Int×Bool:=if t < 16384/\clsS t=c/\metS t < (n:Int) then (c,metS t,true) else y
theorem fnd_step{t c:Int}{n:Nat}{y:Int×Int×Bool}(hc:0<=c/\c<=3)(hn:n < 4096)(ht:0<=t):fnd t c (n+1) y=if W7 c (n:Int)=t then (c,(n:Int),true) else fnd t c n y:=by
 have h:=kind_iff (c:=c) (k:=(n:Int)) hc (by omega) ht
 unfold fnd
 grind
theorem fnd_zero{t c:Int}{y:Int×Int×Bool}(ht:0<=t):fnd t c 0 y=y:=by
 unfold fnd
 refine if_neg λq=>?_
 grind [metS]
theorem fnd_all{t:Int}(ht:0<=t):fnd t 3 4096 (fnd t 2 4096 (fnd t 1 4096 (fnd t 0 4096 (0,0,false))))=if t < 16384 then (clsS t,metS t,true) else (0,0,false):=by
 unfold fnd
 by_cases h:t < 16384
 ·have h1:=clsS_range ⟨ht,h⟩
  have h2:=metS_range ⟨ht,h⟩
  grind
 ·simp[h]
section
variable (s:za)
def atI(y:List Q3×Int):Prop:=∃a:Nat,y.2=(a:Int)/\20<=a/\a<=s.size+3/\4 * y.1.length+20<=a/\(∀x,x∈y.1->(0<=x.fm/\x.fm < 65536)/\x.fp.size<=s.size)/\Y4 y.1+20=a/\
 ∀l,(∀x,x∈l->L5 x)->W2 l=s.extract 20 s.size->∃k,k<=l.length/\y.1=l.take k/\a=20+Y4 (l.take k)
end
theorem okFND(s:za)(c:Int)(hc:0<=c/\c<=3)(h00:0<=n2 s 0)(h2:20<=s.size)(num0:SOk (s70 (s.extract 0 2)) (λr=>r=n2 s 0)){S:Int×Int×Bool×Int->Ext}{a1 a2 a3 b1 b2:Nat}{y0:Int×Int×Bool} :
  Ok (.lp S (λl=>.br b1 (decide (l.2.2.2 < 4096)) (.call a1 (s147 c l.2.2.2) [] [] λr=>.chk a2 (decide (0<=(2:Int))&&decide ((2:Int)<=(s.size:Int))) (.call a3 (s70 (s.extract 0 2)) [] [] λr2=>
   .br b2 (r==r2) (.done (.inl (c,l.2.2.2,true,(Q7 (l.2.2.2+1))))) (.done (.inl (l.1,l.2.1,l.2.2.1,(Q7 (l.2.2.2+1))))))) (.done (.inr (l.1,l.2.1,l.2.2.1)))) (y0.1,y0.2.1,y0.2.2,0):TT (Int×Int×Bool)) (λe=>e=fnd (n2 s 0) c 4096 y0):=by
 refine Ok.s 4096 (by decide) (λk y=>y=((fnd (n2 s 0) c k y0).1,(fnd (n2 s 0) c k y0).2.1,(fnd (n2 s 0) c k y0).2.2,(k:Int))) (by rw[fnd_zero h00];rfl) (λk y hy hk=>?_) λy hy=>?_
 ·subst hy
  refine Ok.t (by simp;omega) (Ok.c (okR8KIND (c:=c) (m:=(k:Int)) hc (by omega)) λr hr=>Ok.k (by simp;omega) (Ok.c num0 λr2 hr2=>?_))
  subst hr hr2
  rw[fnd_step (n:=k) hc hk h00]
  generalize fnd (n2 s 0) c k y0=y
  refine Ok.e (λhc=>Ok.d ?_) λhc=>Ok.d ?_
  ·show (_,_,_,Q7 ((k:Int)+1))=_
   rw[if_pos (eq_of_beq hc),Y0 hk (by decide)]
  ·show (_,_,_,Q7 ((k:Int)+1))=_
   rw[if_neg (λe=>by rw[e,beq_self_eq_true] at hc;cases hc),Y0 hk (by decide)]
 ·subst hy
  exact Ok.f rfl (Ok.d rfl)
theorem attr_lies{s:za}{l:List Q3}{k:Nat}(h20:20<=s.size)(hl:∀x,x∈l->L5 x)(hS:W2 l=s.extract 20 s.size)(hk:k < l.length):∃x,l[k]?=some x/\x=⟨n2 s (20+Y4 (l.take k)),s.extract (20+Y4 (l.take k)+4) (20+Y4 (l.take k)+4+(n2 s (20+Y4 (l.take k)+2)).toNat)⟩/\20+Y4 (l.take (k+1))=20+Y4 (l.take k)+4+up4 (n2 s (20+Y4 (l.take k)+2)).toNat/\20+Y4 (l.take (k+1))<=s.size:=by
 have hez:(s.extract 20 s.size).size=s.size - 20:=by simp_all
 have hx:l[k]?=some l[k]:=zR hk
 have hp:=parse1_enc hx (by grind) hS
 obtain⟨p1,p2,p3⟩:=parse1_inv hp
 grind [sizeL_take,n2_shift,Nat.add_assoc,ByteArray.extract_extract,up4_le,n2,Y4,min]
theorem okR8DEC(s:za)(hs:s.size<=120):SOk (s68 s) (DecR s):=by
 unfold s68
 refine SOk.fn ?_
 unfold g68
 refine Ok.f (by simp;omega) ?_
 rcases wo s.size 20 with h20|h20
 ·refine Ok.n (R:=λc=>c=true) (Ok.t (by simp;omega) (Ok.d rfl)) λc hc=>?_
  subst hc
  exact Ok.t rfl (Ok.d (by unfold DecR;rw[if_pos (.inl h20)];rfl))
 have hn2:=F0 (S:=s) (a:=2) (by omega)
 have h00:=F0 (S:=s) (a:=0) (by omega)
 have num1:∀a:Nat,a+2<=s.size->SOk (s70 (s.extract a (a+2))) (λr=>r=n2 s a):=λa ha=>okR1NUM _ (by simp_all)
 refine Ok.n (R:=λc=>c=decide ((s.size:Int) < 20+n2 s 2)) (Ok.f (by simp;omega) (Ok.k (by simp;omega) (Ok.c (num1 2 (by omega)) λr hr=>Ok.d ?_))) λc hc=>?_
 ·grind [Z9]
 subst hc
 by_cases hsh:(s.size:Int) < 20+n2 s 2
 ·exact Ok.t (ww hsh) (Ok.d (by unfold DecR;rw[if_pos (.inr hsh)];rfl))
 have hD:∀r,GoodR s r->DecR s r:=λr h=>by unfold DecR;rw[if_neg (by omega)];exact h
 refine Ok.f (wR hsh) (Ok.k (by simp;omega) (Ok.tt ?_))
 refine Ok.b (R:=λe=>(0,e.1,e.2)=fnd (n2 s 0) 0 4096 (0,0,false)) ?_ λe0 he0=>Ok.tt (Ok.b (R:=λe=>e=fnd (n2 s 0) 1 4096 (fnd (n2 s 0) 0 4096 (0,0,false))) ?_ λe1 he1=>Ok.tt (Ok.b (R:=λe=>e=fnd (n2 s 0) 2 4096 (fnd (n2 s 0) 1 4096 (fnd (n2 s 0) 0 4096 (0,0,false)))) ?_ λe2 he2=>Ok.tt (Ok.b (R:=λe=>e=if n2 s 0 < 16384 then (clsS (n2 s 0),metS (n2 s 0),true) else (0,0,false)) ?_ λe3 he3=>Ok.ff (Ok.g ?_))))
 ·refine Ok.s 4096 (by decide) (λk y=>(0,y.1,y.2.1)=fnd (n2 s 0) 0 k (0,0,false)/\y.2.2=(k:Int)) ⟨(fnd_zero h00.1).symm,rfl⟩ (λk y hy hk=>?_) λy hy=>?_
  ·obtain⟨p,q,i⟩:=y
   obtain⟨hpq,rfl⟩:(0,p,q)=fnd (n2 s 0) 0 k (0,0,false)/\i=(k:Int):=hy
   refine Ok.t (by simp;omega) (Ok.c (okR8KIND (c:=0) (m:=(k:Int)) (by decide) (by omega)) λr hr=>Ok.k (by simp;omega) (Ok.c (num1 0 (by omega)) λr2 hr2=>?_))
   subst hr hr2
   have hst:=fnd_step (t:=n2 s 0) (c:=0) (n:=k) (y:=(0,0,false)) (by decide) hk h00.1
   refine Ok.e (λhc=>Ok.d ?_) λhc=>Ok.d ?_
   ·rw[if_pos (eq_of_beq hc)] at hst
    exact⟨hst.symm,Y0 hk (by decide)⟩
   ·rw[if_neg (λe=>by rw[e,beq_self_eq_true] at hc;cases hc),<-hpq] at hst
    exact⟨hst.symm,Y0 hk (by decide)⟩
  ·obtain⟨p,q,i⟩:=y
   obtain⟨hpq,rfl⟩:(0,p,q)=fnd (n2 s 0) 0 4096 (0,0,false)/\i=((4096:Nat):Int):=hy
   exact Ok.f rfl (Ok.d hpq)
 ·rw[<-he0]
  exact okFND s 1 (by decide) h00.1 h20 (num1 0 (by omega)) (y0:=(0,e0.1,e0.2))
 ·rw[<-he1]
  exact okFND s 2 (by decide) h00.1 h20 (num1 0 (by omega)) (y0:=e1)
 ·rw[<-fnd_all h00.1,<-he2]
  exact okFND s 3 (by decide) h00.1 h20 (num1 0 (by omega)) (y0:=e2)
 by_cases ht:n2 s 0 < 16384
 rotate_left
 ·rw[if_neg ht] at he3
  subst he3
  refine Ok.p (R:=λe=>∃q,e=.inr q/\q.2.2.2=false) ?_ (by grind) λe he=>?_
  ·refine Ok.lp (λ_=>True) (λ_=>0) trivial (by decide) λy _=>?_
   refine Ok.n (R:=λc=>c=false) (Ok.f rfl (Ok.d rfl)) λc hc=>?_
   subst hc
   exact Ok.f rfl (Ok.d ⟨_,rfl,rfl⟩)
  ·obtain⟨q,h,hq⟩:=he
   obtain rfl:=Sum.inr.inj h
   refine Ok.n (R:=λc=>c=true) (Ok.t (by rw[hq];rfl) (Ok.d rfl)) λc hc=>?_
   subst hc
   refine Ok.t rfl (Ok.d (hD _ (.inr ⟨λm hm h=>?_,rfl⟩)))
   have hf:=I0 hm h
   have hk:=F3 hm.1 hm.2.1
   omega
 rw[if_pos ht] at he3
 subst he3
 have hez:(s.extract 20 s.size).size=s.size - 20:=by simp_all
 have lies:=λl k hl hS hk=>attr_lies (s:=s) (l:=l) (k:=k) h20 hl hS hk
 refine Ok.p (R:=λe=>match e with
  | .inl _=>∀m,D9 m->encM m≠s
  | .inr q=>q.2=(clsS (n2 s 0),metS (n2 s 0),true)/\(∀x,x∈q.1->L5 x)/\q.1.length<=30/\Y4 q.1<=1000/\∀l,(∀x,x∈l->L5 x)->W2 l=s.extract 20 s.size->q.1=l) ?_ (λe he=>Ok.d (hD _ (.inr ⟨he,rfl⟩))) λe he=>?_
 ·refine Ok.lp (atI s) (λy=>s.size+4 - y.2.toNat) ⟨20,rfl,zD _,by omega,by simp,λx hx=>by simp at hx,rfl,λl _ _=>⟨0,Nat.zero_le _,rfl,rfl⟩⟩ (A9 (by grind)) λy hy=>?_
  obtain⟨l0,i⟩:=y
  obtain⟨a,hi,a0,a1,a2,a3,a4,a5⟩:=hy
  have hi:i=(a:Int):=hi
  subst hi
  simp only at a2 a3 a4 a5
  have e2:Q7 ((a:Int)+2)=((a+2:Nat):Int):=by grind [Z9]
  have e4:Q7 ((a:Int)+4)=((a+4:Nat):Int):=by grind [Z9]
  simp only[e2,e4,zN]
  refine Ok.n (R:=λc=>c=decide (((a+4:Nat):Int)<=(s.size:Int))) (Ok.t rfl (Ok.d rfl)) λc hc=>?_
  subst hc
  refine Ok.e (λhc=>?_) λhc=>?_
  ·have hc:a+4<=s.size:=by grind
   have hr:=F0 (S:=s) (a:=a+2) (by omega)
   have hkr:=F0 (S:=s) (a:=a) (by omega)
   have hlies:=lies
   refine Ok.k (by simp;omega) (Ok.c (num1 (a+2) (by omega)) λr hr2=>?_)
   subst hr2
   generalize hN:n2 s (a+2)=N at hr ⊢
   obtain⟨N,rfl⟩:∃k:Nat,N=(k:Int):=⟨N.toNat,by omega⟩
   have eN:Q7 (((a+4:Nat):Int)+(N:Int))=((a+4+N:Nat):Int):=by grind [Z9]
   have hu:=up4_le N
   have hu2:up4 N<=N+3:=by unfold up4;omega
   have eU:Q7 (((a+4:Nat):Int)+((up4 N:Nat):Int))=((a+4+up4 N:Nat):Int):=by grind [Z9]
   simp only[eN,zN]
   have hb:∀l,(∀x,x∈l->L5 x)->W2 l=s.extract 20 s.size->∃k x,k < l.length/\l0=l.take k/\a=20+Y4 (l.take k)/\l[k]?=some x/\x=⟨n2 s a,s.extract (a+4) (a+4+N)⟩/\20+Y4 (l.take (k+1))=a+4+up4 N/\a+4+up4 N<=s.size:=λl hl hS=>by
    obtain⟨k,k1,k2,k3⟩:=a5 l hl hS
    have hk:k < l.length:=by
     grind [Nat.lt_or_ge,List.take_of_length_le,I7]
    obtain⟨x,x1,x2,x3,x4⟩:=lies l k hl hS hk
    rw[<-k3,hN,zN] at x2 x3
    grind
   refine Ok.e (λhs2=>Ok.d ?_) λhs2=>?_
   ·have hs2:¬a+4+N<=s.size:=by grind
    intro m hm h
    have hf:=I0 hm h
    obtain⟨k,x,_,_,_,_,_,_,h9⟩:=hb m.fo hm.q.1 hf.q.2.symm
    omega
   ·have hs2:a+4+N<=s.size:=by grind
    refine Ok.k (by simp;omega) (Ok.c (num1 a (by omega)) λr hr2=>Ok.k (by simp;omega) (Ok.app (by grind) (Ok.c (okRUP N (by omega)) λr3 hr3=>Ok.g (Ok.g (Ok.d ?_)))))
    subst hr2 hr3
    have hvz:(s.extract (a+4) (a+4+N)).size=N:=by simp_all
    refine And.intro ⟨a+4+up4 N,eU,by omega,by omega,by simp;omega,λx hx=>?_,?_,λl hl hS=>?_⟩ ?_
    ·grind
    ·grind [sizeL_app,Y4,n2,up4]
    ·grind [List.take_add_one]
    grind
  ·have hc:¬a+4<=s.size:=by grind
   refine Ok.d ⟨rfl,λx hx=>⟨(a3 x hx).1,by grind⟩,by grind,by grind,λl hl hS=>?_⟩
   obtain⟨k,k1,k2,k3⟩:=a5 l hl hS
   rcases wo k l.length with h|h
   ·grind
   grind
 ·obtain⟨l0,q2⟩:=e
  obtain⟨hq,g1,g2,g3,g4⟩:=he
  have hq:q2=(clsS (n2 s 0),metS (n2 s 0),true):=hq
  subst hq
  simp only at g1 g2 g3 g4
  have hid:(s.extract 8 20).size=12:=by simp_all
  have hmo:D9 ⟨clsS (n2 s 0),metS (n2 s 0),s.extract 8 20,l0⟩:=⟨clsS_range ⟨h00.1,ht⟩,metS_range ⟨h00.1,ht⟩,hid,g2,g1,by grind⟩
  refine Ok.n (R:=λc=>c=!decide (encM ⟨clsS (n2 s 0),metS (n2 s 0),s.extract 8 20,l0⟩=s)) (Ok.f rfl (Ok.v (okR8RIGHT _ hmo) λr hr=>?_)) λc hc=>?_
  ·subst hr
   exact Ok.f rfl (by grind [Ok.v,okR8ENC,Ok.d])
  ·subst hc
   refine Ok.e (λhc=>Ok.d (hD _ (.inr ⟨λm hm h=>?_,rfl⟩))) λhc=>Ok.g (Ok.d (hD _ (.inl (by grind))))
   have hne:encM ⟨clsS (n2 s 0),metS (n2 s 0),s.extract 8 20,l0⟩≠s:=by simpa using hc
   have hf:=I0 hm h
   refine hne ?_
   rw[hf.2.1,clsS_kind hm.1 hm.2.1,metS_kind hm.1 hm.2.1,hf.q.1,g4 m.fo hm.q.1 hf.q.2.symm]
   exact h
theorem enc_inj{s:za}{m m':Z8}(hs:s.size<=120)(hm:D9 m)(hm':D9 m')(h:encM m=s)(h':encM m'=s):m=m':=by
 obtain⟨r,_,hr⟩:=okR8DEC s hs
 have hf:=I0 hm h
 have hn:¬(s.size < 20\/(s.size:Int) < 20+n2 s 2):=by grind
 have hall:∀S:za,S.size<=1000->∃q,attP S=some q/\AttR S q:=attP_val
 obtain⟨q,_,_,hq⟩:=hall (s.extract 20 s.size) (by rw[ByteArray.size_extract];omega)
 have hf':=I0 hm' h'
 have e1:=hq m.fo hm.q.1 hf.q.2.symm
 have e2:=hq m'.fo hm'.q.1 hf'.q.2.symm
 have e3:m.fo=m'.fo:=(by grind)
 have e4:m.fj=m'.fj:=(by grind)
 have e5:W7 m.fG m.fH=W7 m'.fG m'.fH:=hf.2.1.symm.trans hf'.2.1
 have e6:m.fG=m'.fG:=by rw[<-clsS_kind hm.1 hm.2.1,e5,clsS_kind hm'.1 hm'.2.1]
 have e7:m.fH=m'.fH:=by rw[<-metS_kind hm.1 hm.2.1,e5,metS_kind hm'.1 hm'.2.1]
 cases m;simp_all
theorem dec_same(s:za)(hs:s.size<=120):∃r,decM s=some r/\DecR s r/\SOk (s68 s) (λr'=>r'=r):=by
 obtain⟨r,h1,h2⟩:=okDECM s hs
 exact⟨r,h1,h2,(okR8DEC s hs).mono (by grind [DecR_one,enc_inj])⟩
def G7(s b:za):za:=strOfNums (List.zipWith (K9 .u8) (Z1 s) (Z1 b))
theorem A4{s b:za}(h:s.size<=b.size):(G7 s b).size=s.size:=by
 grind [strOfNums_size,List.length_zipWith,J0,G7]
theorem zip_take{s b:List Int}{k:Nat}{x y:Int}(hx:s[k]?=some x)(hy:b[k]?=some y):List.zipWith (K9 .u8) (s.take (k+1)) b=List.zipWith (K9 .u8) (s.take k) b++[K9 .u8 x y]:=by
 induction s generalizing k b with
 | nil=>simp at hx
 | cons a s ih=>
  cases b with
  | nil=>simp at hy
  | cons c b=>
   cases k with
   | zero=>simp_all
   | succ k=>
    grind [List.getElem?_cons_succ,List.zipWith_cons_cons]
theorem okR8XOR(s b:za)(h:s.size<=b.size)(hs:s.size<=100000):SOk (s149 s b) (λr=>r=G7 s b):=by
 unfold s149
 refine SOk.fn ?_
 unfold g149 G7
 refine Ok.g (Ok.b (R:=λe=>e=List.zipWith (K9 .u8) (Z1 s) (Z1 b)) ?_ λe he=>Ok.o rfl (Ok.d (by rw[he])))
 refine Ok.s s.size (by omega) (λk y=>y=(List.zipWith (K9 .u8) ((Z1 s).take k) (Z1 b),(k:Int))) rfl (λk y hy hk=>?_) λy hy=>?_
 ·subst hy
  have hx:=bAt_octet hk
  have hy:=bAt_octet (s:=b) (k:=k) (by omega)
  have hz:(List.zipWith (K9 .u8) ((Z1 s).take k) (Z1 b)).length<=100000:=by grind
  refine Ok.t (by simp;omega) (Ok.k (by simp;omega) (Ok.k (by simp;omega) (Ok.app (by grind) (Ok.g (Ok.g (Ok.d ?_))))))
  grind [Y0,zip_take,Q7]
 grind [Ok.f,Ok.d,J0,List.take_length,List.zipWith,Z1]
theorem zip_set{s b:List Int}{k:Nat}{x y:Int}(hx:s[k]?=some x)(hy:b[k]?=some y):(List.zipWith (K9 .u8) (s.take k) b++s.drop k).set k (K9 .u8 x y)=List.zipWith (K9 .u8) (s.take (k+1)) b++s.drop (k+1)/\(List.zipWith (K9 .u8) (s.take k) b++s.drop k)[k]?=some x:=by
 have hk:k < s.length:=(by grind)
 have hb:k < b.length:=(by grind)
 have hxe:s[k]=x:=(by grind)
 have hl:(List.zipWith (K9 .u8) (s.take k) b).length=k:=by grind
 simp_all [zip_take,List.drop_eq_getElem_cons,List.set_append_right,Nat.sub_self,List.set_cons_zero,List.append_assoc,wz]
theorem okSCHG(s b:za)(h:s.size<=b.size)(hs:s.size<=100000):SOk (s200 s b) (λr=>r=G7 s b):=by
 unfold s200
 refine SOk.fn ?_
 unfold g200 G7
 have hl:=J0 s
 refine Ok.o rfl (Ok.b (R:=λe=>e=List.zipWith (K9 .u8) (Z1 s) (Z1 b)) ?_ λe he=>Ok.o rfl (Ok.d (by rw[he])))
 refine Ok.s s.size (by omega) (λk y=>y=(List.zipWith (K9 .u8) ((Z1 s).take k) (Z1 b)++(Z1 s).drop k,(k:Int))) rfl (λk y hy hk=>?_) λy hy=>?_
 ·subst hy
  have hx:=bAt_octet hk
  have hy:=bAt_octet (s:=b) (k:=k) (by omega)
  obtain⟨z1,z2⟩:=zip_set hx hy
  have hz:(List.zipWith (K9 .u8) ((Z1 s).take k) (Z1 b)++(Z1 s).drop k).length=s.size:=by grind
  generalize List.zipWith (K9 .u8) ((Z1 s).take k) (Z1 b)++(Z1 s).drop k=L at z1 z2 hz ⊢
  have g0:L[0+(k:Int).toNat]?=some (bAt s (k:Int)):=by grind
  refine Ok.t (by grind) (Ok.k (by simp;omega) (Ok.r rfl g0 (Ok.k (by simp;omega) (Ok.k (by simp;omega) (Ok.r rfl g0 (Ok.re (Ok.g (Ok.d ?_))))))))
  show (L.set (0+(k:Int).toNat) _,Q7 ((k:Int)+1))=_
  rw[zX,zN,z1,Y0 hk (by omega)]
 grind [Ok.f,Ok.d,List.take_length,List.drop_length,List.zipWith,Z1]
theorem xor8(a b:Int)(ha:0<=a/\a < 256):K9 .u8 (K9 .u8 a b) b=a/\0<=K9 .u8 a b/\K9 .u8 a b < 256:=by
 have w:∀n:Nat,n < 256->IntKind.u8.wrap (n:Int)=n:=(by grind [IntKind.wrap_u8])
 have e:K9 .u8 a b=((BitVec.ofInt 8 a ^^^ BitVec.ofInt 8 b).toNat:Int):=w _ (BitVec.isLt _)
 have e2:BitVec.ofInt 8 ((BitVec.ofInt 8 a ^^^ BitVec.ofInt 8 b).toNat:Int)=BitVec.ofInt 8 a ^^^ BitVec.ofInt 8 b:=by
  grind
 have hlt:=(BitVec.ofInt 8 a ^^^ BitVec.ofInt 8 b).isLt
 refine⟨?_,by rw[e];omega,by rw[e];omega⟩
 rw[e]
 show IntKind.u8.wrap ((BitVec.ofInt 8 ((BitVec.ofInt 8 a ^^^ BitVec.ofInt 8 b).toNat:Int) ^^^ BitVec.ofInt 8 b).toNat:Int)=a
 rw[e2,BitVec.xor_assoc,BitVec.xor_self,BitVec.xor_zero,BitVec.toNat_ofInt,IntKind.wrap_u8]
 omega
theorem xor_back{s b:List Int}(hs:∀c,c∈s->0<=c/\c < 256)(hb:∀c,c∈b->0<=c/\c < 256)(h:s.length<=b.length):List.zipWith (K9 .u8) (List.zipWith (K9 .u8) s b) b=s/\∀c,c∈List.zipWith (K9 .u8) s b->0<=c/\c < 256:=by
 induction s generalizing b with
 | nil=>simp_all
 | cons a s ih=>
  cases b with
  | nil=>simp at h
  | cons c b=>
   obtain⟨i1,i2⟩:=ih (b:=b) (by grind) (by grind) (by simpa using h)
   obtain⟨x1,x2⟩:=xor8 a c (hs a List.mem_cons_self)
   simp only[List.zipWith_cons_cons]
   refine⟨by rw[x1,i1],λx hx=>?_⟩
   rcases zT.1 hx with rfl|hx
   ·exact x2
   ·exact i2 x hx
theorem xorS_back{s b:za}(h:s.size<=b.size):G7 (G7 s b) b=s:=by
 have hl:(Z1 s).length<=(Z1 b).length:=by grind [J0]
 obtain⟨h1,h2⟩:=xor_back (s:=Z1 s) (b:=Z1 b) (λc hc=>G0 hc) (λc hc=>G0 hc) hl
 grind [A1,C8,G7]
def L3(a:Z4):Prop:=((a.fc.size:Int)=4\/(a.fc.size:Int)=16)/\1<=a.fe/\a.fe<=65535
theorem okAREAD(h:za):SOk (s179 h) (λr=>(r.2=0↔((h.size:Int)=4\/(h.size:Int)=16))):=by
 show Ok (g179 h) _
 unfold g179
 refine Ok.n (R:=λc=>(c=true↔¬((h.size:Int)=4\/(h.size:Int)=16))) ?_ λc hc=>?_
 ·simp_all [Ok.e,Ok.d]
 grind [Ok.e,Ok.d]
theorem okACHECK(a:Z4):SOk (s101 a) (λr=>(r=0↔((a.fc.size:Int)=4\/(a.fc.size:Int)=16)/\0<=a.fe/\a.fe<=65535)):=by
 show Ok (g101 a) _
 unfold g101
 refine Ok.c (okAREAD _) λr hr=>?_
 refine Ok.n (R:=λc=>(c=true↔¬(((a.fc.size:Int)=4\/(a.fc.size:Int)=16)/\0<=a.fe/\a.fe<=65535))) ?_ λc hc=>?_
 ·refine Ok.e (λh1=>Ok.d ?_) (λh1=>Ok.e (λh2=>Ok.d ?_) (λh2=>Ok.d ?_))
  ·grind
  ·grind
  grind
 grind [Ok.e,Ok.d]
theorem okAUSABLE(a:Z4):SOk (s49 a) (λb=>(b=true↔L3 a)):=by
 show Ok (g49 a) _
 unfold g49
 refine Ok.n (R:=λc=>(c=true↔L3 a)) ?_ λc hc=>Ok.d hc
 grind [Ok.c,okACHECK,Ok.e,Ok.d,L3]
theorem okRUSABLE(a:Z4):SOk (s137 a) (λb=>(b=true↔L3 a)):=by
 show Ok (g137 a) _
 unfold g137
 refine Ok.n (R:=λc=>(c=true↔L3 a)) ?_ λc hc=>Ok.d hc
 refine Ok.c (R:=λc=>(c=true↔((a.fc.size:Int)=4\/(a.fc.size:Int)=16)/\0<=a.fe/\a.fe<=65535)) ?_ λc hc=>?_
 ·show Ok (g213 a) _
  unfold g213
  refine Ok.n (R:=λc=>(c=true↔((a.fc.size:Int)=4\/(a.fc.size:Int)=16)/\0<=a.fe/\a.fe<=65535)) ?_ λc hc=>Ok.d hc
  refine Ok.c (R:=λc=>(c=true↔((a.fc.size:Int)=4\/(a.fc.size:Int)=16))) ?_ λc hc=>?_
  ·show Ok (g250 a.fc) _
   unfold g250
   refine Ok.n (R:=λc=>(c=true↔((a.fc.size:Int)=4\/(a.fc.size:Int)=16))) ?_ λc hc=>Ok.d hc
   simp_all [Ok.e,Ok.d]
  ·refine Ok.e (λh1=>Ok.e (λh2=>Ok.d ?_) (λh2=>Ok.d ?_)) (λh1=>Ok.d ?_)
   ·grind
   ·grind
   grind
 grind [Ok.e,Ok.d,L3]
def E3(id:za):za:=strOfNums (beN 4 554869826)++id
def famS(h:za):Int:=if h.size=16 then 2 else 1
def mixA(id:za)(a:Z4):za:=(strOfNums (beN 2 (famS a.fc))++G7 (u16 a.fe) (E3 id))++G7 a.fc (E3 id)
def P9(a:Z4):Prop:=((a.fc.size:Int)=4\/(a.fc.size:Int)=16)/\0<=a.fe/\a.fe<=65535
instance (a:Z4):Decidable (P9 a):=by unfold P9;infer_instance
theorem mask_size{id:za}(h:id.size=12):(E3 id).size=16:=by unfold E3;rw[ByteArray.size_append,strOfNums_size,J9,h]
theorem fam_two(h:za):strOfNums (beN 2 (famS h))=strOfNums [0,wu8 (famS h)]:=by
 unfold famS
 split<;>rfl
theorem okSMASK(id:za)(h:id.size=12):SOk (s201 id) (λr=>r=E3 id):=by
 unfold s201
 refine SOk.fn ?_
 unfold g201
 refine Ok.c (okPUT4 554869826 (by decide) (by decide)) λr hr=>?_
 subst hr
 exact Ok.k (by grind [strOfNums_size,J9,decide,strOfNums,beN]) (Ok.d rfl)
theorem okAFAM(h:za):SOk (s199 h) (λr=>if (h.size:Int)=4\/(h.size:Int)=16 then r=(famS h,0) else r.2≠0):=by
 unfold s199
 refine SOk.fn ?_
 unfold g199
 refine Ok.c (okAREAD h) λr hr=>?_
 by_cases hc:(h.size:Int)=4\/(h.size:Int)=16
 ·have:=hr.2 hc
  simp only[if_pos hc]
  refine Ok.f (by rw[this];rfl) (Ok.e (λh1=>Ok.d ?_) λh1=>Ok.d ?_)
  ·have h1:(h.size:Int)=4:=eq_of_beq h1
   rw[famS,if_neg (by omega)]
  ·have h1:(h.size:Int)≠4:=by simpa using h1
   rw[famS,if_pos (by omega)]
 simp_all [if_neg,Ok.t,Ok.d]
theorem okSMIX(id:za)(h:id.size=12)(a:Z4)(ha:a.fc.size<=1000):SOk (s124 id a) (λr=>if P9 a then r=(mixA id a,0) else r.2≠0):=by
 have hm:=mask_size h
 unfold s124
 refine SOk.fn ?_
 unfold g124
 refine Ok.c (okAFAM a.fc) λr hr=>Ok.n (R:=λc=>(c=false↔P9 a)) ?_ λc hc=>?_
 ·refine Ok.e (λh1=>Ok.d ?_) λh1=>Ok.c (okACHECK a) λr2 hr2=>Ok.e (λh2=>Ok.d ?_) λh2=>Ok.d ?_
  ·have h1:r.2≠0:=by simpa using h1
   refine⟨λq=>(by cases q),λq=>?_⟩
   rw[if_pos q.1] at hr
   grind
  ·have h2:r2≠0:=by simpa using h2
   exact⟨λq=>(by cases q),λq=>absurd (hr2.2 q) h2⟩
  ·have h2:r2=0:=by simpa using h2
   rw[h]
   exact⟨λ_=>hr2.1 h2,λ_=>rfl⟩
 ·by_cases hq:P9 a
  ·have:=hc.2 hq
   subst this
   rw[if_pos hq.1] at hr
   subst hr
   simp only[if_pos hq]
   refine Ok.f rfl (Ok.c (okPUT2 a.fe hq.2.1 (by have:=hq.2.2;omega)) λr2 hr2=>?_)
   subst hr2
   refine Ok.c (okSMASK id h) λr hr=>?_
   subst hr
   refine Ok.c (okSCHG (u16 a.fe) (E3 id) (by rw[W0,hm];decide) (by rw[W0];decide)) λr hr=>?_
   subst hr
   have hx1:(G7 (u16 a.fe) (E3 id)).size=2:=by grind [A4,W0]
   refine Ok.k (by rw[hx1,strOfNums_size];rfl) (Ok.c (okSMASK id h) λr hr=>?_)
   subst hr
   have hx2:=A4 (s:=a.fc) (b:=E3 id) (by rw[hm];have:=hq.1;omega)
   refine Ok.c (okSCHG a.fc (E3 id) (by rw[hm];have:=hq.1;omega) (by omega)) λr hr=>?_
   grind [Ok.k,ByteArray.size_append,strOfNums_size,Ok.d,fam_two,mixA]
  ·have:c=true:=by
    cases c with
    | true=>rfl
    | false=>exact absurd (hc.1 rfl) hq
   subst this
   simp only[if_neg hq]
   exact Ok.t rfl (Ok.d (show (2:Int)≠0 by decide))
theorem okR8MIXED(id:za)(h:id.size=12)(a:Z4)(ha:P9 a):SOk (s144 id a) (λr=>r=mixA id a):=by
 have hm:=mask_size h
 unfold s144
 refine SOk.fn ?_
 unfold g144
 refine Ok.c (show SOk _ _ from S8 4 554869826 (by decide) (by decide) (by decide)) λr hr=>?_
 subst hr
 have hms:strOfNums (beN 4 554869826)++id=E3 id:=rfl
 refine Ok.k (by grind) (Ok.b (R:=λe=>e=famS a.fc) (Ok.e (λh1=>Ok.d ?_) λh1=>Ok.d ?_) λe he=>?_)
 ·have h1:(a.fc.size:Int)=16:=eq_of_beq h1
  rw[famS,if_pos (by omega)]
 ·have h1:(a.fc.size:Int)≠16:=by simpa using h1
  rw[famS,if_neg (by omega)]
 subst he
 have hf:0<=famS a.fc/\famS a.fc<=2:=by grind [famS]
 refine Ok.c (show SOk _ _ from S8 2 _ hf.1 (by omega) (by decide)) λr hr=>?_
 subst hr
 refine Ok.c (show SOk _ _ from S8 2 _ ha.2.1 (by have:=ha.2.2;omega) (by decide)) λr hr=>?_
 subst hr
 rw[hms]
 refine Ok.c (okR8XOR (u16 a.fe) (E3 id) (by rw[W0,hm];decide) (by rw[W0];decide)) λr hr=>?_
 subst hr
 have hx1:(G7 (u16 a.fe) (E3 id)).size=2:=by grind [A4,W0]
 have hx2:=A4 (s:=a.fc) (b:=E3 id) (by rw[hm];have:=ha.1;omega)
 refine Ok.k (by rw[hx1,strOfNums_size,J9];rfl) (Ok.c (okR8XOR a.fc (E3 id) (by rw[hm];have:=ha.1;omega) (by have:=ha.1;omega)) λr hr=>?_)
 subst hr
 exact Ok.k (by rw[ByteArray.size_append,hx1,hx2,strOfNums_size,J9];have:=ha.1;simp;omega) (Ok.d rfl)
theorem mixA_size{id:za}(h:id.size=12){a:Z4}(ha:(a.fc.size:Int)=4\/(a.fc.size:Int)=16):(mixA id a).size=4+a.fc.size:=by
 grind [mask_size,ByteArray.size_append,strOfNums_size,J9,A4,W0,mixA]
def backA(id v:za):Z4:=⟨G7 (v.extract 4 v.size) (E3 id),num (Z1 (G7 (v.extract 2 4) (E3 id)))⟩
theorem backA_mix{id:za}(h:id.size=12){a:Z4}(ha:P9 a):backA id (mixA id a)=a:=by
 have hm:=mask_size h
 have hz:=mixA_size h ha.1
 have z1:(G7 (u16 a.fe) (E3 id)).size=2:=by grind [A4,W0]
 have hsz:=ha.1
 have e1:(mixA id a).extract 2 4=G7 (u16 a.fe) (E3 id):=P6 (a:=strOfNums (beN 2 (famS a.fc))) (c:=G7 a.fc (E3 id)) rfl (by rw[strOfNums_size,J9]) (by rw[z1])
 have e2:(mixA id a).extract 4 (mixA id a).size=G7 a.fc (E3 id):=P6 (a:=strOfNums (beN 2 (famS a.fc))++G7 (u16 a.fe) (E3 id)) (c:=zb) (by rw[ByteArray.append_empty];rfl) (by rw[ByteArray.size_append,strOfNums_size,J9,z1]) (by grind [A4])
 unfold backA
 rw[e1,e2,xorS_back (by rw[hm];omega),xorS_back (by rw[W0,hm];decide),num_u16 ha.2.1 (by have:=ha.2.2;omega)]
theorem okSRMIX(id:za)(h:id.size=12)(v:za)(hv:v.size<=1000):SOk (s136 id v) (λr=>∀a,P9 a->v=mixA id a->r=(a,0)):=by
 have hm:=mask_size h
 unfold s136
 refine SOk.fn ?_
 unfold g136
 refine Ok.f (by rw[h];rfl) (Ok.n (R:=λc=>(c=false↔v.size=8\/v.size=20)) (Ok.e (λh1=>Ok.d ?_) λh1=>Ok.d ?_) λc hc=>Ok.e (λh1=>Ok.d λa ha hva=>?_) λh1=>?_)
 ·grind
 ·grind
 ·exfalso
  have hz:=mixA_size h ha.1
  have:=hc.2 (by rw[hva,hz];have:=ha.1;omega)
  grind
 ·have hsz:=hc.1 h1
  have z2:(v.extract 2 4).size=2:=by rw[ByteArray.size_extract];omega
  have z4:(v.extract 4 v.size).size=v.size - 4:=by simp_all
  refine Ok.k (by simp;omega) (Ok.c (okSMASK id h) λr hr=>?_)
  subst hr
  refine Ok.c (okSCHG (v.extract 2 4) (E3 id) (by omega) (by omega)) λr hr=>?_
  subst hr
  have z3:(G7 (v.extract 2 4) (E3 id)).size=2:=by grind [A4]
  refine Ok.c (okUINT (G7 (v.extract 2 4) (E3 id)) 0 2 (by omega) (by decide) (by decide) (by omega)) λr hr=>?_
  rw[zX,show (G7 (v.extract 2 4) (E3 id)).extract 0 2=G7 (v.extract 2 4) (E3 id) from ext_whole z3.symm] at hr
  subst hr
  refine Ok.k (by simp;omega) (Ok.c (okSMASK id h) λr hr=>?_)
  subst hr
  refine Ok.c (okSCHG (v.extract 4 v.size) (E3 id) (by omega) (by omega)) λr hr=>?_
  subst hr
  have hb:(⟨G7 (v.extract 4 v.size) (E3 id),num (Z1 (G7 (v.extract 2 4) (E3 id)))⟩:Z4)=backA id v:=rfl
  rw[hb]
  refine Ok.c (okSMIX id h (backA id v) (by show (G7 _ _).size<=1000;rw[A4 (by omega)];omega)) λr hr=>Ok.n (R:=λc=>c=true->∀a,P9 a->v≠mixA id a) (Ok.e (λh2=>Ok.d λ_ a ha hva=>?_) λh2=>Ok.d λh3 a ha hva=>?_) λc hc=>Ok.e (by grind [Ok.d,absurd]) λh2=>Ok.d λa ha hva=>?_
  ·simp_all [backA_mix,if_pos]
  ·simp_all [backA_mix,if_pos]
  grind [backA_mix]
theorem okR8RMIX(id:za)(h:id.size=12)(v:za)(hv:v.size<=1000):SOk (s72 id v) (λr=>∀a,P9 a->v=mixA id a->r=(a,true)):=by
 have hm:=mask_size h
 unfold s72
 refine SOk.fn ?_
 unfold g72
 refine Ok.c (show SOk _ _ from S8 4 554869826 (by decide) (by decide) (by decide)) λr hr=>?_
 subst hr
 have hms:strOfNums (beN 4 554869826)++id=E3 id:=rfl
 refine Ok.k (by grind) (Ok.n (R:=λc=>(c=false↔v.size=8\/v.size=20)) (Ok.e (λh1=>Ok.d ?_) λh1=>Ok.d ?_) λc hc=>Ok.e (λh1=>Ok.d λa ha hva=>?_) λh1=>?_)
 ·grind
 ·grind
 ·exfalso
  have hz:=mixA_size h ha.1
  have:=hc.2 (by rw[hva,hz];have:=ha.1;omega)
  grind
 ·have hsz:=hc.1 h1
  have z2:(v.extract 2 4).size=2:=by rw[ByteArray.size_extract];omega
  have z4:(v.extract 4 v.size).size=v.size - 4:=by simp_all
  have z3:(G7 (v.extract 2 4) (E3 id)).size=2:=by grind [A4]
  rw[hms]
  refine Ok.k (by simp;omega) (Ok.c (okR8XOR (v.extract 2 4) (E3 id) (by omega) (by omega)) λr hr=>?_)
  subst hr
  refine Ok.c (okR1NUM _ (by omega)) λr hr=>?_
  subst hr
  refine Ok.k (by simp;omega) (Ok.c (okR8XOR (v.extract 4 v.size) (E3 id) (by omega) (by omega)) λr hr=>?_)
  subst hr
  have hb:(⟨G7 (v.extract 4 v.size) (E3 id),num (Z1 (G7 (v.extract 2 4) (E3 id)))⟩:Z4)=backA id v:=rfl
  rw[hb]
  have hnr:=num_lt (l:=Z1 (G7 (v.extract 2 4) (E3 id))) λc hc=>G0 hc
  grind [J0,A4,Ok.c,okR8MIXED,Ok.e,Ok.d,backA_mix,P9,backA,G7,num]
end Go.Proofs.YtjpahkpfkohfkaaGreatDoor
