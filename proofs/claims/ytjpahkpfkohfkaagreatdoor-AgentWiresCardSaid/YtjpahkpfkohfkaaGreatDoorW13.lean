/- Octets and numbers: what is put is read; plain lemmas on strings of octets ..; no conditions. -/
import Derived.Test.YtjpahkpfkohfkaaGreatDoorW8
import Derived.Test.YtjpahkpfkohfkaaGreatDoorW12
import Derived.KernelRfl
set_option linter.unusedVariables false
set_option linter.unusedSimpArgs false
set_option maxRecDepth 100000
namespace Go.Proofs.YtjpahkpfkohfkaaGreatDoor
open Go Go.EV
def beN:Nat->Int->List Int
 | 0,_=>[]
 | n+1,v=>beN n (v / 256)++[v % 256]
def num(l:List Int):Int:=l.foldl (λv c=>v * 256+c) 0
theorem num_snoc(l:List Int)(c:Int):num (l++[c])=num l * 256+c:=by unfold num;grind
theorem J9(n:Nat)(v:Int):(beN n v).length=n:=by
 induction n generalizing v with
 | zero=>rfl
 | succ n ih=>grind [List.length_append,beN]
theorem num_beN(n:Nat)(v:Int)(h0:0<=v)(h:v < 256 ^ n):num (beN n v)=v:=by
 induction n generalizing v with
 | zero=>grind [beN,num]
 | succ n ih=>
  grind [num_snoc,Int.pow_succ,beN]
theorem beN_byte(n:Nat)(v:Int):∀c,c∈beN n v->0<=c/\c < 256:=by
 induction n generalizing v with
 | zero=>grind [beN]
 | succ n ih=>
  grind [beN]
theorem G0{s:za}{c:Int}(h:c∈Z1 s):0<=c/\c < 256:=by
 unfold Z1 at h
 obtain⟨b,_,rfl⟩:=zF.1 h
 have:=b.toNat_lt
 omega
theorem A1{l:List Int}(h:∀c,c∈l->0<=c/\c < 256):Z1 (strOfNums l)=l:=by
 unfold Z1
 rw[strOfNums_data,wD]
 conv=>rhs;rw[<-List.map_id l]
 refine wB λc hc=>?_
 have:=h c hc
 simp only[Function.comp,id]
 grind [UInt8.toNat_ofNat_of_lt']
theorem C8(s:za):strOfNums (Z1 s)=s:=by
 apply ByteArray.ext
 simp_all [Array.ext',strOfNums_data,wD,List.map_id,wB,Z1]
theorem C9(s t:List Int):strOfNums (s++t)=strOfNums s++strOfNums t:=by
 grind [ByteArray.ext,Array.ext',ByteArray.data_append,Array.toList_append,strOfNums_data]
theorem H4(l:List Int):(strOfNums l).size=l.length:=strOfNums_size l
theorem bShl8{v:Int}(h0:0<=v)(h:v < 281474976710656):N6 .i64 v 8=v * 256:=by
 show IntKind.i64.wrap (v * 2 ^ (min 8 64))=v * 256
 rw[show (2:Int) ^ (min 8 64)=256 from by decide]
 exact Z9 (by omega) (by omega)
theorem bOr_nat{a b:Nat}(ha:a < 9223372036854775808)(hb:b < 9223372036854775808):bOr .i64 a b=((a ||| b:Nat):Int):=by
 have hlt:a ||| b < 9223372036854775808:=Nat.or_lt_two_pow (n:=63) ha hb
 show IntKind.i64.wrap ((BitVec.ofInt 64 a ||| BitVec.ofInt 64 b).toNat:Int)=_
 rw[BitVec.ofInt_natCast,BitVec.ofInt_natCast,BitVec.toNat_or,BitVec.toNat_ofNat,BitVec.toNat_ofNat,Nat.mod_eq_of_lt (by omega),Nat.mod_eq_of_lt (by omega)]
 exact Z9 (by omega) (by omega)
theorem bOr_byte{v c:Int}(h0:0<=v)(h:v < 281474976710656)(c0:0<=c)(c1:c < 256):bOr .i64 (N6 .i64 v 8) (Q7 c)=v * 256+c:=by
 rw[bShl8 h0 h,Z9 (by omega) (by omega)]
 obtain⟨a,rfl⟩:=Int.eq_ofNat_of_zero_le h0
 obtain⟨b,rfl⟩:=Int.eq_ofNat_of_zero_le c0
 have e:((a:Int) * 256)=((256 * a:Nat):Int):=by omega
 rw[e,bOr_nat (by omega) (by omega),<-Nat.two_pow_add_eq_or_of_lt (i:=8) (by omega) a]
 omega
theorem num_lt{l:List Int}(h:∀c,c∈l->0<=c/\c < 256):0<=num l/\num l < 256 ^ l.length:=by
 have key:∀r:List Int,(∀c,c∈r->0<=c/\c < 256)->0<=num r.reverse/\num r.reverse < 256 ^ r.length:=by
  intro r
  induction r with
  | nil=>intro _;simp[num]
  | cons c r ih=>
   intro hr
   have h1:=ih λx hx=>hr x (List.mem_cons_of_mem _ hx)
   grind [List.mem_cons_self,List.reverse_cons,num_snoc,List.length_cons,Int.pow_succ]
 grind [List.reverse_reverse,List.length_reverse]
theorem num_lt6{l:List Int}{n:Nat}(h:∀c,c∈l->0<=c/\c < 256)(hn:l.length<=7):0<=num (l.take n)/\(n < l.length->num (l.take n) < 281474976710656):=by
 have h1:=num_lt (l:=l.take n) (by grind)
 refine⟨h1.1,λhlt=>?_⟩
 have hl:(l.take n).length<=6:=by grind
 have e:∀k:Fin 7,(256:Int) ^ k.val<=281474976710656:=by decide
 have:=e ⟨(l.take n).length,by omega⟩
 grind
theorem num_take{l:List Int}{k:Nat}{c:Int}(h:l[k]?=some c):num (l.take (k+1))=num (l.take k) * 256+c:=by
 grind [List.take_add_one,num_snoc]
theorem okUINT1(s:za)(h:s.size<=7):SOk (s208 s) (λr=>r=num (Z1 s)):=by
 have hl:=J0 s
 have hb:∀c,c∈Z1 s->0<=c/\c < 256:=λc hc=>G0 hc
 unfold s208
 show Ok (g208 s) _
 refine Ok.o rfl ?_
 refine Ok.b (R:=λe=>e=num (Z1 s)) ?_ λe he=>Ok.d he
 refine Ok.s s.size (by omega) (λk y=>k<=s.size/\y=(num ((Z1 s).take k),(k:Int))) ⟨Nat.zero_le _,rfl⟩ (λk y hy hk=>?_) λy hy=>?_
 ·obtain⟨_,rfl⟩:=hy
  refine Ok.t (by simp;omega) ?_
  obtain⟨x,hx,hx'⟩:=M5 (l:=Z1 s) (k:=k) (by omega)
  refine Ok.k (by simp;omega) (Ok.r rfl (x:=x) (by grind) (Ok.d ?_))
  grind [num_lt6,List.mem_of_getElem?,num_take,bOr_byte,Y0]
 ·obtain⟨_,rfl⟩:=hy
  grind [Ok.f,Ok.d,List.take_length,num,Z1]
theorem extract_size{s:za}{a n:Nat}(h:a+n<=s.size):(s.extract a (a+n)).size=n:=by
 simp_all
theorem okREAD(s:za)(a:Nat)(h:a<=s.size):SOk (s240 ⟨s,a⟩) (λr=>r=(⟨⟨s,a⟩⟩,0)):=by
 unfold s240
 show Ok (g240 ⟨s,a⟩) _
 refine Ok.n (R:=λc=>c=false) ?_ λc hc=>?_
 ·grind [Ok.f,Ok.d]
 ·subst hc
  exact Ok.f rfl (Ok.d rfl)
theorem okUINT(s:za)(a n:Nat)(h:a+n<=s.size)(hn:1<=n)(hn7:n<=7)(hs:s.size<=1000000):SOk (s129 ⟨s,a⟩ (n:Int)) (λr=>r=(num (Z1 (s.extract a (a+n))),⟨s,((a+n:Nat):Int)⟩,0)):=by
 unfold s129
 show Ok (g129 ⟨s,a⟩ n) _
 refine Ok.c (R:=λr=>r=(num (Z1 (s.extract a (a+n))),⟨s,((a+n:Nat):Int)⟩,0)) ?_ (by grind [Ok.d])
 unfold s207
 show Ok (g207 ⟨s,a⟩ n 1 7) _
 refine Ok.c (okREAD s a (by omega)) λr hr=>?_
 subst hr
 refine Ok.f rfl ?_
 refine Ok.n (R:=λc=>c=false) ?_ λc hc=>?_
 ·grind [Ok.f,Ok.d]
 ·subst hc
  have e1:Q7 ((s.size:Int) - (a:Int))=(s.size:Int) - a:=Z9 (by omega) (by omega)
  have e2:Q7 ((a:Int)+(n:Int))=((a+n:Nat):Int):=by grind [Z9]
  refine Ok.f rfl (Ok.f ?_ (Ok.k ?_ (Ok.c (R:=λr=>r=num (Z1 (s.extract a (a+n)))) ?_ λr hr=>Ok.d ?_)))
  ·grind
  ·grind [decide,Q7]
  ·grind [Int.toNat_natCast,okUINT1,extract_size,SOk,s208,Q7]
  grind
theorem okTAKE(s:za)(a n:Nat)(h:a+n<=s.size)(hs:s.size<=1000000):SOk (s211 ⟨s,a⟩ (n:Int)) (λr=>r=(s.extract a (a+n),⟨s,((a+n:Nat):Int)⟩,0)):=by
 unfold s211
 show Ok (g211 ⟨s,a⟩ n) _
 refine Ok.c (R:=λr=>r=(s.extract a (a+n),⟨s,((a+n:Nat):Int)⟩,0)) ?_ (by grind [Ok.d])
 have em:(if (0:Int) > (n:Int) then (0:Int) else (n:Int))=n:=by grind
 rw[em]
 unfold s241
 show Ok (g241 ⟨s,a⟩ n 0 n) _
 refine Ok.c (okREAD s a (by omega)) λr hr=>?_
 subst hr
 refine Ok.f rfl ?_
 refine Ok.n (R:=λc=>c=false) ?_ λc hc=>?_
 ·grind [Ok.f,Ok.d]
 ·subst hc
  have e1:Q7 ((s.size:Int) - (a:Int))=(s.size:Int) - a:=Z9 (by omega) (by omega)
  have e2:Q7 ((a:Int)+(n:Int))=((a+n:Nat):Int):=by grind [Z9]
  refine Ok.f rfl (Ok.f ?_ (Ok.k ?_ (Ok.c (R:=λr=>r=s.extract a (a+n)) ?_ λr hr=>Ok.d ?_)))
  ·grind
  ·grind [decide,Q7]
  ·show SOk (s242 (s.extract (a:Int).toNat ((Q7 ((a:Int)+(n:Int))).toNat))) _
   rw[e2,zN,zN]
   exact Ok.d rfl
  grind
theorem wu8_eq(n:Int):wu8 n=n % 256:=IntKind.wrap_u8 n
theorem M0(v:Int)(k:Nat)(h:k<=64):Z3 .i64 v (k:Int)=v / 2 ^ k:=by
 show v.fdiv (2 ^ (min (k:Int).toNat 64))=_
 grind
theorem putR{n:Nat}{v:Int}{r:Option (za×Int)}{l:List Int}(h0:0<=v)(h:Z3 .i64 v ((8 * n:Nat):Int)=0)(hr:r=(bif decide (v < 0) then some (zb,2) else bif (Z3 .i64 v ((8 * n:Nat):Int) != 0) then some (zb,6) else some (strOfNums l,0)))
  (hl:l=beN n v):∃x,r=some x/\x=(strOfNums (beN n v),0):=by
 grind
theorem okPUT1(v:Int)(h0:0<=v)(h:v < 256):SOk (s198 1 v) (λr=>r=(strOfNums (beN 1 v),0)):=
 putR h0 (by rw[M0 v _ (by decide)];simp;omega) (show (g198 1 v).run=(bif decide (v < 0) then some (zb,2) else bif (Z3 .i64 v ((8 * 1:Nat):Int) != 0) then some (zb,6) else some (strOfNums [wu8 (Z3 .i64 v ((0:Nat):Int))],0)) by kernel_rfl)
  (by grind [wu8_eq,M0,beN])
theorem okPUT2(v:Int)(h0:0<=v)(h:v < 65536):SOk (s198 2 v) (λr=>r=(strOfNums (beN 2 v),0)):=
 putR h0 (by rw[M0 v _ (by decide)];simp;omega) (show (g198 2 v).run=(bif decide (v < 0) then some (zb,2) else bif (Z3 .i64 v ((8 * 2:Nat):Int) != 0) then some (zb,6) else some (strOfNums [wu8 (Z3 .i64 v ((8:Nat):Int)),wu8 (Z3 .i64 v ((0:Nat):Int))],0)) by kernel_rfl)
  (by simp only[wu8_eq,M0 _ _ (show 0<=64 by decide),M0 _ _ (show 8<=64 by decide),beN,List.nil_append];simp)
theorem okPUT4(v:Int)(h0:0<=v)(h:v < 4294967296):SOk (s198 4 v) (λr=>r=(strOfNums (beN 4 v),0)):=
 putR h0 (by rw[M0 v _ (by decide)];simp;omega) (show (g198 4 v).run=(bif decide (v < 0) then some (zb,2) else bif (Z3 .i64 v ((8 * 4:Nat):Int) != 0) then some (zb,6) else some (strOfNums [wu8 (Z3 .i64 v ((24:Nat):Int)),wu8 (Z3 .i64 v ((16:Nat):Int)),wu8 (Z3 .i64 v ((8:Nat):Int)),wu8 (Z3 .i64 v ((0:Nat):Int))],0)) by kernel_rfl)
  (by simp only[wu8_eq,M0 _ _ (show 0<=64 by decide),M0 _ _ (show 8<=64 by decide),M0 _ _ (show 16<=64 by decide),M0 _ _ (show 24<=64 by decide),beN,List.nil_append,List.cons_append,Int.pow_zero,Int.ediv_one,List.cons.injEq,and_true];omega)
theorem okPUT5(v:Int)(h0:0<=v)(h:v < 1099511627776):SOk (s198 5 v) (λr=>r=(strOfNums (beN 5 v),0)):=
 putR h0 (by rw[M0 v _ (by decide)];simp;omega) (show (g198 5 v).run=(bif decide (v < 0) then some (zb,2) else bif (Z3 .i64 v ((8 * 5:Nat):Int) != 0) then some (zb,6) else some (strOfNums [wu8 (Z3 .i64 v ((32:Nat):Int)),wu8 (Z3 .i64 v ((24:Nat):Int)),wu8 (Z3 .i64 v ((16:Nat):Int)),wu8 (Z3 .i64 v ((8:Nat):Int)),wu8 (Z3 .i64 v ((0:Nat):Int))],0)) by kernel_rfl)
  (by simp only[wu8_eq,M0 _ _ (show 0<=64 by decide),M0 _ _ (show 8<=64 by decide),M0 _ _ (show 16<=64 by decide),M0 _ _ (show 24<=64 by decide),M0 _ _ (show 32<=64 by decide),beN,List.nil_append,List.cons_append,Int.pow_zero,Int.ediv_one,List.cons.injEq,and_true];omega)
theorem okPUT7(v:Int)(h0:0<=v)(h:v < 72057594037927936):SOk (s198 7 v) (λr=>r=(strOfNums (beN 7 v),0)):=
 putR h0 (by rw[M0 v _ (by decide)];simp;omega) (show (g198 7 v).run=(bif decide (v < 0) then some (zb,2) else bif (Z3 .i64 v ((8 * 7:Nat):Int) != 0) then some (zb,6) else some (strOfNums [wu8 (Z3 .i64 v ((48:Nat):Int)),wu8 (Z3 .i64 v ((40:Nat):Int)),wu8 (Z3 .i64 v ((32:Nat):Int)),wu8 (Z3 .i64 v ((24:Nat):Int)),wu8 (Z3 .i64 v ((16:Nat):Int)),wu8 (Z3 .i64 v ((8:Nat):Int)),wu8 (Z3 .i64 v ((0:Nat):Int))],0)) by kernel_rfl)
  (by simp only[wu8_eq,M0 _ _ (show 0<=64 by decide),M0 _ _ (show 8<=64 by decide),M0 _ _ (show 16<=64 by decide),M0 _ _ (show 24<=64 by decide),M0 _ _ (show 32<=64 by decide),M0 _ _ (show 40<=64 by decide),M0 _ _ (show 48<=64 by decide),beN,List.nil_append,List.cons_append,Int.pow_zero,Int.ediv_one,List.cons.injEq,and_true];omega)
end Go.Proofs.YtjpahkpfkohfkaaGreatDoor
