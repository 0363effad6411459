/- Part X16. -/
import Derived.Test.YtjdieimefebnfaaGreatDoorX15
set_option linter.all false
set_option maxRecDepth 1000000
set_option maxHeartbeats 4000000
namespace Go.Proofs.YtjdieimefebnfaaGreatDoor
open Go Go.EV
def pl:Nat->List Nat
 | 0=>[]
 | k+1=>let l:=pl k;bif l.all (λx=>(2+k) % x != 0) then l++[2+k] else l
def ints(l:List Nat):List Int:=l.map Int.ofNat
theorem Qhn(k:Nat):(pl k).length<=(pl (k+1)).length:=by
 show _<=(bif _ then _ else _:List Nat).length;cases (pl k).all λx=>(2+k) % x != 0
 ·exact zQ _
 ·show _<=(pl k++[2+k]).length;rw[qc];omega
theorem lP{k n:Nat}(h:k<=n):(pl k).length<=(pl n).length:=by
 obtain⟨d,rfl⟩:=Nat.exists_eq_add_of_le h;induction d with
 | zero=>exact zQ _
 | succ d ih=>exact Nat.le_trans (ih (by omega)) (Qhn _)
theorem Qqr:(pl 309).length=63:=by kernel_rfl
theorem Qqg(k:Nat):∀x,x∈pl k->2<=x:=by
 induction k with
 | zero=>intro x h;cases h
 | succ k ih=>
  intro x h;rw[pl] at h;cases e:(pl k).all λx=>(2+k) % x != 0 with
  | false=>rw[e] at h;exact ih x h
  | true=>
   rw[e] at h;rcases ww.1 (show x∈pl k++[2+k] from h) with h|h
   ·exact ih x h
   ·simp at h;omega
theorem Vk:Qy (s35 64) (λr=>r=ints (pl 310)):=by
 unfold s35;refine Qy.fn ?_;unfold g35;refine Ok.g (Ok.b (R:=λe=>e=ints (pl 310)) ?_ λe he=>Ok.g (Ok.d he));refine Ok.s 310 (by decide) (λk y=>y=(ints (pl k),((2+k:Nat):Int))) rfl (λk y hy hk=>?_) λy hy=>?_
 ·subst hy;have hl:=lP (show k<=309 by omega);rw[Qqr] at hl;have hp:=Qqg k;have hn:pl (k+1)=bif (pl k).all (λx=>(2+k) % x != 0) then pl k++[2+k] else pl k:=rfl;generalize pl k=l at hl hp hn ⊢;have il:(ints l).length=l.length:=wO _;have ei:Q0 (((2+k:Nat):Int)+1)=((2+(k+1):Nat):Int):=by rw[Z2 (by omega) (by omega)];omega
  refine Ok.t (by simp[il];omega) (Ok.b (R:=λb=>b=l.all (λx=>(2+k) % x != 0)) ?_ λb hb=>?_)
  ·refine Ok.s l.length (by omega) (λi y=>y=((l.take i).all (λx=>(2+k) % x != 0),(i:Int))) rfl (λi y hy hi=>?_) λy hy=>?_
   ·subst hy;obtain⟨x,hx,hx'⟩:=G2 (l:=l) (k:=i) hi;have h2:=hp x (wd hx');have hg:(ints l)[0+(i:Int).toNat]?=some (x:Int):=by
     rw[we,zW,ints,wm,hx'];rfl
    have et:(l.take (i+1)).all (λx=>(2+k) % x != 0)=((l.take i).all (λx=>(2+k) % x != 0)&&((2+k) % x != 0)):=by
     rw[List.take_add_one,hx',List.all_append];simp
    have em:Int.tmod ((2+k:Nat):Int) (x:Int)=(((2+k) % x:Nat):Int):=by rw[Int.tmod_eq_emod_of_nonneg (by omega)];rfl
    refine Ok.t (by rw[il];simp;omega) (Ok.k (by rw[il];simp;omega) (Ok.r rfl hg (Ok.k (by simp;omega) (Ok.e (λhc=>Ok.d ?_) λhc=>Ok.d ?_))))
    ·rw[em] at hc;have:(2+k) % x=0:=by
      have:=eq_of_beq hc;omega
     show (_,Q0 ((i:Int)+1))=_;rw[et,this,Y0 hi (by omega)];simp
    ·rw[em] at hc;have:(2+k) % x≠0:=λh=>by rw[h] at hc;cases hc
     show (_,Q0 ((i:Int)+1))=_;rw[et,Y0 hi (by omega)];simp[this]
   ·subst hy;refine Ok.f (by rw[il];simp) (Ok.d ?_);show (l.take l.length).all _=_;rw[List.take_length]
  ·subst hb;rw[hn];cases l.all (λx=>(2+k) % x != 0) with
   | true=>exact Ok.t rfl (Ok.app (show ((ints l).length+1) * 8<=140737488355328 by rw[il];omega) (Ok.g (Ok.g (Ok.d (by
     show (_,_)=_;rw[ei];simp[ints])))))
   | false=>exact Ok.f rfl (Ok.d (by show (_,_)=_;rw[ei];rfl))
 ·subst hy;exact Ok.f (show decide (((ints (pl 310)).length:Int) < 64)=false by kernel_rfl) (Ok.d rfl)
def EL:List Int:=[1779033703,3144134277,1013904242,2773480762,1359893119,2600822924,528734635,1541459225]
noncomputable def kE(e:Int)(l:List (Int×Int)):Bool:=l.all λx=>(tZ x.1 e).o==some x.2
theorem r2:kE 2 (((ints (pl 310)).take 8).zip EL)=true:=by kernel_rfl
theorem r30:kE 3 ((((ints (pl 310)).zip J2).drop 0).take 8)=true:=by kernel_rfl
theorem r31:kE 3 ((((ints (pl 310)).zip J2).drop 8).take 8)=true:=by kernel_rfl
theorem r32:kE 3 ((((ints (pl 310)).zip J2).drop 16).take 8)=true:=by kernel_rfl
theorem r33:kE 3 ((((ints (pl 310)).zip J2).drop 24).take 8)=true:=by kernel_rfl
theorem r34:kE 3 ((((ints (pl 310)).zip J2).drop 32).take 8)=true:=by kernel_rfl
theorem r35:kE 3 ((((ints (pl 310)).zip J2).drop 40).take 8)=true:=by kernel_rfl
theorem r36:kE 3 ((((ints (pl 310)).zip J2).drop 48).take 8)=true:=by kernel_rfl
theorem r37:kE 3 ((((ints (pl 310)).zip J2).drop 56).take 8)=true:=by kernel_rfl
theorem kU{e:Int}{l:List (Int×Int)}(h:kE e l=true){i:Nat}{x:Int×Int}(hx:l[i]?=some x):(tZ x.1 e).o=some x.2:=
 eq_of_beq (zN.1 h x (wd hx))
theorem Qqn:(ints (pl 310)).length=64:=by kernel_rfl
theorem Qhe{i:Nat}(hi:i < 64){p k:Int}(hp:(ints (pl 310))[i]?=some p)(hk:J2[i]?=some k):(tZ p 3).o=some k:=by
 have hz:((ints (pl 310)).zip J2)[i]?=some (p,k):=by rw[List.getElem?_zip_eq_some];exact⟨hp,hk⟩
 have f:∀n,kE 3 ((((ints (pl 310)).zip J2).drop (8 * n)).take 8)=true->8 * n<=i->i < 8 * n+8->(tZ p 3).o=some k:=λn h h1 h2=>
  kU h (i:=i - 8 * n) (x:=(p,k)) (by rw[List.getElem?_take,if_pos (by omega),List.getElem?_drop,show 8 * n+(i - 8 * n)=i by omega,hz])
 have:i / 8=0\/i / 8=1\/i / 8=2\/i / 8=3\/i / 8=4\/i / 8=5\/i / 8=6\/i / 8=7:=by omega
 rcases this with h|h|h|h|h|h|h|h
 ·exact f 0 r30 (by omega) (by omega)
 ·exact f 1 r31 (by omega) (by omega)
 ·exact f 2 r32 (by omega) (by omega)
 ·exact f 3 r33 (by omega) (by omega)
 ·exact f 4 r34 (by omega) (by omega)
 ·exact f 5 r35 (by omega) (by omega)
 ·exact f 6 r36 (by omega) (by omega)
 ·exact f 7 r37 (by omega) (by omega)
theorem Qhd{i:Nat}(hi:i < 8){p k:Int}(hp:(ints (pl 310))[i]?=some p)(hk:EL[i]?=some k):(tZ p 2).o=some k:=
 kU r2 (i:=i) (x:=(p,k)) (by rw[List.getElem?_zip_eq_some];exact⟨by rw[List.getElem?_take,if_pos hi,hp],hk⟩)
theorem EX{l:List Int}{k:Nat}{x:Int}(h:l[k]?=some x):l.take (k+1)=l.take k++[x]:=by rw[List.take_add_one,h];rfl
theorem Ve:Qy s9 (λr=>r=P0.mk EL J2):=by
 unfold s9;refine Qy.fn ?_;unfold g9;refine Ok.c Vk λr hr=>?_;subst hr;have hl:=Qqn;have h3:=@Qhe;have h2:=@Qhd;generalize ints (pl 310)=l at hl h3 h2 ⊢;have hK:=WQ;generalize J2=K at hK h3 ⊢;have hS:EL.length=8:=rfl;generalize EL=S at hS h2 ⊢;refine Ok.g (Ok.g (Ok.b (R:=λe=>e=(S,K)) ?_ λe he=>Ok.g (Ok.g (Ok.d (by rw[he])))));refine Ok.s 64 (by decide) (λk y=>y=(S.take k,K.take k,(k:Int))) rfl (λk y hy hk=>?_) λy hy=>?_
 ·subst hy;obtain⟨p,hp,hp'⟩:=G2 (l:=l) (k:=k) (by omega);obtain⟨c,_,hc'⟩:=G2 (l:=K) (k:=k) (by omega);have zK:(K.take k).length<=64:=by rw[qh];omega
  have zS:(S.take k).length<=64:=by rw[qh];omega
  refine Ok.t (by simp;omega) (Ok.r (by simp) hp (Ok.c (Qy.o (h3 hk hp' hc')) λr hr=>?_));subst hr;refine Ok.app (show ((K.take k).length+1) * 8<=140737488355328 by omega) (Ok.e (λhd=>?_) λhd=>?_)
  ·have hd:(k:Int) < 8:=by simpa using hd
   obtain⟨d,_,hd'⟩:=G2 (l:=S) (k:=k) (by omega);refine Ok.r (by simp) hp (Ok.c (Qy.o (h2 (by omega) hp' hd')) λr hr=>?_);subst hr;refine Ok.app (show ((S.take k).length+1) * 8<=140737488355328 by omega) (Ok.g (Ok.g (Ok.g (Ok.g (Ok.d ?_)))));show (_,_,Q0 ((k:Int)+1))=_;rw[Y0 hk (by decide),EX hc',EX hd']
  ·have hd:8<=(k:Int):=by simpa using hd
   refine Ok.g (Ok.g (Ok.d ?_));show (_,_,Q0 ((k:Int)+1))=_;rw[Y0 hk (by decide),EX hc',List.take_of_length_le (l:=S) (by omega),List.take_of_length_le (l:=S) (by omega)]
 ·subst hy;refine Ok.f rfl (Ok.d ?_);show (_,_)=_;rw[List.take_of_length_le (by omega),List.take_of_length_le (by omega)]
end Go.Proofs.YtjdieimefebnfaaGreatDoor
