/- The reference's constants of the digest ..; no conditions. -/
import Derived.Test.YtjpahkpfkohfkaaGreatDoorW17
import Derived.Test.YtjpahkpfkohfkaaGreatDoorW12
import Derived.Test.YtjpahkpfkohfkaaGreatDoorW15
import Derived.KernelRfl
set_option linter.unusedVariables false
set_option linter.unusedSimpArgs false
set_option maxRecDepth 1000000
namespace Go.Proofs.YtjpahkpfkohfkaaGreatDoor
open Go Go.EV
def pl:Nat->List Nat
 | 0=>[]
 | k+1=>let l:=pl k;bif l.all (λx=>(2+k) % x != 0) then l++[2+k] else l
def ints(l:List Nat):List Int:=l.map Int.ofNat
theorem pl_le(k:Nat):(pl k).length<=(pl (k+1)).length:=by
 show _<=(bif _ then _ else _:List Nat).length
 cases (pl k).all λx=>(2+k) % x != 0
 ·exact zD _
 ·show _<=(pl k++[2+k]).length
  rw[wM];omega
theorem pl_mono{k n:Nat}(h:k<=n):(pl k).length<=(pl n).length:=by
 obtain⟨d,rfl⟩:=Nat.exists_eq_add_of_le h
 induction d with
 | zero=>exact zD _
 | succ d ih=>exact Nat.le_trans (ih (by omega)) (pl_le _)
theorem pl_309:(pl 309).length=63:=by kernel_rfl
theorem pl_pos(k:Nat):∀x,x∈pl k->2<=x:=by
 induction k with
 | zero=>intro x h;cases h
 | succ k ih=>
  intro x h
  rw[pl] at h
  cases e:(pl k).all λx=>(2+k) % x != 0 with
  | false=>rw[e] at h;exact ih x h
  | true=>
   rw[e] at h
   rcases zU.1 (show x∈pl k++[2+k] from h) with h|h
   ·exact ih x h
   ·simp at h;omega
theorem okRPRIMES:SOk (s141 64) (λr=>r=ints (pl 310)):=by
 unfold s141
 refine SOk.fn ?_
 unfold g141
 refine Ok.g (Ok.b (R:=λe=>e=ints (pl 310)) ?_ λe he=>Ok.g (Ok.d he))
 refine Ok.s 310 (by decide) (λk y=>y=(ints (pl k),((2+k:Nat):Int))) rfl (λk y hy hk=>?_) λy hy=>?_
 ·subst hy
  have hl:=pl_mono (show k<=309 by omega)
  rw[pl_309] at hl
  have hp:=pl_pos k
  have hn:pl (k+1)=bif (pl k).all (λx=>(2+k) % x != 0) then pl k++[2+k] else pl k:=rfl
  generalize pl k=l at hl hp hn ⊢
  have il:(ints l).length=l.length:=wj _
  have ei:Q7 (((2+k:Nat):Int)+1)=((2+(k+1):Nat):Int):=by rw[Z9 (by omega) (by omega)];omega
  refine Ok.t (by simp[il];omega) (Ok.b (R:=λb=>b=l.all (λx=>(2+k) % x != 0)) ?_ λb hb=>?_)
  ·refine Ok.s l.length (by omega) (λi y=>y=((l.take i).all (λx=>(2+k) % x != 0),(i:Int))) rfl (λi y hy hi=>?_) λy hy=>?_
   ·subst hy
    obtain⟨x,hx,hx'⟩:=M5 (l:=l) (k:=i) hi
    have h2:=hp x (zO hx')
    have hg:(ints l)[0+(i:Int).toNat]?=some (x:Int):=by
     rw[zX,zN,ints,zV,hx'];rfl
    have et:(l.take (i+1)).all (λx=>(2+k) % x != 0)=((l.take i).all (λx=>(2+k) % x != 0)&&((2+k) % x != 0)):=by
     rw[List.take_add_one,hx',List.all_append];simp
    have em:Int.tmod ((2+k:Nat):Int) (x:Int)=(((2+k) % x:Nat):Int):=by rw[Int.tmod_eq_emod_of_nonneg (by omega)];rfl
    refine Ok.t (by rw[il];simp;omega) (Ok.k (by rw[il];simp;omega) (Ok.r rfl hg (Ok.k (by simp;omega) (Ok.e (λhc=>Ok.d ?_) λhc=>Ok.d ?_))))
    ·rw[em] at hc
     have:(2+k) % x=0:=by
      have:=eq_of_beq hc;omega
     show (_,Q7 ((i:Int)+1))=_
     rw[et,this,Y0 hi (by omega)]
     simp
    ·rw[em] at hc
     have:(2+k) % x≠0:=λh=>by rw[h] at hc;cases hc
     show (_,Q7 ((i:Int)+1))=_
     rw[et,Y0 hi (by omega)]
     simp[this]
   ·subst hy
    refine Ok.f (by rw[il];simp) (Ok.d ?_)
    show (l.take l.length).all _=_
    rw[List.take_length]
  ·subst hb
   rw[hn]
   cases l.all (λx=>(2+k) % x != 0) with
   | true=>exact Ok.t rfl (Ok.app (show ((ints l).length+1) * 8<=140737488355328 by rw[il];omega) (Ok.g (Ok.g (Ok.d (by
     show (_,_)=_
     rw[ei];simp[ints])))))
   | false=>exact Ok.f rfl (Ok.d (by show (_,_)=_;rw[ei];rfl))
 ·subst hy
  exact Ok.f (show decide (((ints (pl 310)).length:Int) < 64)=false by kernel_rfl) (Ok.d rfl)
def startK:List Int:=[1779033703,3144134277,1013904242,2773480762,1359893119,2600822924,528734635,1541459225]
noncomputable def okR(e:Int)(l:List (Int×Int)):Bool:=l.all λx=>(s142 x.1 e).o==some x.2
theorem r2:okR 2 (((ints (pl 310)).take 8).zip startK)=true:=by kernel_rfl
theorem r30:okR 3 ((((ints (pl 310)).zip U2).drop 0).take 8)=true:=by kernel_rfl
theorem r31:okR 3 ((((ints (pl 310)).zip U2).drop 8).take 8)=true:=by kernel_rfl
theorem r32:okR 3 ((((ints (pl 310)).zip U2).drop 16).take 8)=true:=by kernel_rfl
theorem r33:okR 3 ((((ints (pl 310)).zip U2).drop 24).take 8)=true:=by kernel_rfl
theorem r34:okR 3 ((((ints (pl 310)).zip U2).drop 32).take 8)=true:=by kernel_rfl
theorem r35:okR 3 ((((ints (pl 310)).zip U2).drop 40).take 8)=true:=by kernel_rfl
theorem r36:okR 3 ((((ints (pl 310)).zip U2).drop 48).take 8)=true:=by kernel_rfl
theorem r37:okR 3 ((((ints (pl 310)).zip U2).drop 56).take 8)=true:=by kernel_rfl
theorem okR_at{e:Int}{l:List (Int×Int)}(h:okR e l=true){i:Nat}{x:Int×Int}(hx:l[i]?=some x):(s142 x.1 e).o=some x.2:=
 eq_of_beq (zH.1 h x (zO hx))
theorem pl_len:(ints (pl 310)).length=64:=by kernel_rfl
theorem root3{i:Nat}(hi:i < 64){p k:Int}(hp:(ints (pl 310))[i]?=some p)(hk:U2[i]?=some k):(s142 p 3).o=some k:=by
 have hz:((ints (pl 310)).zip U2)[i]?=some (p,k):=by rw[List.getElem?_zip_eq_some];exact⟨hp,hk⟩
 have f:∀n,okR 3 ((((ints (pl 310)).zip U2).drop (8 * n)).take 8)=true->8 * n<=i->i < 8 * n+8->(s142 p 3).o=some k:=λn h h1 h2=>
  okR_at h (i:=i - 8 * n) (x:=(p,k)) (by rw[wY,if_pos (by omega),wZ,show 8 * n+(i - 8 * n)=i by omega,hz])
 have:i / 8=0\/i / 8=1\/i / 8=2\/i / 8=3\/i / 8=4\/i / 8=5\/i / 8=6\/i / 8=7:=by omega
 rcases this with h|h|h|h|h|h|h|h
 ·exact f 0 r30 (by omega) (by omega)
 ·exact f 1 r31 (by omega) (by omega)
 ·exact f 2 r32 (by omega) (by omega)
 ·exact f 3 r33 (by omega) (by omega)
 ·exact f 4 r34 (by omega) (by omega)
 ·exact f 5 r35 (by omega) (by omega)
 ·exact f 6 r36 (by omega) (by omega)
 ·exact f 7 r37 (by omega) (by omega)
theorem root2{i:Nat}(hi:i < 8){p k:Int}(hp:(ints (pl 310))[i]?=some p)(hk:startK[i]?=some k):(s142 p 2).o=some k:=
 okR_at r2 (i:=i) (x:=(p,k)) (by rw[List.getElem?_zip_eq_some];exact⟨by rw[wY,if_pos hi,hp],hk⟩)
theorem take_snoc{l:List Int}{k:Nat}{x:Int}(h:l[k]?=some x):l.take (k+1)=l.take k++[x]:=by rw[List.take_add_one,h];rfl
theorem okRCONSTS:SOk s65 (λr=>r=E6.mk startK U2):=by
 unfold s65
 refine SOk.fn ?_
 unfold g65
 refine Ok.c okRPRIMES λr hr=>?_
 subst hr
 have hl:=pl_len
 have h3:=@root3
 have h2:=@root2
 generalize ints (pl 310)=l at hl h3 h2 ⊢
 have hK:=digestK_len
 generalize U2=K at hK h3 ⊢
 have hS:startK.length=8:=rfl
 generalize startK=S at hS h2 ⊢
 refine Ok.g (Ok.g (Ok.b (R:=λe=>e=(S,K)) ?_ λe he=>Ok.g (Ok.g (Ok.d (by rw[he])))))
 refine Ok.s 64 (by decide) (λk y=>y=(S.take k,K.take k,(k:Int))) rfl (λk y hy hk=>?_) λy hy=>?_
 ·subst hy
  obtain⟨p,hp,hp'⟩:=M5 (l:=l) (k:=k) (by omega)
  obtain⟨c,_,hc'⟩:=M5 (l:=K) (k:=k) (by omega)
  have zK:(K.take k).length<=64:=by rw[wV];omega
  have zS:(S.take k).length<=64:=by rw[wV];omega
  refine Ok.t (by simp;omega) (Ok.r (by simp) hp (Ok.c (SOk.o (h3 hk hp' hc')) λr hr=>?_))
  subst hr
  refine Ok.app (show ((K.take k).length+1) * 8<=140737488355328 by omega) (Ok.e (λhd=>?_) λhd=>?_)
  ·have hd:(k:Int) < 8:=by simpa using hd
   obtain⟨d,_,hd'⟩:=M5 (l:=S) (k:=k) (by omega)
   refine Ok.r (by simp) hp (Ok.c (SOk.o (h2 (by omega) hp' hd')) λr hr=>?_)
   subst hr
   refine Ok.app (show ((S.take k).length+1) * 8<=140737488355328 by omega) (Ok.g (Ok.g (Ok.g (Ok.g (Ok.d ?_)))))
   show (_,_,Q7 ((k:Int)+1))=_
   rw[Y0 hk (by decide),take_snoc hc',take_snoc hd']
  ·have hd:8<=(k:Int):=by simpa using hd
   refine Ok.g (Ok.g (Ok.d ?_))
   show (_,_,Q7 ((k:Int)+1))=_
   rw[Y0 hk (by decide),take_snoc hc',List.take_of_length_le (l:=S) (by omega),List.take_of_length_le (l:=S) (by omega)]
 ·subst hy
  refine Ok.f rfl (Ok.d ?_)
  show (_,_)=_
  rw[List.take_of_length_le (by omega),List.take_of_length_le (by omega)]
end Go.Proofs.YtjpahkpfkohfkaaGreatDoor
