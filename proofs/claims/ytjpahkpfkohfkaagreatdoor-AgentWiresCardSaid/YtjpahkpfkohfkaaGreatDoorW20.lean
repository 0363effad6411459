/- wakes' Wire and Unwire, by the plain law; two codes by the kernel ..; no conditions. -/
import Derived.Test.YtjpahkpfkohfkaaGreatDoorW19
import Derived.KernelRfl
set_option linter.unusedVariables false
set_option linter.unusedSimpArgs false
set_option maxRecDepth 1000000
namespace Go.Proofs.YtjpahkpfkohfkaaGreatDoor
open Go Go.EV
theorem firstK_last{l:List Q3}{a:Q3}(h:∀x,x∈l->x.fm≠8)(ha:a.fm=8):M2 8 (l++[a])=((l.length:Nat):Int):=by
 induction l with
 | nil=>show ite _ _ _=_;rw[if_pos ha];rfl
 | cons x l ih=>
  have i:=ih λy hy=>h y (List.mem_cons_of_mem _ hy)
  show ite _ _ _=_
  rw[if_neg (h x List.mem_cons_self)]
  show (if M2 8 (l++[a]) < 0 then (-1:Int) else M2 8 (l++[a])+1)=_
  rw[i,if_neg (by omega),wG]
  omega
attribute [local irreducible] macF in
theorem ver_wired{p:SProbe}(h:VP p)(key k2:za):verS (E4 p key) k2=if macF key (D1 (W7 (clsP p) 1) 36 (idS p.fj) (N0 p))=macF k2 (D1 (W7 (clsP p) 1) 36 (idS p.fj) (N0 p)) then 0 else 9:=by
 obtain⟨_,_,_,a4⟩:=attrs_okG h
 have e:(E4 p key).fo=N0 p++[macA (W7 (clsP p) 1) (idS p.fj) (N0 p) key]:=rfl
 have hf:=firstK_last (l:=N0 p) (a:=macA (W7 (clsP p) 1) (idS p.fj) (N0 p) key) (λx hx=>(a4 x hx).1) rfl
 unfold verS
 rw[e,hf,if_neg (by omega),zN,List.take_left,wz (zD _),Nat.sub_self]
 rfl
theorem wireS_eq(p:SProbe)(key:za):encM (E4 p key)=wireS p key:=rfl
attribute [local irreducible] wireS encM E4 in
theorem dec_wired{p:SProbe}(h:VP p)(key:za):∃d,decM (wireS p key)=some d/\DecR (wireS p key) d/\d=(E4 p key,0):=by
 have hz:=wireS_size h key
 have hw:=wireS_eq p key
 have hm:=wired_ok h key
 have hf:=I0 hm hw
 generalize wireS p key=s at hz hw hf ⊢
 generalize E4 p key=m at hm hw hf ⊢
 obtain⟨d,h1,h2,_⟩:=dec_same s (by omega)
 refine⟨d,h1,h2,?_⟩
 have hn:¬(s.size < 20\/(s.size:Int) < 20+n2 s 2):=by rw[hf.2.2.1,hf.1];omega
 unfold DecR at h2
 rw[if_neg hn] at h2
 rcases h2 with⟨m',m1,m2,rfl⟩|⟨hn2,_⟩
 ·rw[enc_inj (by omega) m1 hm m2 hw]
 ·exact absurd hw (hn2 _ hm)
def wkP:SProbe:=SProbe.mk 1 0 1845494271 true 9 false (Z4.mk (bs []) 0)
def wkK:za:=bs [107,101,121]
def wkO:za:=bs [111,116,104,101,114]
theorem wk_v:vB wkP=true:=by kernel_rfl
theorem wk_wire:SOk (s19 wkP wkK) (λr=>r=(wireS wkP wkK,0)):=
 (okAWIREG wkP (by decide)).mono λr hr=>by rw[hr,L8,if_pos wk_v]
theorem wk_un:SOk (s20 (wireS wkP wkK) wkK) (λr=>r=(wkP,0)):=by
 have h:=vB_facts wk_v
 obtain⟨d,h1,h2,h3⟩:=dec_wired h wkK
 refine(okAUNWIREG (key:=wkK) h1 h2 (by decide)).mono λr hr=>?_
 subst h3
 rw[hr]
 unfold unwR
 rw[if_pos rfl,if_pos (by rw[ver_wired h,if_pos rfl]),prS_wired h,L8,if_pos wk_v,if_pos rfl]
def hdN(s:za):Nat:=(s.data.toList.headD 0).toNat
theorem wk_ne:Nat.beq (hdN (macF wkK (D1 (W7 (clsP wkP) 1) 36 (idS wkP.fj) (N0 wkP)))) (hdN (macF wkO (D1 (W7 (clsP wkP) 1) 36 (idS wkP.fj) (N0 wkP))))=false:=by kernel_rfl
theorem wk_no:SOk (s20 (wireS wkP wkK) wkO) (λr=>r.2=9):=by
 have h:=vB_facts wk_v
 obtain⟨d,h1,h2,h3⟩:=dec_wired h wkK
 refine(okAUNWIREG (key:=wkO) h1 h2 (by decide)).mono λr hr=>?_
 subst h3
 have hne:macF wkK (D1 (W7 (clsP wkP) 1) 36 (idS wkP.fj) (N0 wkP))≠macF wkO (D1 (W7 (clsP wkP) 1) 36 (idS wkP.fj) (N0 wkP)):=λe=>by
  have:=wk_ne
  rw[e,Nat.beq_refl] at this
  cases this
 rw[hr]
 unfold unwR
 rw[if_pos rfl,ver_wired h,if_neg hne,if_neg (by decide)]
end Go.Proofs.YtjpahkpfkohfkaaGreatDoor
