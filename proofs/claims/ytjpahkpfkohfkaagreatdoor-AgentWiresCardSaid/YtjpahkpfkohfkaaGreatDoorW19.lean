/- Any probe, as octets: program and reference. The message of any valid probe, and its octets: program and reference. Any probe on the wire: program an ..; no conditions. -/
import Derived.Test.YtjpahkpfkohfkaaGreatDoorW17
import Derived.Test.YtjpahkpfkohfkaaGreatDoorW18
import Derived.Test.YtjpahkpfkohfkaaGreatDoorW12
import Derived.KernelRfl
set_option linter.unusedVariables false
set_option linter.unusedSimpArgs false
set_option maxRecDepth 100000
noncomputable section
namespace Go.Proofs.YtjpahkpfkohfkaaGreatDoor
open Go Go.EV
instance (a:Z4):Decidable (L3 a):=by unfold L3;infer_instance
def a0:Z4:=⟨zb,0⟩
def seenB(p:SProbe):Bool:=(decide (p.ft.fc=zb))&&((p.ft.fe==0)&&true)
def zeroB(p:SProbe):Bool:=(p.fA==0)&&(!p.fq&&((p.fw==0)&&!p.fE))
def askB(p:SProbe):Bool:=(decide (1<=p.fA)&&decide (p.fA<=2147483647))&&((decide (0<=p.fw)&&decide (p.fw<=281474976710655))&&((p.fq || !p.fE)&&seenB p))
def vB(p:SProbe):Bool:=(decide (0<=p.fj)&&decide (p.fj<=1099511627776))&&(bif p.fm==1 then askB p else bif p.fm==2 then decide (L3 p.ft)&&zeroB p else bif p.fm==3 then zeroB p&&seenB p else false)
theorem okAWITHIN(n a b:Int):SOk (s39 n a b) (λr=>r=(decide (a<=n)&&decide (n<=b))):=by
 unfold s39
 refine SOk.fn ?_
 refine Ok.n (R:=λr=>r=(decide (a<=n)&&decide (n<=b))) (Ok.e (λh=>Ok.d (by rw[h];rfl)) λh=>Ok.d (by rw[h];rfl)) λc hc=>Ok.d hc
theorem okPVALIDG(p:SProbe):SOk (s48 p) (λr=>r=vB p):=by
 unfold s48
 refine SOk.fn ?_
 unfold g48
 refine Ok.c (okAWITHIN _ _ _) λr hr=>Ok.e (λh=>Ok.d ?_) λh=>?_
 ·rw[hr] at h
  unfold vB
  cases e:(decide (0<=p.fj)&&decide (p.fj<=1099511627776)) with
  | true=>rw[e] at h;cases h
  | false=>rfl
 rw[hr] at h
 have h:(decide (0<=p.fj)&&decide (p.fj<=1099511627776))=true:=by
  cases e:(decide (0<=p.fj)&&decide (p.fj<=1099511627776)) with
  | true=>rfl
  | false=>rw[e] at h;cases h
 unfold vB
 rw[h,Bool.true_and]
 refine Ok.e (λh1=>?_) λh1=>?_
 ·rw[h1,cond_true]
  refine Ok.n (R:=λc=>c=askB p) (Ok.c (okAWITHIN _ _ _) λr hr=>Ok.e (λh2=>Ok.c (okAWITHIN _ _ _) λr2 hr2=>Ok.e (λh3=>Ok.e (λh4=>Ok.d ?_) λh4=>Ok.e (λh5=>Ok.d ?_) λh5=>Ok.d ?_) λh3=>Ok.d ?_) λh2=>Ok.d ?_) λc hc=>Ok.d hc
  all_goals unfold askB
  all_goals rw[hr] at h2
  ·rw[hr2] at h3
   rw[h2,h3,h4];rfl
  ·rw[hr2] at h3
   rw[h2,h3,h4,h5];rfl
  ·rw[hr2] at h3
   rw[h2,h3,h4,h5];rfl
  ·rw[hr2] at h3
   rw[h2,h3];rfl
  ·rw[h2];rfl
 rw[h1,cond_false]
 refine Ok.e (λh2=>?_) λh2=>?_
 ·rw[h2,cond_true]
  refine Ok.n (R:=λc=>c=(decide (L3 p.ft)&&zeroB p)) (Ok.c (okAUSABLE p.ft) λr hr=>Ok.e (λh3=>Ok.d ?_) λh3=>Ok.d ?_) λc hc=>Ok.d hc
  ·rw[ww (hr.1 h3)]
   unfold zeroB
   cases p.fq<;>cases p.fE<;>simp
  ·rw[wR λq=>by rw[hr.2 q] at h3;cases h3];rfl
 rw[h2,cond_false]
 refine Ok.e (λh3=>Ok.d ?_) λh3=>Ok.d ?_
 ·rw[h3,cond_true]
  unfold zeroB seenB
  cases p.fq<;>cases p.fE<;>simp[Bool.and_assoc]
 ·rw[h3,cond_false]
theorem okRPROBE(p:SProbe):SOk (s63 p) (λr=>r=vB p):=by
 unfold s63
 refine SOk.fn ?_
 unfold g63
 refine Ok.n (R:=λc=>c=!(decide (0<=p.fj)&&decide (p.fj<=1099511627776))) (Ok.e (λh=>Ok.d ?_) λh=>Ok.d ?_) λc hc=>?_
 ·have h:p.fj < 0:=of_decide_eq_true h
  rw[wR (by omega:¬0<=p.fj)];rfl
 ·have h:¬p.fj < 0:=of_decide_eq_false h
  rw[ww (by omega:0<=p.fj)]
  by_cases q:p.fj<=1099511627776
  ·rw[ww q,wR (by omega)];rfl
  ·rw[wR q,ww (by omega)];rfl
 subst hc
 unfold vB
 cases hI:(decide (0<=p.fj)&&decide (p.fj<=1099511627776)) with
 | false=>exact Ok.t rfl (Ok.d rfl)
 | true=>
  rw[Bool.true_and]
  refine Ok.f rfl (Ok.e (λh1=>?_) λh1=>?_)
  ·rw[h1,cond_true]
   refine Ok.n (R:=λc=>c=askB p) ?_ λc hc=>Ok.d hc
   unfold askB
   have ht:decide (p.fw < 281474976710656)=decide (p.fw<=281474976710655):=by rw[decide_eq_decide];omega
   refine Ok.e (λh2=>?_) λh2=>Ok.d (by rw[h2];rfl)
   rw[h2,Bool.true_and]
   refine Ok.e (λh3=>?_) λh3=>Ok.d (by rw[h3];rfl)
   rw[h3,Bool.true_and]
   refine Ok.e (λh4=>?_) λh4=>Ok.d (by rw[h4];rfl)
   rw[h4,Bool.true_and]
   rw[ht]
   refine Ok.e (λh5=>?_) λh5=>Ok.d (by rw[h5];rfl)
   rw[h5,Bool.true_and]
   refine Ok.e (λh6=>?_) λh6=>Ok.d (by rw[h6];cases p.fq<;>rfl)
   rw[h6]
   refine Ok.e (λh7=>Ok.d ?_) λh7=>Ok.d ?_
   ·have:p.fq=true:=by simpa using h7
    rw[this];rfl
   ·have:p.fq=false:=by simpa using h7
    rw[this];rfl
  ·rw[h1,cond_false]
   refine Ok.n (R:=λc=>c=!zeroB p) (Ok.e (λh2=>Ok.d ?_) λh2=>Ok.e (λh3=>Ok.d ?_) λh3=>Ok.e (λh4=>Ok.d ?_) λh4=>Ok.d ?_) λc hc=>?_
   ·unfold zeroB
    have h2:(p.fA==0)=false:=by simpa using h2
    rw[h2];rfl
   ·unfold zeroB
    rw[h3];simp
   ·unfold zeroB
    have h4:(p.fw==0)=false:=by simpa using h4
    rw[h4];simp
   ·unfold zeroB
    have h2:(p.fA==0)=true:=by simpa using h2
    have h4:(p.fw==0)=true:=by simpa using h4
    rw[h2,h3,h4];simp
   ·subst hc
    cases hz:zeroB p with
    | false=>
     refine Ok.t rfl (Ok.d ?_)
     cases p.fm==2<;>cases p.fm==3<;>simp
    | true=>
     refine Ok.f rfl (Ok.n (R:=λc=>c=(bif p.fm==2 then decide (L3 p.ft)&&true else bif p.fm==3 then true&&seenB p else false)) ?_ λc hc=>Ok.d hc)
     refine Ok.e (λh2=>Ok.c (okRUSABLE p.ft) λr hr=>Ok.e (λh3=>Ok.d ?_) λh3=>?_) λh2=>?_
     ·rw[h2,cond_true,ww (hr.1 h3)];rfl
     ·have hk:p.fm=2:=eq_of_beq h2
      have hn:decide (L3 p.ft)=false:=wR λq=>by rw[hr.2 q] at h3;cases h3
      exact Ok.f (by rw[hk];rfl) (Ok.d (by rw[h2,cond_true,hn];rfl))
     ·rw[h2,cond_false]
      exact Ok.e (λh3=>Ok.d (by rw[h3];rfl)) λh3=>Ok.d (by rw[h3];rfl)
def AskV(p:SProbe):Prop:=p.fm=1/\(1<=p.fA/\p.fA<=2147483647)/\(0<=p.fw/\p.fw<=281474976710655)/\(p.fE=true->p.fq=true)/\p.ft=a0
def ZeroV(p:SProbe):Prop:=p.fA=0/\p.fq=false/\p.fw=0/\p.fE=false
def VP(p:SProbe):Prop:=(0<=p.fj/\p.fj<=1099511627776)/\(AskV p\/(p.fm=2/\L3 p.ft/\ZeroV p)\/(p.fm=3/\p.ft=a0/\ZeroV p))
theorem seen_a0{p:SProbe}(h:seenB p=true):p.ft=a0:=by
 unfold seenB at h
 simp at h
 obtain⟨K,I,P,C,T,U,⟨H,O⟩⟩:=p
 simp only at h
 rw[h.1,h.2];rfl
theorem zero_v{p:SProbe}(h:zeroB p=true):ZeroV p:=by
 unfold zeroB at h
 simp at h
 exact h
theorem vB_facts{p:SProbe}(h:vB p=true):VP p:=by
 unfold vB at h
 rw[zC,zC,zG,zG] at h
 refine⟨h.1,?_⟩
 have h:=h.2
 by_cases h1:p.fm=1
 ·rw[show (p.fm==1)=true from beq_iff_eq.2 h1,cond_true] at h
  unfold askB at h
  simp only[zC,zG] at h
  refine .inl ⟨h1,h.1,h.2.1,λhu=>?_,seen_a0 h.2.2.2⟩
  grind
 ·rw[show (p.fm==1)=false from beq_false_of_ne h1,cond_false] at h
  by_cases h2:p.fm=2
  ·simp_all [beq_iff_eq,cond_true,zC,zG,zero_v]
  simp_all [beq_false_of_ne,cond_false,beq_iff_eq,cond_true,zC,seen_a0,zero_v]
theorem beN_split(k:Nat){n:Int}(h0:0<=n)(h:n < 72057594037927936):beN (k+7) n=beN k 0++beN 7 n:=by
 simp only[beN,List.nil_append,List.append_assoc]
 rw[show n / 256 / 256 / 256 / 256 / 256 / 256 / 256=0 by omega]
def idS(n:Int):za:=strOfNums (beN 5 0)++strOfNums (beN 7 n)
theorem idS_size(n:Int):(idS n).size=12:=by grind [ByteArray.size_append,H4,J9,idS]
theorem idS_eq{n:Int}(h0:0<=n)(h:n < 72057594037927936):strOfNums (beN 12 n)=idS n:=by
 rw[show (12:Nat)=5+7 from rfl,beN_split 5 h0 h,C9];rfl
def roleA(p:SProbe):Q3:=⟨if p.fq=true then 32810 else 32809,strOfNums (beN 1 0)++strOfNums (beN 7 p.fw)⟩
def askA(p:SProbe):List Q3:=[⟨36,strOfNums (beN 4 p.fA)⟩,roleA p]++(if p.fE=true then [⟨37,zb⟩] else [])
def reasonS:za:=bs [0,0,4,87]
def N0(p:SProbe):List Q3:=if p.fm=1 then askA p else if p.fm=2 then [⟨32,mixA (idS p.fj) p.ft⟩] else [⟨9,reasonS⟩]
def clsP(p:SProbe):Int:=if p.fm=1 then 0 else if p.fm=2 then 2 else 3
def msgP(p:SProbe):Z8:=⟨clsP p,1,idS p.fj,N0 p⟩
theorem okAPUT{n v:Int}{x:za}(h:SOk (s198 n v) (λr=>r=(x,0))):SOk (s122 n v) (λr=>r=x):=by
 unfold s122
 refine SOk.fn ?_
 exact Ok.c h (by grind [Ok.d])
theorem okAMSG1(a b c:Int)(x y:za):SOk (s123 a x b c y) (λr=>r=[⟨a,x⟩]):=Ok.app (by grind) (Ok.d rfl)
theorem okAMSG1b(a b c:Int)(x y:za)(l:List Q3)(hl:l.length<=100):SOk (s123_1 a x b c y l) (λr=>r=l++[⟨a,x⟩]):=Ok.app (by grind) (Ok.d rfl)
theorem usable_ok{a:Z4}(h:L3 a):P9 a:=⟨h.1,by have:=h.2.1;omega,h.2.2⟩
theorem reason_eq:(s125 487 zb).o=some (reasonS,0):=by kernel_rfl
theorem okAMSGG{p:SProbe}(h:VP p):SOk (s58 p) (λr=>r=msgP p):=by
 obtain⟨⟨i0,i1⟩,h⟩:=h
 have hid:=idS_size p.fj
 unfold s58
 refine SOk.fn ?_
 unfold g58
 refine Ok.c (okAPUT (okPUT5 0 (by decide) (by decide))) λr hr=>?_
 subst hr
 refine Ok.c (okAPUT (okPUT7 p.fj i0 (by omega))) λr hr=>?_
 subst hr
 refine Ok.k (by grind [H4,J9]) ?_
 have hi:strOfNums (beN 5 0)++strOfNums (beN 7 p.fj)=idS p.fj:=rfl
 rw[hi]
 unfold msgP N0 clsP
 rcases h with⟨hk,⟨p0,p1⟩,⟨t0,t1⟩,hu,hs⟩|⟨hk,hs,hz⟩|⟨hk,hs,hz⟩
 ·refine Ok.t (by rw[hk];rfl) (Ok.c (okAPUT (okPUT4 p.fA (by omega) (by omega))) λr hr=>?_)
  subst hr
  refine Ok.c (okAMSG1 _ _ _ _ _) λr hr=>?_
  subst hr
  refine Ok.b (R:=λe=>e=if p.fq=true then 32810 else 32809) (Ok.e (λhc=>Ok.d (by rw[if_pos hc])) λhc=>Ok.d (by grind)) λe he=>?_
  subst he
  refine Ok.c (okAPUT (okPUT1 0 (by decide) (by decide))) λr hr=>?_
  subst hr
  refine Ok.c (okAPUT (okPUT7 p.fw t0 (by omega))) λr hr=>?_
  subst hr
  refine Ok.k (by grind [H4,J9]) (Ok.c (okAMSG1b _ _ _ _ _ _ (show 1<=100 by decide)) λr hr=>?_)
  subst hr
  rw[if_pos hk,if_pos hk]
  unfold askA
  refine Ok.e (λhc=>?_) λhc=>?_
  ·refine Ok.c (okAMSG1b _ _ _ _ _ _ (show 2<=100 by decide)) λr hr=>?_
   subst hr
   refine Ok.g (Ok.d ?_)
   rw[if_pos hc]
   rfl
  ·refine Ok.g (Ok.d ?_)
   rw[if_neg (c:=p.fE=true) (by rw[hc];decide)]
   rfl
 ·have e:Z4.mk p.ft.fc p.ft.fe=p.ft:=rfl
  rw[if_neg (by omega),if_pos hk,if_neg (by omega),if_pos hk]
  refine Ok.f (by rw[hk];rfl) (Ok.t (by rw[hk];rfl) ?_)
  rw[e]
  refine Ok.c (okSMIX (idS p.fj) hid p.ft (by have:=hs.1;omega)) λr hr=>?_
  rw[if_pos (usable_ok hs)] at hr
  subst hr
  refine Ok.c (okAMSG1 _ _ _ _ _) λr hr=>?_
  subst hr
  exact Ok.g (Ok.d rfl)
 ·rw[if_neg (by omega),if_neg (by omega),if_neg (by omega),if_neg (by omega)]
  refine Ok.f (by rw[hk];rfl) (Ok.f (by rw[hk];rfl) (Ok.c (SOk.o reason_eq) λr hr=>?_))
  subst hr
  refine Ok.c (okAMSG1 _ _ _ _ _) λr hr=>?_
  subst hr
  exact Ok.g (Ok.d rfl)
theorem okR8WITH(m:Z8)(k:Int)(v:za)(h:m.fo.length<=100):SOk (s139 m k v) (λr=>r=plusA m ⟨k,v⟩):=by
 grind [SOk.fn,Ok.app,Ok.g,Ok.d,s139,g139,plusA]
theorem okRMSG{p:SProbe}(h:VP p):SOk (s66 p) (λr=>r=msgP p):=by
 obtain⟨⟨i0,i1⟩,h⟩:=h
 have hid:=idS_size p.fj
 unfold s66
 refine SOk.fn ?_
 unfold g66
 refine Ok.c (show SOk _ _ from S8 12 p.fj i0 (by omega) (by decide)) λr hr=>?_
 subst hr
 rw[idS_eq i0 (by omega)]
 unfold msgP N0 clsP
 rcases h with⟨hk,⟨p0,p1⟩,⟨t0,t1⟩,hu,hs⟩|⟨hk,hs,hz⟩|⟨hk,hs,hz⟩
 ·refine Ok.t (by rw[hk];rfl) (Ok.b (R:=λe=>e=if p.fq=true then 32810 else 32809) (Ok.e (λhc=>Ok.d (by rw[if_pos hc])) λhc=>Ok.d (by grind)) λe he=>?_)
  subst he
  refine Ok.c (show SOk _ _ from S8 4 p.fA (by omega) (by omega) (by decide)) λr hr=>?_
  subst hr
  refine Ok.c (okR8WITH _ _ _ (show 0<=100 by decide)) λr hr=>?_
  subst hr
  refine Ok.c (show SOk _ _ from S8 8 p.fw t0 (by omega) (by decide)) λr hr=>?_
  subst hr
  refine Ok.c (okR8WITH _ _ _ (show 1<=100 by decide)) λr hr=>?_
  subst hr
  rw[if_pos hk,if_pos hk]
  have et:strOfNums (beN 8 p.fw)=strOfNums (beN 1 0)++strOfNums (beN 7 p.fw):=by rw[show (8:Nat)=1+7 from rfl,beN_split 1 t0 (by omega),C9]
  unfold askA
  refine Ok.e (λhc=>?_) λhc=>Ok.d ?_
  ·refine Ok.c (okR8WITH _ _ _ (show 2<=100 by decide)) λr hr=>Ok.d ?_
   subst hr
   rw[if_pos hc,et]
   rfl
  ·rw[if_neg (c:=p.fE=true) (by rw[hc];decide),et]
   rfl
 ·rw[if_neg (by omega),if_pos hk,if_neg (by omega),if_pos hk]
  refine Ok.f (by rw[hk];rfl) (Ok.t (by rw[hk];rfl) (Ok.c (okR8MIXED (idS p.fj) hid p.ft (usable_ok hs)) λr hr=>?_))
  subst hr
  refine Ok.c (okR8WITH _ _ _ (show 0<=100 by decide)) λr hr=>Ok.d ?_
  subst hr
  rfl
 ·rw[if_neg (by omega),if_neg (by omega),if_neg (by omega),if_neg (by omega)]
  refine Ok.f (by rw[hk];rfl) (Ok.f (by rw[hk];rfl) (Ok.c (R:=λr=>r=reasonS) ⟨reasonS,by kernel_rfl,rfl⟩ λr hr=>?_))
  subst hr
  refine Ok.c (okR8WITH _ _ _ (show 0<=100 by decide)) λr hr=>Ok.d ?_
  subst hr
  rfl
theorem attrs_okG{p:SProbe}(h:VP p):(∀a,a∈N0 p->L5 a)/\(N0 p).length<=3/\Y4 (N0 p)<=24/\(∀a,a∈N0 p->a.fm≠8/\a.fm≠32808):=by
 obtain⟨_,h⟩:=h
 unfold N0
 rcases h with⟨hk,_⟩|⟨hk,hs,_⟩|⟨hk,_⟩
 ·rw[if_pos hk]
  have z1:(strOfNums (beN 4 p.fA)).size=4:=by rw[H4,J9]
  have z2:(roleA p).fp.size=8:=by unfold roleA;rw[ByteArray.size_append,H4,H4,J9,J9]
  have k2:(roleA p).fm=32810\/(roleA p).fm=32809:=by unfold roleA;by_cases hc:p.fq=true<;>simp[hc]
  have u1:L5 ⟨36,strOfNums (beN 4 p.fA)⟩:=⟨⟨show (0:Int)<=36 by decide,show (36:Int) < 65536 by decide⟩,by show (strOfNums (beN 4 p.fA)).size<=763;omega⟩
  have u2:L5 (roleA p):=⟨by omega,by omega⟩
  have u3:L5 ⟨37,zb⟩:=⟨⟨by decide,by decide⟩,by decide⟩
  unfold askA
  by_cases hc:p.fE=true
  ·rw[if_pos hc]
   refine⟨λa ha=>?_,by simp,?_,λa ha=>?_⟩
   ·simp only[List.cons_append,List.nil_append,zT,wg,or_false] at ha
    rcases ha with rfl|rfl|rfl<;>assumption
   ·simp only[Y4,List.cons_append,List.nil_append,zW,List.map_nil,List.sum_cons,List.sum_nil,z1,z2];decide
   ·simp only[List.cons_append,List.nil_append,zT,wg,or_false] at ha
    rcases ha with rfl|rfl|rfl
    ·exact⟨show (36:Int)≠8 by decide,show (36:Int)≠32808 by decide⟩
    ·omega
    ·exact⟨by decide,by decide⟩
  ·rw[if_neg hc]
   refine⟨λa ha=>?_,by simp,?_,λa ha=>?_⟩
   ·simp only[wE,zT,wg,or_false] at ha
    rcases ha with rfl|rfl<;>assumption
   ·simp only[Y4,wE,zW,List.map_nil,List.sum_cons,List.sum_nil,z1,z2];decide
   ·simp only[wE,zT,wg,or_false] at ha
    rcases ha with rfl|rfl
    ·exact⟨show (36:Int)≠8 by decide,show (36:Int)≠32808 by decide⟩
    ·omega
 ·rw[if_neg (by omega),if_pos hk]
  have hz:=mixA_size (idS_size p.fj) (a:=p.ft) hs.1
  have hs1:=hs.1
  refine⟨λa ha=>?_,by simp,?_,λa ha=>?_⟩
  ·rw[we.1 ha];exact⟨⟨show (0:Int)<=32 by decide,show (32:Int) < 65536 by decide⟩,by show (mixA (idS p.fj) p.ft).size<=763;omega⟩
  ·simp only[Y4,zW,List.map_nil,List.sum_cons,List.sum_nil,hz]
   unfold up4;omega
  ·rw[we.1 ha];exact⟨show (32:Int)≠8 by decide,show (32:Int)≠32808 by decide⟩
 ·rw[if_neg (by omega),if_neg (by omega)]
  refine⟨λa ha=>?_,by simp,?_,λa ha=>?_⟩
  ·rw[we.1 ha];exact⟨⟨show (0:Int)<=9 by decide,show (9:Int) < 65536 by decide⟩,by show reasonS.size<=763;decide⟩
  ·show 4+up4 reasonS.size+0<=24;decide
  ·rw[we.1 ha];exact⟨show (9:Int)≠8 by decide,show (9:Int)≠32808 by decide⟩
theorem cls_ok(p:SProbe):0<=clsP p/\clsP p<=3:=by unfold clsP;split;decide;split<;>decide
theorem msg_okG{p:SProbe}(h:VP p):D9 (msgP p):=by
 obtain⟨a1,a2,a3,_⟩:=attrs_okG h
 exact⟨cls_ok p,⟨by show (0:Int)<=1;decide,by show (1:Int)<=4095;decide⟩,idS_size _,by show (N0 p).length<=30;omega,a1,by show 20+Y4 (N0 p)<=1200;omega⟩
def E4(p:SProbe)(key:za):Z8:=plusA (msgP p) (macA (W7 (clsP p) 1) (idS p.fj) (N0 p) key)
def wireS(p:SProbe)(key:za):za:=encM (E4 p key)
theorem mac_size(key s:za):(macF key s).size=32:=macS_size _ _ _
theorem wired_ok{p:SProbe}(h:VP p)(key:za):D9 (E4 p key):=by
 obtain⟨a1,a2,a3,_⟩:=attrs_okG h
 have hz:(macA (W7 (clsP p) 1) (idS p.fj) (N0 p) key).fp.size=32:=mac_size _ _
 refine plusA_ok (msg_okG h) ⟨⟨by show (0:Int)<=8;decide,by show (8:Int) < 65536;decide⟩,by omega⟩ (by show (N0 p).length<=29;omega) (by show Y4 (N0 p)+_<=1173;omega)
theorem wireS_size{p:SProbe}(h:VP p)(key:za):(wireS p key).size<=80:=by
 obtain⟨a1,a2,a3,_⟩:=attrs_okG h
 have hz:(macA (W7 (clsP p) 1) (idS p.fj) (N0 p) key).fp.size=32:=mac_size _ _
 have hf:=I0 (wired_ok h key) rfl
 have e:(E4 p key).fo=N0 p++[macA (W7 (clsP p) 1) (idS p.fj) (N0 p) key]:=rfl
 rw[e,sizeL_app] at hf
 have e2:Y4 [macA (W7 (clsP p) 1) (idS p.fj) (N0 p) key]=36:=by
  simp only[Y4,zW,List.map_nil,List.sum_cons,List.sum_nil,hz];decide
 have:=hf.1
 show (encM (E4 p key)).size<=80
 omega
def L8(p:SProbe)(key:za):za×Int:=if vB p=true then (wireS p key,0) else (zb,110)
theorem okAWIREG(p:SProbe){key:za}(hk:key.size<=4096):SOk (s19 p key) (λr=>r=L8 p key):=by
 unfold s19
 refine SOk.fn ?_
 unfold g19 L8
 refine Ok.c (okPVALIDG p) λr hr=>?_
 subst hr
 by_cases hv:vB p=true
 ·rw[if_pos hv,hv]
  have h:=vB_facts hv
  obtain⟨a1,a2,a3,a4⟩:=attrs_okG h
  have hm:=msg_okG h
  have hkd:=kind_eq hm.1 hm.2.1
  have hr:=F3 hm.1 hm.2.1
  have hw:=wired_ok h key
  refine Ok.f rfl (Ok.c (okAMSGG h) λr hr2=>?_)
  subst hr2
  refine Ok.c (okSPROT (m:=msgP p) hkd hr.1 (by omega) hm hk a4 hw) λr hr2=>?_
  subst hr2
  refine Ok.f rfl (Ok.c (okSENC (m:=E4 p key) (kind_eq hw.1 hw.2.1) hr.1 (by show W7 _ _ < _;exact Int.lt_trans hr.2 (by decide)) hw) λr hr2=>Ok.d ?_)
  subst hr2
  rfl
 ·rw[if_neg hv]
  have:vB p=false:=by simpa using hv
  rw[this]
  exact Ok.t rfl (Ok.d rfl)
theorem okR8PROT(t:E6)(ht:tabS t){p:SProbe}(h:VP p){key:za}(hk:key.size<=4096):SOk (s64 t (msgP p) key) (λr=>r=(E4 p key,0)):=by
 obtain⟨a1,a2,a3,a4⟩:=attrs_okG h
 have hm:=msg_okG h
 have hl:(msgP p).fo.length<=30:=hm.2.2.2.1
 have none:∀k:Int,(∀a,a∈N0 p->a.fm≠k)->M2 k (msgP p).fo < 0:=λk h=>by
  apply Decidable.byContradiction
  intro q
  obtain⟨a,h1,h2⟩:=has_first.2 q
  exact h a h1 h2
 unfold s64
 refine SOk.fn ?_
 unfold g64
 refine Ok.c (okR8RIGHT _ hm) λr hr=>?_
 subst hr
 refine Ok.f rfl (Ok.f (by simp;omega) (Ok.n (R:=λc=>c=false) (Ok.c (F9 _ 8 (by omega)) λr hr=>?_) λc hc=>?_))
 ·have n8:=none 8 λa ha=>(a4 a ha).1
  rw[<-hr] at n8
  refine Ok.f (by simpa using n8) (Ok.c (F9 _ 32808 (by omega)) λr hr=>Ok.d ?_)
  have n9:=none 32808 λa ha=>(a4 a ha).2
  rw[<-hr] at n9
  simpa using n9
 ·subst hc
  refine Ok.f rfl ?_
  have e:Y6 Q2 (msgP p).fo=(((msgP p).fo.length:Nat):Int):=U6 _ _
  rw[e]
  refine Ok.c (okR8INTEG t ht _ hm _ (zD _) key hk) λr hr=>?_
  rw[List.take_length] at hr
  subst hr
  refine Ok.c (okR8WITH _ _ _ (by omega)) λr hr=>?_
  subst hr
  have hw:=wired_ok h key
  refine Ok.c (okR8RIGHT _ (show D9 (E4 p key) from hw)) λr hr=>?_
  subst hr
  exact Ok.f rfl (Ok.d rfl)
theorem tab_ok:tabS (E6.mk startK U2):=⟨by show startK=l8 vS;kernel_rfl,rfl⟩
theorem okRWIRE(p:SProbe){key:za}(hk:key.size<=4096):SOk (s21 p key) (λr=>r=L8 p key):=by
 unfold s21
 refine SOk.fn ?_
 unfold g21 L8
 refine Ok.c (okRPROBE p) λr hr=>?_
 subst hr
 by_cases hv:vB p=true
 ·rw[if_pos hv,hv]
  have h:=vB_facts hv
  refine Ok.f rfl (Ok.c okRCONSTS λr hr=>?_)
  subst hr
  refine Ok.c (okRMSG h) λr hr=>?_
  subst hr
  refine Ok.c (okR8PROT _ tab_ok h hk) λr hr=>?_
  subst hr
  exact Ok.f rfl (Ok.c (okR8ENC _ (wired_ok h key)) λr hr=>Ok.d (by rw[hr];rfl))
 ·rw[if_neg hv]
  have:vB p=false:=by simpa using hv
  rw[this]
  exact Ok.t rfl (Ok.d rfl)
def rmS(id v:za):Z4:=((s136 id v).o.getD (a0,5)).1
theorem rmS_ok{id v:za}(h:id.size=12)(hv:v.size<=1000):SOk (s136 id v) (λr=>r.1=rmS id v):=by
 obtain⟨r,h1,_⟩:=okSRMIX id h v hv
 refine⟨r,h1,?_⟩
 grind [rmS]
theorem rmS_mix{id:za}(h:id.size=12){a:Z4}(ha:P9 a):rmS id (mixA id a)=a:=by
 have hz:=mixA_size h ha.1
 have hs:=ha.1
 obtain⟨r,h1,h2⟩:=okSRMIX id h (mixA id a) (by omega)
 unfold rmS
 grind
theorem foldl_take{α β:Type}(f:β->α->β)(b:β){l:List α}{k:Nat}{x:α}(h:l[k]?=some x):(l.take (k+1)).foldl f b=f ((l.take k).foldl f b) x:=by
 rw[List.take_add_one,h,List.foldl_append];rfl
abbrev PS:=Int×Int×Bool×Int×Bool×za×Int
def H1(id:za)(y:PS)(a:Q3):PS:=
 if a.fm=36/\a.fp.size=4 then (1,num (Z1 a.fp),y.2.2.1,y.2.2.2.1,y.q.1,y.q.2.1,y.q.2.2)
 else if (a.fm=32810\/a.fm=32809)/\a.fp.size=8 then (y.1,y.2.1,decide (a.fm=32810),num (Z1 (a.fp.extract 1 a.fp.size)),y.q.1,y.q.2.1,y.q.2.2)
 else if a.fm=37 then (y.1,y.2.1,y.2.2.1,y.2.2.2.1,true,y.q.2.1,y.q.2.2)
 else if a.fm=32 then (2,y.2.1,y.2.2.1,y.2.2.2.1,y.q.1,(rmS id a.fp).fc,(rmS id a.fp).fe)
 else y
theorem pr36{id:za}{y:PS}{a:Q3}(h:a.fm=36/\a.fp.size=4):H1 id y a=(1,num (Z1 a.fp),y.2.2.1,y.2.2.2.1,y.q.1,y.q.2.1,y.q.2.2):=if_pos h
theorem prRole{id:za}{y:PS}{a:Q3}(h:(a.fm=32810\/a.fm=32809)/\a.fp.size=8):H1 id y a=(y.1,y.2.1,decide (a.fm=32810),num (Z1 (a.fp.extract 1 a.fp.size)),y.q.1,y.q.2.1,y.q.2.2):=by
 simp_all [if_neg,if_pos,H1]
theorem pr37{id:za}{y:PS}{a:Q3}(h:a.fm=37):H1 id y a=(y.1,y.2.1,y.2.2.1,y.2.2.2.1,true,y.q.2.1,y.q.2.2):=by
 simp_all [if_neg,if_pos,H1]
theorem pr32{id:za}{y:PS}{a:Q3}(h:a.fm=32):H1 id y a=(2,y.2.1,y.2.2.1,y.2.2.2.1,y.q.1,(rmS id a.fp).fc,(rmS id a.fp).fe):=by
 simp_all [if_neg,if_pos,H1]
theorem pr8{id:za}{y:PS}{a:Q3}(h:a.fm=8):H1 id y a=y:=by
 simp_all [if_neg,H1]
def psWith(y:PS)(i:Int):Int×Int×Bool×Int×Bool×za×Int×Int:=(y.1,y.2.1,y.2.2.1,y.2.2.2.1,y.q.1,y.q.2.1,y.q.2.2,i)
def psProbe(y:PS)(id:Int):SProbe:=⟨y.1,id,y.2.1,y.2.2.1,y.2.2.2.1,y.q.1,⟨y.q.2.1,y.q.2.2⟩⟩
def nidS(id:za):Int:=num (Z1 (id.extract 5 id.size))
theorem okAPROBEG{c me:Int}{id:za}{l:List Q3}(hz:id.size=12)(hl:l.length<=100)(hv:∀a,a∈l->a.fp.size<=1000) :
  SOk (s62 ⟨c,me,id,l⟩) (λr=>r=psProbe (l.foldl (H1 id) (3,0,false,0,false,zb,0)) (nidS id)):=by
 unfold s62
 refine SOk.fn ?_
 refine Ok.k (by grind) ?_
 refine Ok.c (okANUM _ (by rw[ByteArray.size_extract,hz];decide)) λr hrr=>?_
 have hrr:r=nidS id:=hrr
 subst hrr
 refine Ok.b (R:=λe=>e=((l.foldl (H1 id) (3,0,false,0,false,zb,0)).1,nidS id,(l.foldl (H1 id) (3,0,false,0,false,zb,0)).2)) ?_ λe he=>Ok.d (by subst he;rfl)
 refine Ok.s l.length (by omega) (λk y=>y=psWith ((l.take k).foldl (H1 id) (3,0,false,0,false,zb,0)) (k:Int)) rfl (λk y hy hk=>?_) λy hy=>?_
 ·subst hy
  obtain⟨x,hx1,hx2⟩:=M5 (l:=l) (k:=k) hk
  rw[show (Sum.elim (λy=>y=psWith ((l.take (k+1)).foldl (H1 id) (3,0,false,0,false,zb,0)) ((k+1:Nat):Int)) (λe=>e=((l.foldl (H1 id) (3,0,false,0,false,zb,0)).1,nidS id,(l.foldl (H1 id) (3,0,false,0,false,zb,0)).2)))=(Sum.elim (λy=>y=psWith (H1 id ((l.take k).foldl (H1 id) (3,0,false,0,false,zb,0)) x) ((k+1:Nat):Int)) (λe=>e=((l.foldl (H1 id) (3,0,false,0,false,zb,0)).1,nidS id,(l.foldl (H1 id) (3,0,false,0,false,zb,0)).2))) by rw[foldl_take _ _ hx2]]
  have hvx:=hv x (zO hx2)
  generalize (l.take k).foldl (H1 id) (3,0,false,0,false,zb,0)=y
  refine Ok.t (by rw[U6];show decide ((k:Int) < (l.length:Int))=true;simp;omega) (Ok.r (x:=x) (by show decide (0<=(k:Int))=true;simp) hx1 ?_)
  have hw:=Y0 hk (by omega)
  refine Ok.n (R:=λc=>(c=true↔x.fm=36/\x.fp.size=4)) (Ok.e (λh=>Ok.d ?_) λh=>Ok.d ?_) λc1 h1=>Ok.e (λe1=>?_) λe1=>?_
  ·grind
  ·grind
  ·have e1:=h1.1 e1
   refine Ok.c (okANUM x.fp (by omega)) λq hq=>Ok.d ?_
   simp_all [if_pos,psWith,H1]
  ·have e1:¬(x.fm=36/\x.fp.size=4):=(by grind)
   refine Ok.n (R:=λc=>(c=true↔(x.fm=32810\/x.fm=32809)/\x.fp.size=8)) (Ok.e (λh=>Ok.d ?_) λh=>Ok.e (λh2=>Ok.d ?_) λh2=>Ok.d ?_) λc2 h2=>Ok.e (λe2=>?_) λe2=>?_
   ·grind
   ·grind
   ·grind
   ·have e2:=h2.1 e2
    refine Ok.k (by simp;omega) (Ok.c (okANUM (x.fp.extract 1 x.fp.size) (by rw[ByteArray.size_extract];omega)) λq hq=>Ok.d ?_)
    subst hq
    show _=psWith (H1 id y x) _
    unfold H1
    rw[if_neg e1,if_pos e2,<-hw];rfl
   ·have e2:¬((x.fm=32810\/x.fm=32809)/\x.fp.size=8):=(by grind)
    refine Ok.e (λe3=>Ok.d ?_) λe3=>Ok.e (λe4=>?_) λe4=>Ok.d ?_
    ·simp_all [if_neg,if_pos,psWith,H1]
    ·refine Ok.c (rmS_ok hz hvx) λq hq=>Ok.d ?_
     simp_all [if_neg,if_pos,rmS,psWith,H1]
    simp_all [if_neg,psWith,H1]
 ·subst hy
  refine Ok.f (by rw[U6];show decide ((l.length:Int) < (l.length:Int))=false;simp) (Ok.d ?_)
  rw[List.take_length];rfl
theorem fold_probeG{p:SProbe}(h:VP p)(v:za) :
  psProbe ((N0 p++[(⟨8,v⟩:Q3)]).foldl (H1 (idS p.fj)) (3,0,false,0,false,zb,0)) p.fj=p:=by
 obtain⟨K,I,P,C,T,U,S⟩:=p
 obtain⟨⟨i0,i1⟩,h⟩:=h
 simp only at i0 i1
 rcases h with⟨hk,⟨p0,p1⟩,⟨t0,t1⟩,hu,hs⟩|⟨hk,hs,h1,h2,h3,h4⟩|⟨hk,hs,h1,h2,h3,h4⟩
 ·simp only at hk p0 p1 t0 t1 hu hs
  subst hk;subst hs
  have z1:(strOfNums (beN 4 P)).size=4:=by rw[H4,J9]
  have z2:(strOfNums (beN 1 0)++strOfNums (beN 7 T)).size=8:=by grind [ByteArray.size_append,H4,J9]
  have n1:num (Z1 (strOfNums (beN 4 P)))=P:=by rw[A1 (beN_byte 4 P),num_beN 4 P (by omega) (by rw[show (256:Int) ^ 4=4294967296 by decide];omega)]
  have n2:num (Z1 ((strOfNums (beN 1 0)++strOfNums (beN 7 T)).extract 1 8))=T:=by
   rw[show (strOfNums (beN 1 0)++strOfNums (beN 7 T)).extract 1 8=strOfNums (beN 7 T) from P6 (a:=strOfNums (beN 1 0)) (c:=zb) (by simp_all) (by rw[H4,J9]) (by rw[H4,J9]),A1 (beN_byte 7 T),num_beN 7 T (by omega) (by rw[show (256:Int) ^ 7=72057594037927936 by decide];omega)]
  have key:∀y:PS,H1 (idS I) y ⟨36,strOfNums (beN 4 P)⟩=(1,P,y.2.2.1,y.2.2.2.1,y.q.1,y.q.2.1,y.q.2.2):=λy=>by
   rw[pr36 (a:=⟨36,strOfNums (beN 4 P)⟩) ⟨rfl,z1⟩]
   show (1,num (Z1 (strOfNums (beN 4 P))),_)=_
   rw[n1]
  have key2:∀y:PS,H1 (idS I) y (roleA ⟨1,I,P,C,T,U,a0⟩)=(y.1,y.2.1,C,T,y.q.1,y.q.2.1,y.q.2.2):=(by grind [prRole,roleA,a0,decide,num,Z1,strOfNums,beN])
  have key3:∀y:PS,H1 (idS I) y ⟨37,zb⟩=(y.1,y.2.1,y.2.2.1,y.2.2.2.1,true,y.q.2.1,y.q.2.2):=λy=>pr37 rfl
  have key4:∀y:PS,H1 (idS I) y ⟨8,v⟩=y:=λy=>pr8 rfl
  show psProbe ((askA ⟨1,I,P,C,T,U,a0⟩++[(⟨8,v⟩:Q3)]).foldl (H1 (idS I)) (3,0,false,0,false,zb,0)) I=_
  unfold askA
  cases U with
  | true=>simp only[if_true,List.cons_append,List.nil_append,List.foldl_cons,List.foldl_nil,key,key2,key3,key4];rfl
  | false=>simp only[Bool.false_eq_true,if_false,wE,List.cons_append,List.nil_append,List.foldl_cons,List.foldl_nil,key,key2,key4];rfl
 ·simp only at hk h1 h2 h3 h4 hs
  subst hk;subst h1;subst h2;subst h3;subst h4
  have hrm:=rmS_mix (idS_size I) (usable_ok hs)
  have key:∀y:PS,H1 (idS I) y ⟨32,mixA (idS I) S⟩=(2,y.2.1,y.2.2.1,y.2.2.2.1,y.q.1,S.fc,S.fe):=λy=>by
   rw[pr32 rfl]
   show (2,_,_,_,_,(rmS (idS I) (mixA (idS I) S)).fc,(rmS (idS I) (mixA (idS I) S)).fe)=_
   rw[hrm]
  have key4:∀y:PS,H1 (idS I) y ⟨8,v⟩=y:=λy=>pr8 rfl
  show psProbe (([(⟨32,mixA (idS I) S⟩:Q3)]++[(⟨8,v⟩:Q3)]).foldl (H1 (idS I)) (3,0,false,0,false,zb,0)) I=_
  simp only[List.cons_append,List.nil_append,List.foldl_cons,List.foldl_nil,key,key4]
  rfl
 ·simp only at hk h1 h2 h3 h4 hs
  subst hk;subst h1;subst h2;subst h3;subst h4;subst hs
  have key:∀y:PS,H1 (idS I) y ⟨9,reasonS⟩=y:=λy=>by
   simp_all [if_neg,H1]
  have key4:∀y:PS,H1 (idS I) y ⟨8,v⟩=y:=λy=>pr8 rfl
  show psProbe (([(⟨9,reasonS⟩:Q3)]++[(⟨8,v⟩:Q3)]).foldl (H1 (idS I)) (3,0,false,0,false,zb,0)) I=_
  simp only[List.cons_append,List.nil_append,List.foldl_cons,List.foldl_nil,key,key4]
  rfl
def prS(m:Z8):SProbe:=psProbe (m.fo.foldl (H1 m.fj) (3,0,false,0,false,zb,0)) (nidS m.fj)
def pz:SProbe:=⟨0,0,0,false,0,false,⟨zb,0⟩⟩
theorem nid_idS{n:Int}(h0:0<=n)(h:n < 72057594037927936):nidS (idS n)=n:=by
 have hz:=idS_size n
 have hx:(idS n).extract 5 (idS n).size=strOfNums (beN 7 n):=by
  refine P6 (a:=strOfNums (beN 5 0)) (c:=zb) (by rw[ByteArray.append_empty];rfl) (by rw[H4,J9]) (by rw[H4,J9,hz])
 unfold nidS
 rw[hx,A1 (beN_byte 7 n),num_beN 7 n h0 (by rw[show (256:Int) ^ 7=72057594037927936 by decide];exact h)]
theorem prS_wired{p:SProbe}(h:VP p)(key:za):prS (E4 p key)=p:=by
 have hn:=nid_idS h.1.1 (by have:=h.1.2;omega)
 show psProbe ((N0 p++[(⟨8,macF key (D1 (W7 (clsP p) 1) 36 (idS p.fj) (N0 p))⟩:Q3)]).foldl (H1 (idS p.fj)) (3,0,false,0,false,zb,0)) (nidS (idS p.fj))=p
 grind [fold_probeG]
theorem wire_one{s key:za}{m:Z8}{q:SProbe}(hs:s.size<=120)(hm:D9 m)(h:encM m=s)(hw:L8 q key=(s,0)):VP q/\E4 q key=m:=by
 unfold L8 at hw
 split at hw
 ·rename_i hv
  have hq:=vB_facts hv
  have hws:encM (E4 q key)=s:=(Prod.mk.inj hw).1
  grind [enc_inj,wired_ok]
 grind
def unwR(s key:za)(d:Z8×Int):SProbe×Int:=
 if d.2=0 then (if verS d.1 key=0 then (if L8 (prS d.1) key=(s,0) then (prS d.1,0) else (pz,5)) else (pz,verS d.1 key)) else (pz,d.2)
theorem DecR_ok{s:za}{d:Z8×Int}(h:DecR s d)(h0:d.2=0):D9 d.1/\encM d.1=s:=by
 unfold DecR at h
 grind
theorem okAPROBES{m:Z8}(hm:D9 m):SOk (s62 m) (λx=>x=prS m):=by
 obtain⟨c,me,id,l⟩:=m
 exact okAPROBEG (c:=c) (me:=me) hm.2.2.1 (by have:=hm.2.2.2.1;grind) λa ha=>by have:=(hm.q.1 a ha).2;omega
attribute [local irreducible] L8 prS verS in
theorem okAUNWIREG{s key:za}{d:Z8×Int}(hd:decM s=some d)(hR:DecR s d)(hk:key.size<=4096):SOk (s20 s key) (λr=>r=unwR s key d):=by
 unfold s20
 refine SOk.fn ?_
 unfold g20 unwR
 have hd2:(s60_3 s).o=some d:=hd
 refine Ok.c (SOk.o hd2) λr hr=>?_
 subst hr
 by_cases h0:r.2=0
 ·obtain⟨hm,he⟩:=DecR_ok hR h0
  rw[if_pos h0]
  refine Ok.b (R:=λe=>e=verS r.1 key) (by grind [Ok.t,Ok.c,okSVERG,Ok.d]) λe he2=>?_
  subst he2
  by_cases hv:verS r.1 key=0
  ·rw[if_pos hv,hv]
   refine Ok.f rfl (Ok.c (okAPROBES hm) λq hq=>?_)
   subst hq
   refine Ok.c (okAWIREG _ hk) λw hw=>?_
   subst hw
   refine Ok.n (R:=λc=>c=!decide (L8 (prS r.1) key=(s,0))) (Ok.e (λh1=>Ok.d ?_) λh1=>Ok.d ?_) λc hc=>?_
   ·grind
   ·grind
   ·subst hc
    refine Ok.e (λh1=>Ok.d ?_) λh1=>Ok.d ?_
    ·rw[if_neg (by simpa using h1)];rfl
    grind
  ·rw[if_neg hv]
   exact Ok.t (by simpa using hv) (Ok.d rfl)
 ·rw[if_neg h0]
  refine Ok.b (R:=λe=>e=r.2) (Ok.f (beq_false_of_ne h0) (Ok.d rfl)) λe he2=>?_
  subst he2
  exact Ok.t (by simpa using h0) (Ok.d rfl)
def numA:Option Q3->Int
 | some x=>if x.fp.size<=8 then num (Z1 (x.fp.extract (x.fp.size - 7) x.fp.size)) else 0
 | none=>0
theorem numA_some{x:Q3}(h:x.fp.size<=8):numA (some x)=num (Z1 (x.fp.extract (x.fp.size - 7) x.fp.size)):=if_pos h
def valS(m:Z8)(k:Int):Int:=if M2 k m.fo < 0 then 0 else numA m.fo[(M2 k m.fo).toNat]?
theorem okRVAL(m:Z8)(k:Int)(hl:m.fo.length<=1000)(hv:∀a,a∈m.fo->a.fp.size<=1000):SOk (s73 m k) (λr=>r=valS m k):=by
 unfold s73
 refine SOk.fn ?_
 unfold g73 valS
 refine Ok.c (F9 m k hl) λr hr=>?_
 subst hr
 by_cases hf:M2 k m.fo < 0
 ·rw[if_pos hf]
  refine Ok.n (R:=λc=>c=false) (Ok.f (by grind) (Ok.d rfl)) λc hc=>?_
  subst hc
  exact Ok.f rfl (Ok.d rfl)
 ·rw[if_neg hf]
  obtain⟨i,x,hi,hx,hxk,hil⟩:=firstK_at hf
  have hvx:=hv x (zO hx)
  rw[hi]
  simp only[zN]
  rw[hx]
  refine Ok.n (R:=λc=>c=decide (x.fp.size<=8)) (Ok.t (by simp) (Ok.r (by simp) hx (Ok.d ?_))) λc hc=>?_
  ·grind
  ·subst hc
   refine Ok.e (λh8=>?_) λh8=>Ok.d ?_
   ·have h8:x.fp.size<=8:=of_decide_eq_true h8
    have e7:Q7 ((x.fp.size:Int) - 7)=(x.fp.size:Int) - 7:=Z9 (by omega) (by omega)
    have em:(if ((x.fp.size:Int) - 7) > (0:Int) then ((x.fp.size:Int) - 7) else (0:Int))=((x.fp.size - 7:Nat):Int):=by grind
    refine Ok.r (by simp) hx ?_
    rw[e7,em,zN]
    refine Ok.k (by simp) (Ok.c (okR1NUM _ (by rw[ByteArray.size_extract];omega)) λr hr=>Ok.d ?_)
    subst hr
    show _=ite _ _ _
    rw[if_pos h8]
   ·have h8:¬x.fp.size<=8:=of_decide_eq_false h8
    show 0=ite _ _ _
    rw[if_neg h8]
def rm2(id v:za):Z4:=((s72 id v).o.getD (a0,false)).1
theorem rm2_ok{id v:za}(h:id.size=12)(hv:v.size<=1000):SOk (s72 id v) (λr=>r.1=rm2 id v):=by
 obtain⟨r,h1,_⟩:=okR8RMIX id h v hv
 refine⟨r,h1,?_⟩
 grind [rm2]
theorem rm2_mix{id:za}(h:id.size=12){a:Z4}(ha:P9 a):rm2 id (mixA id a)=a:=by
 have hz:=mixA_size h ha.1
 have hs:=ha.1
 obtain⟨r,h1,h2⟩:=okR8RMIX id h (mixA id a) (by omega)
 unfold rm2
 grind
def seenA(id:za):Option Q3->Z4
 | some x=>rm2 id x.fp
 | none=>a0
def seenS(m:Z8):Z4:=if M2 32 m.fo < 0 then a0 else seenA m.fj m.fo[(M2 32 m.fo).toNat]?
def actS(m:Z8):Bool:=decide (0<=M2 32810 m.fo)
def c1S(m:Z8):SProbe:=⟨1,nidS m.fj,valS m 36,actS m,bif actS m then valS m 32810 else valS m 32809,decide (0<=M2 37 m.fo),a0⟩
def c2S(m:Z8):SProbe:=⟨2,nidS m.fj,0,false,0,false,seenS m⟩
def c3S(m:Z8):SProbe:=⟨3,nidS m.fj,0,false,0,false,a0⟩
theorem cands_wired{p:SProbe}(h:VP p)(key:za):(p.fm=1->c1S (E4 p key)=p)/\(p.fm=2->c2S (E4 p key)=p)/\(p.fm=3->c3S (E4 p key)=p):=by
 have hn:=nid_idS h.1.1 (by have:=h.1.2;omega)
 obtain⟨K,I,P,C,T,U,S⟩:=p
 simp only at hn
 obtain⟨⟨i0,i1⟩,h⟩:=h
 refine⟨λhk=>?_,λhk=>?_,λhk=>?_⟩
 ·have hk:K=1:=hk
  subst hk
  rcases h with⟨_,⟨p0,p1⟩,⟨t0,t1⟩,hu,hs⟩|⟨hk,_⟩|⟨hk,_⟩
  rotate_left
  ·grind
  ·grind
  simp only at p0 p1 t0 t1 hs
  subst hs
  have z1:(strOfNums (beN 4 P)).size=4:=by rw[H4,J9]
  have z2:(strOfNums (beN 1 0)++strOfNums (beN 7 T)).size=8:=by grind [ByteArray.size_append,H4,J9]
  have n1:num (Z1 ((strOfNums (beN 4 P)).extract 0 4))=P:=by rw[ext_whole z1.symm,A1 (beN_byte 4 P),num_beN 4 P (by omega) (by rw[show (256:Int) ^ 4=4294967296 by decide];omega)]
  have n2:num (Z1 ((strOfNums (beN 1 0)++strOfNums (beN 7 T)).extract 1 8))=T:=by
   rw[show (strOfNums (beN 1 0)++strOfNums (beN 7 T)).extract 1 8=strOfNums (beN 7 T) from P6 (a:=strOfNums (beN 1 0)) (c:=zb) (by simp_all) (by rw[H4,J9]) (by rw[H4,J9]),A1 (beN_byte 7 T),num_beN 7 T (by omega) (by rw[show (256:Int) ^ 7=72057594037927936 by decide];omega)]
  have v1:numA (some ⟨36,strOfNums (beN 4 P)⟩)=P:=by
   grind [numA_some,strOfNums,beN,num,Z1]
  have v2:∀k,numA (some ⟨k,strOfNums (beN 1 0)++strOfNums (beN 7 T)⟩)=T:=(by grind [numA_some,strOfNums,beN,num,Z1])
  have hid:nidS (E4 ⟨1,I,P,C,T,U,a0⟩ key).fj=I:=hn
  unfold c1S
  rw[hid]
  cases C<;>cases U
  ·have q1:valS (E4 ⟨1,I,P,false,T,false,a0⟩ key) 36=numA (some ⟨36,strOfNums (beN 4 P)⟩):=by kernel_rfl
   have q2:actS (E4 ⟨1,I,P,false,T,false,a0⟩ key)=false:=by kernel_rfl
   have q3:valS (E4 ⟨1,I,P,false,T,false,a0⟩ key) 32809=numA (some ⟨32809,strOfNums (beN 1 0)++strOfNums (beN 7 T)⟩):=by kernel_rfl
   have q4:decide (0<=M2 37 (E4 ⟨1,I,P,false,T,false,a0⟩ key).fo)=false:=by kernel_rfl
   grind
  ·grind
  ·have q1:valS (E4 ⟨1,I,P,true,T,false,a0⟩ key) 36=numA (some ⟨36,strOfNums (beN 4 P)⟩):=by kernel_rfl
   have q2:actS (E4 ⟨1,I,P,true,T,false,a0⟩ key)=true:=by kernel_rfl
   have q3:valS (E4 ⟨1,I,P,true,T,false,a0⟩ key) 32810=numA (some ⟨32810,strOfNums (beN 1 0)++strOfNums (beN 7 T)⟩):=by kernel_rfl
   have q4:decide (0<=M2 37 (E4 ⟨1,I,P,true,T,false,a0⟩ key).fo)=false:=by kernel_rfl
   grind
  ·have q1:valS (E4 ⟨1,I,P,true,T,true,a0⟩ key) 36=numA (some ⟨36,strOfNums (beN 4 P)⟩):=by kernel_rfl
   have q2:actS (E4 ⟨1,I,P,true,T,true,a0⟩ key)=true:=by kernel_rfl
   have q3:valS (E4 ⟨1,I,P,true,T,true,a0⟩ key) 32810=numA (some ⟨32810,strOfNums (beN 1 0)++strOfNums (beN 7 T)⟩):=by kernel_rfl
   have q4:decide (0<=M2 37 (E4 ⟨1,I,P,true,T,true,a0⟩ key).fo)=true:=by kernel_rfl
   grind
 ·have hk:K=2:=hk
  subst hk
  rcases h with⟨hk,_⟩|⟨_,hs,h1,h2,h3,h4⟩|⟨hk,_⟩
  ·grind
  rotate_left
  ·exact absurd (show (2:Int)=3 from hk) (by decide)
  simp only at h1 h2 h3 h4 hs
  subst h1;subst h2;subst h3;subst h4
  have hid:nidS (E4 ⟨2,I,0,false,0,false,S⟩ key).fj=I:=hn
  have hse:seenS (E4 ⟨2,I,0,false,0,false,S⟩ key)=rm2 (idS I) (mixA (idS I) S):=by kernel_rfl
  unfold c2S
  rw[hid,hse,rm2_mix (idS_size I) (usable_ok hs)]
 ·have hk:K=3:=hk
  subst hk
  rcases h with⟨hk,_⟩|⟨hk,_⟩|⟨_,hs,h1,h2,h3,h4⟩
  ·exact absurd (show (3:Int)=1 from hk) (by decide)
  ·exact absurd (show (3:Int)=2 from hk) (by decide)
  simp only at h1 h2 h3 h4 hs
  subst h1;subst h2;subst h3;subst h4;subst hs
  have hid:nidS (E4 ⟨3,I,0,false,0,false,a0⟩ key).fj=I:=hn
  unfold c3S
  rw[hid]
theorem three_one{s key:za}{m:Z8}(hs:s.size<=120)(hm:D9 m)(h:encM m=s):(∀q,L8 q key=(s,0)->q=prS m)/\(L8 (prS m) key=(s,0)->prS m=c1S m\/prS m=c2S m\/prS m=c3S m):=by
 refine⟨λq hq=>?_,λhq=>?_⟩
 ·obtain⟨h1,rfl⟩:=wire_one hs hm h hq
  grind [prS_wired]
 ·obtain⟨h1,h2⟩:=wire_one hs hm h hq
  obtain⟨k1,k2,k3⟩:=cands_wired h1 key
  rw[h2] at k1 k2 k3
  rcases h1.2 with⟨hk,_⟩|⟨hk,_⟩|⟨hk,_⟩
  ·grind
  ·grind
  grind
theorem hit_eq{w:za×Int}{s:za}:(w.2=0/\w.1=s)↔w=(s,0):=by
 obtain⟨a,b⟩:=w
 simp
 exact⟨λh=>⟨h.2,h.1⟩,λh=>⟨h.2,h.1⟩⟩
theorem okHIT{ρ:Type}{Q:ρ->Prop}{s:za}{w:za×Int}{a b d:Nat}{L:List Nat}{f:Bool->List V}{k1 k2:TT ρ}(h1:w=(s,0)->Ok k1 Q)(h2:w≠(s,0)->Ok k2 Q) :
  Ok (.cnd a L (.br b (w.2==0) (.done (decide (w.1=s))) (.done false)) f λc=>.br d c k1 k2) Q:=by
 refine Ok.n (R:=λc=>(c=true↔w=(s,0))) (Ok.e (λh=>Ok.d ?_) λh=>Ok.d ?_) λc hc=>Ok.e (λh=>h1 (hc.1 h)) λh=>h2 λq=>by rw[hc.2 q] at h;cases h
 ·have h:=eq_of_beq h
  rw[zG,<-hit_eq]
  exact⟨λq=>⟨h,q⟩,λq=>q.2⟩
 ·have h:w.2≠0:=by simpa using h
  rw[<-hit_eq]
  exact⟨λq=>(by cases q),λq=>absurd q.1 h⟩
attribute [local irreducible] L8 prS verS valS seenS nidS in
theorem okRUNWIRE{s key:za}{d:Z8×Int}(hs:s.size<=120)(hd:SOk (s68 s) (λr=>r=d))(hR:DecR s d)(hk:key.size<=4096):SOk (s23 s key) (λr=>r=unwR s key d):=by
 unfold s23
 refine SOk.fn ?_
 unfold g23 unwR
 refine Ok.c hd λr hr=>?_
 subst hr
 by_cases h0:r.2=0
 ·obtain⟨hm,he⟩:=DecR_ok hR h0
  obtain⟨t1,t2⟩:=three_one (key:=key) hs hm he
  rw[if_pos h0]
  refine Ok.f (by rw[h0];rfl) (Ok.c okRCONSTS λt ht=>?_)
  subst ht
  refine Ok.c (okR8VER _ tab_ok hm hk) λv hv=>?_
  subst hv
  by_cases hv:verS r.1 key=0
  ·rw[if_pos hv]
   have hz:r.1.fj.size=12:=hm.2.2.1
   have hl:r.1.fo.length<=30:=hm.2.2.2.1
   have hvs:∀a,a∈r.1.fo->a.fp.size<=1000:=λa ha=>by have:=(hm.q.1 a ha).2;omega
   refine Ok.f (by rw[hv];rfl) (Ok.k (by rw[hz];rfl) (Ok.c (R:=λn=>n=nidS r.1.fj) ?_ λn hn=>?_))
   ·exact(okR1NUM _ (by rw[ByteArray.size_extract,hz];decide)).mono λx hx=>by rw[hx];unfold nidS;rfl
   subst hn
   refine Ok.c (F9 r.1 32 (by omega)) λf hf=>?_
   subst hf
   refine Ok.b (R:=λe=>(⟨e.1,e.2⟩:Z4)=seenS r.1) ?_ λe he2=>?_
   ·by_cases hq:M2 32 r.1.fo < 0
    ·refine Ok.f (wR (by omega)) (Ok.d ?_)
     unfold seenS
     rw[if_pos hq];rfl
    ·obtain⟨i,x,hi,hx,hxk,hil⟩:=firstK_at hq
     have hsee:seenS r.1=rm2 r.1.fj x.fp:=by
      unfold seenS
      rw[if_neg hq,hi,zN,hx];rfl
     refine Ok.t (ww (by omega)) (Ok.r (x:=x) (by rw[hi];simp) (by rw[hi,zN];exact hx) (Ok.c (rm2_ok hz (hvs x (zO hx))) λq hq2=>Ok.d ?_))
     rw[hsee,<-hq2]
   refine Ok.c (F9 r.1 32810 (by omega)) λf hf=>?_
   subst hf
   refine Ok.c (okRVAL r.1 32809 (by omega) hvs) λv9 hv9=>?_
   subst hv9
   refine Ok.b (R:=λe=>e=bif actS r.1 then valS r.1 32810 else valS r.1 32809) (Ok.e (λha=>Ok.c (okRVAL r.1 32810 (by omega) hvs) λv hv=>Ok.d ?_) λha=>Ok.d ?_) λe2 he3=>?_
   ·rw[hv,show actS r.1=true from ha,cond_true]
   ·rw[show actS r.1=false from ha,cond_false]
   subst he3
   refine Ok.c (okRVAL r.1 36 (by omega) hvs) λv hv=>?_
   subst hv
   refine Ok.c (F9 r.1 37 (by omega)) λf hf=>?_
   subst hf
   have e1:(SProbe.mk 1 (nidS r.1.fj) (valS r.1 36) (decide ((0:Int)<=M2 32810 r.1.fo)) (bif actS r.1 then valS r.1 32810 else valS r.1 32809) (decide ((0:Int)<=M2 37 r.1.fo)) (Z4.mk zb 0))=c1S r.1:=rfl
   have e2:(SProbe.mk 2 (nidS r.1.fj) 0 false 0 false (Z4.mk e.1 e.2))=c2S r.1:=by rw[he2];rfl
   have e3:(SProbe.mk 3 (nidS r.1.fj) 0 false 0 false (Z4.mk zb 0))=c3S r.1:=rfl
   rw[e1,e2,e3]
   have yes:∀q,L8 q key=(s,0)->(q,(0:Int))=(if L8 (prS r.1) key=(s,0) then (prS r.1,0) else (pz,5)):=λq hq=>by
    have:=t1 q hq
    subst this
    rw[if_pos hq]
   refine Ok.tt (Ok.c (okRWIRE _ hk) λw hw=>?_)
   subst hw
   refine okHIT (λhq=>Ok.d (yes _ hq)) λn1=>Ok.tt (Ok.g (Ok.c (okRWIRE _ hk) λw hw=>?_))
   subst hw
   refine okHIT (λhq=>Ok.d (yes _ hq)) λn2=>Ok.tt (Ok.g (Ok.c (okRWIRE _ hk) λw hw=>?_))
   subst hw
   refine okHIT (λhq=>Ok.d (yes _ hq)) λn3=>Ok.ff (Ok.d ?_)
   rw[if_neg]
   ·rfl
   ·intro hq
    rcases t2 hq with h|h|h
    ·rw[h] at hq;exact n1 hq
    ·rw[h] at hq;exact n2 hq
    ·rw[h] at hq;exact n3 hq
  ·rw[if_neg hv]
   exact Ok.t (by simpa using hv) (Ok.d rfl)
 ·rw[if_neg h0]
  exact Ok.t (by simpa using h0) (Ok.d rfl)
theorem N8(s key:za)(hs:s.size<=120)(hk:key.size<=4096):∃r,SOk (s20 s key) (λx=>x=r)/\SOk (s23 s key) (λx=>x=r):=by
 obtain⟨d,h1,h2,h3⟩:=dec_same s hs
 exact⟨unwR s key d,okAUNWIREG h1 h2 hk,okRUNWIRE hs h3 h2 hk⟩
def EditOk(x:SEdit):Prop:=(0<=x.fF/\x.fF<=255)/\(0<=x.gk/\x.gk<=255)
theorem okEDIT{x:SEdit}(h:EditOk x)(t:za)(ht:t.size<=80):SOk (s22 x t) (λr=>r.size<=100):=by
 obtain⟨⟨a0,a1⟩,l0,l1⟩:=h
 unfold s22
 refine SOk.fn ?_
 unfold g22
 have e1:Q7 x.fF=x.fF:=Z9 (by omega) (by omega)
 have e2:Q7 x.gk=x.gk:=Z9 (by omega) (by omega)
 rw[e1,e2]
 obtain⟨i,hi,hi2⟩:∃i:Nat,(if (t.size:Int) < x.fF then (t.size:Int) else x.fF)=(i:Int)/\i<=t.size:=by
  split
  ·exact⟨t.size,rfl,zD _⟩
  ·exact⟨x.fF.toNat,by omega,by omega⟩
 rw[hi]
 have e3:Q7 ((i:Int)+x.gk)=(i:Int)+x.gk:=Z9 (by omega) (by omega)
 rw[e3]
 obtain⟨j,hj,hj2,hj3⟩:∃j:Nat,(if (t.size:Int) < (i:Int)+x.gk then (t.size:Int) else (i:Int)+x.gk)=(j:Int)/\j<=t.size/\i<=j:=by
  split
  ·exact⟨t.size,rfl,zD _,hi2⟩
  ·exact⟨i+x.gk.toNat,by omega,by omega,by omega⟩
 rw[hj]
 obtain⟨k,hk,hk2,hk3⟩:∃k:Nat,(if (20:Int) < (x.gj.size:Int) then (20:Int) else (x.gj.size:Int))=(k:Int)/\k<=20/\k<=x.gj.size:=by
  split
  ·exact⟨20,rfl,by omega,by omega⟩
  ·exact⟨x.gj.size,rfl,by omega,by omega⟩
 rw[hk]
 simp only[zN]
 have z1:(t.extract 0 i).size=i:=by rw[ByteArray.size_extract];omega
 have z2:(x.gj.extract 0 k).size=k:=by rw[ByteArray.size_extract];omega
 have z3:(t.extract j t.size).size=t.size - j:=by rw[ByteArray.size_extract];omega
 refine Ok.k (by simp;omega) (Ok.k (by simp;omega) (Ok.k (by rw[zG,z1,z2];omega) (Ok.k (by simp;omega) (Ok.k (by rw[zG,ByteArray.size_append,z1,z2,z3];omega) (Ok.d ?_)))))
 rw[ByteArray.size_append,ByteArray.size_append,z1,z2,z3]
 omega
theorem S6(p:SProbe):((p.fm==p.fm)&&((p.fj==p.fj)&&((p.fA==p.fA)&&((p.fq==p.fq)&&((p.fw==p.fw)&&((p.fE==p.fE)&&((decide (p.ft.fc=p.ft.fc))&&((p.ft.fe==p.ft.fe)&&true))))))))=true:=by simp
theorem cut_nat(n m:Nat):∃k:Nat,(if (n:Int) < (m:Int) then (n:Int) else (m:Int))=(k:Int)/\k<=n/\k<=m:=by
 split
 ·exact⟨n,rfl,zD _,by omega⟩
 ·exact⟨m,rfl,by omega,zD _⟩
theorem wire_small(p:SProbe)(K:za):(L8 p K).1.size<=80:=by
 unfold L8
 split
 ·rename_i h
  exact wireS_size (vB_facts h) K
 ·decide
attribute [local irreducible] L8 in
theorem okLWIRES{F:J7->Prop}(p:SProbe)(d:SDraft1)(l:SEvent)(key:za)(x:SEdit)(raw:za)(hx:EditOk x)(hw:SOk s8 (λr=>r=true))(hf:SOk (s18 d) F)(hh:∀a,F a->SOk (s16 l a) (λ_=>True)) :
  SOk (s6 p d l key x raw) (λr=>r=true):=by
 unfold s6
 refine SOk.fn ?_
 unfold g6
 obtain⟨k,hk,hk1,hk2⟩:=cut_nat 40 key.size
 obtain⟨n,hn,hn1,hn2⟩:=cut_nat 100 raw.size
 have hk:(if (40:Int) < (key.size:Int) then (40:Int) else (key.size:Int))=(k:Int):=hk
 have hn:(if (100:Int) < (raw.size:Int) then (100:Int) else (raw.size:Int))=(n:Int):=hn
 simp only[hk,hn,zN]
 have hK:(key.extract 0 k).size<=4096:=by rw[ByteArray.size_extract];omega
 have hU:(raw.extract 0 n).size<=100:=by rw[ByteArray.size_extract];omega
 have hraw:(decide (0<=(n:Int))&&decide ((n:Int)<=(raw.size:Int)))=true:=by simp;omega
 generalize raw.extract 0 n=U at hU ⊢
 have hkey:(decide (0<=(k:Int))&&decide ((k:Int)<=(key.size:Int)))=true:=by simp;omega
 refine Ok.c hw λr hr=>?_
 subst hr
 refine Ok.f rfl (Ok.k hkey ?_)
 generalize key.extract 0 k=K at hK ⊢
 refine Ok.c hf λa ha=>Ok.c (hh a ha) λo _=>?_
 have hws:=wire_small p K
 refine Ok.tt (Ok.c (okAWIREG p hK) λw hw=>Ok.c (okRWIRE p hK) λw2 hw2=>?_)
 rw[hw,hw2]
 refine Ok.n (R:=λc=>c=false) (Ok.f (bne_self_eq_false _) (Ok.d (by simp))) λc hc=>?_
 subst hc
 refine Ok.f rfl (Ok.c (okEDIT hx (L8 p K).1 hws) λu hu=>Ok.k hraw ?_)
 obtain⟨r,ha,hb⟩:=N8 (L8 p K).1 K (by omega) hK
 refine Ok.tt (Ok.c ha λa h1=>Ok.c hb λb h2=>?_)
 rw[h1,h2]
 refine Ok.n (R:=λc=>c=false) (Ok.f (bne_self_eq_false r.2) (Ok.d (by rw[S6];rfl))) λc hc=>?_
 subst hc
 refine Ok.f rfl ?_
 obtain⟨r,ha,hb⟩:=N8 u K (by omega) hK
 refine Ok.tt (Ok.g (Ok.c ha λa h1=>Ok.g (Ok.c hb λb h2=>?_)))
 rw[h1,h2]
 refine Ok.n (R:=λc=>c=false) (Ok.f (bne_self_eq_false r.2) (Ok.d (by rw[S6];rfl))) λc hc=>?_
 subst hc
 refine Ok.f rfl ?_
 obtain⟨r,ha,hb⟩:=N8 U K (by omega) hK
 refine Ok.tt (Ok.g (Ok.c ha λa h1=>Ok.g (Ok.c hb λb h2=>?_)))
 rw[h1,h2]
 refine Ok.n (R:=λc=>c=false) (Ok.f (bne_self_eq_false r.2) (Ok.d (by rw[S6];rfl))) λc hc=>?_
 subst hc
 refine Ok.f rfl ?_
 have hws:=wire_small o.fy K
 refine Ok.ff (Ok.tt (Ok.g (Ok.c (okAWIREG o.fy hK) λw hw=>Ok.c (okRWIRE o.fy hK) λw2 hw2=>?_)))
 rw[hw,hw2]
 refine Ok.n (R:=λc=>c=false) (Ok.f (bne_self_eq_false _) (Ok.d (by simp))) λc hc=>?_
 subst hc
 refine Ok.f rfl (Ok.c (okEDIT hx (L8 o.fy K).1 hws) λu hu=>Ok.k hraw ?_)
 obtain⟨r,ha,hb⟩:=N8 (L8 o.fy K).1 K (by omega) hK
 refine Ok.tt (Ok.g (Ok.c ha λa h1=>Ok.g (Ok.c hb λb h2=>?_)))
 rw[h1,h2]
 refine Ok.n (R:=λc=>c=false) (Ok.f (bne_self_eq_false r.2) (Ok.d (by rw[S6];rfl))) λc hc=>?_
 subst hc
 refine Ok.f rfl ?_
 obtain⟨r,ha,hb⟩:=N8 u K (by omega) hK
 refine Ok.tt (Ok.g (Ok.c ha λa h1=>Ok.g (Ok.c hb λb h2=>?_)))
 rw[h1,h2]
 refine Ok.n (R:=λc=>c=false) (Ok.f (bne_self_eq_false r.2) (Ok.d (by rw[S6];rfl))) λc hc=>?_
 subst hc
 refine Ok.f rfl ?_
 obtain⟨r,ha,hb⟩:=N8 U K (by omega) hK
 refine Ok.tt (Ok.g (Ok.c ha λa h1=>Ok.g (Ok.c hb λb h2=>?_)))
 rw[h1,h2]
 refine Ok.n (R:=λc=>c=false) (Ok.f (bne_self_eq_false r.2) (Ok.d (by rw[S6];rfl))) λc hc=>?_
 subst hc
 refine Ok.f rfl ?_
 exact Ok.ff (Ok.ff (Ok.d rfl))
theorem okPLACE(p:Int):SOk (s45 p) (λr=>r.fc.size<=16):=by
 show Ok (g45 p) _
 grind [Ok.e,Ok.d,strOfNums_size,List.length_cons,List.length_nil,g45]
theorem okITOA(n:Int)(h:1<=n/\n<=4):SOk (s218 n) (λr=>r.size<=100):=by
 have h1:SOk (s286 n) (λr=>r.size<=100):=by
  show Ok (g286 n) _
  grind [Ok.t,Ok.k,Ok.d,Z9,ByteArray.size_extract,g286]
 have h2:SOk (s273 n 10) (λr=>r.size<=100):=by
  show Ok (g273 n 10) _
  unfold g273
  refine Ok.t rfl (Ok.n (R:=λc=>c=true) (by grind [Ok.t,Ok.d]) λc hc=>?_)
  subst hc
  exact Ok.t rfl (Ok.c h1 λr hr=>Ok.d hr)
 have h3:SOk (s256 n) (λr=>r.size<=100):=by
  show Ok (g256 n) _
  grind [Ok.c,Ok.d,g256]
 show Ok (g218 n) _
 grind [Ok.c,Ok.d,g218]
theorem bAt_lt(s:za)(i:Int):0<=bAt s i/\bAt s i < 256:=by
 grind [UInt8.toNat_lt,bAt]
theorem okHEX(s:za)(h:s.size<=100000):SOk (s219 s) (λr=>r.size<=200000):=by
 show Ok (g219 s) _
 unfold g219
 have e:Q7 ((2:Int) * (s.size:Int))=2 * (s.size:Int):=Z9 (by omega) (by omega)
 refine Ok.o (r:=()) (by grind [Rule.makeD,decide]) ?_
 refine Ok.g (Ok.b (R:=λl=>l.length<=2 * s.size) ?_ λe he=>Ok.o (r:=()) rfl (Ok.d (by rw[strOfNums_size];omega)))
 refine Ok.s s.size (by omega) (λk y=>y.2=(k:Int)/\y.1.length=2 * k) ⟨rfl,rfl⟩ (λk y hy hk=>?_) (λy hy=>?_)
 ·obtain⟨hi,hs⟩:=hy
  obtain⟨y1,y2⟩:=y
  simp only at hi hs
  subst hi
  have hb:=bAt_lt s (k:Int)
  have hq:(wu8 (Int.tdiv (bAt s (k:Int)) 16))=bAt s (k:Int) / 16:=by
   grind [Int.tdiv_eq_ediv_of_nonneg,wu8,IntKind.wrap,IntKind.signed,IntKind.bits]
  have hm:Int.tmod (bAt s (k:Int)) 16=bAt s (k:Int) % 16:=(by grind)
  refine Ok.e (λhc=>?_) (by grind)
  refine Ok.k (by simp;omega) (Ok.k (by rw[hq];simp[bs,ByteArray.size];omega) (Ok.k (by simp;omega) (Ok.k (by rw[hm];simp[bs,ByteArray.size];omega) (Ok.app ?_ (Ok.g (Ok.g (Ok.d ⟨Y0 hk (by omega),?_⟩)))))))
  ·grind
  grind
 grind [Ok.e,Ok.d]
theorem okRFOUND(k:Int)(b s:Z4)(hb:b.fc.size<=100000)(hs:s.fc.size<=100000):SOk (s150 k b s) (λ_=>True):=by
 show Ok (g150 k b s) _
 unfold g150
 refine Ok.n (R:=λc=>c=false->1<=k/\k<=4) ?_ λc hc=>?_
 ·grind [Ok.e,Ok.d,decide_eq_false_iff_not,Ok.c,okRUSABLE]
 ·refine Ok.e (λ_=>Ok.d trivial) (λh=>?_)
  have hk:=hc h
  have h1:(bs [45]).size=1:=rfl
  refine Ok.c (okITOA k hk) λr hr=>Ok.k (by grind) (Ok.c (okHEX _ hb) λr2 hr2=>?_)
  refine Ok.k (by grind) (Ok.k (by grind) (Ok.c (okHEX _ hs) λr3 hr3=>Ok.k (by grind) (Ok.d trivial)))
theorem okRPRI9(k p c:Int):SOk (s151 k p c) (λ_=>True):=by
 show Ok (g151 k p c) _
 unfold g151
 refine Ok.n (R:=λc=>c=false->1<=k/\k<=4) ?_ λc hc=>?_
 ·grind [Ok.e,Ok.d,decide_eq_false_iff_not]
 ·refine Ok.e (λ_=>Ok.d trivial) (λh=>?_)
  have hk:=hc h
  have:k=1\/k=2\/k=3\/k=4:=by omega
  rcases this with rfl|rfl|rfl|rfl
  all_goals exact Ok.ceq rfl (Ok.e (λ_=>Ok.d trivial) (λ_=>Ok.d trivial))
theorem okRCAND(c:Q6):SOk (s152 c) (λ_=>True):=by
 unfold s152
 refine SOk.fn ?_
 unfold g152
 refine Ok.n (R:=λb=>b=false->(c.gf.size:Int)<=80) ?_ λb hb=>Ok.e (λ_=>Ok.d trivial) λh1=>?_
 ·refine Ok.e (λh1=>Ok.d nofun) λh1=>Ok.e (λh2=>Ok.d nofun) λh2=>Ok.e (λh3=>Ok.d nofun) λh3=>Ok.e (λh4=>Ok.d nofun) λh4=>Ok.e (λh5=>Ok.d nofun) λh5=>Ok.e (λh6=>Ok.d nofun) λh6=>Ok.e (λh7=>Ok.d nofun) λh7=>Ok.d λh=>?_
  grind
 ·have hs:=hb h1
  refine Ok.p (R:=λ_=>True) ?_ (λe _=>Ok.d trivial) (λe _=>?_)
  ·refine Ok.s c.gf.size (by omega) (λk y=>y=(k:Int)) rfl (λk y hy hk=>?_) (λy hy=>?_)
   ·subst hy
    refine Ok.e (λhc=>?_) (by grind)
    refine Ok.k (by simp;omega) ?_
    generalize hx:bAt c.gf (k:Int)=x
    refine Ok.n (R:=λ_=>True) ?_ λb2 _=>Ok.e (λ_=>Ok.d trivial) (by grind [Ok.d,Y0])
    exact Ok.e (λ_=>Ok.e (λ_=>Ok.e (λ_=>Ok.e (λ_=>Ok.d trivial) (λ_=>Ok.d trivial)) (λ_=>Ok.d trivial)) (λ_=>Ok.d trivial)) (λ_=>Ok.e (by grind) (λ_=>Ok.d trivial))
   ·subst hy
    exact Ok.e (λhc=>by simp at hc) (λhc=>Ok.d trivial)
  ·refine Ok.n (R:=λ_=>True) (Ok.c (okRUSABLE _) λ_ _=>Ok.e (λ_=>Ok.d trivial) λ_=>Ok.c (okRUSABLE _) λ_ _=>Ok.e (λ_=>Ok.d trivial) λ_=>Ok.d trivial) λ_ _=>Ok.e (λ_=>Ok.d trivial) λ_=>Ok.n (R:=λ_=>True) (Ok.e (λ_=>Ok.d trivial) λ_=>Ok.e (λ_=>Ok.d trivial) λ_=>Ok.d trivial) λ_ _=>Ok.d trivial
theorem okALL(l:List Q6)(hl:l.length<=1000000):SOk (s187 l) (λ_=>True):=by
 unfold s187
 refine SOk.fn ?_
 unfold g187
 refine Ok.p (R:=λ_=>True) ?_ (λe _=>Ok.d trivial) (λe _=>Ok.d trivial)
 refine Ok.s l.length hl (λk y=>y=(k:Int)) rfl (λk y hy hk=>?_) (λy hy=>?_)
 ·subst hy
  rw[U6]
  refine Ok.e (λhc=>?_) (by grind)
  obtain⟨x,hx1,hx2⟩:=M5 hk
  exact Ok.r (by simp) hx1 (Ok.c (okRCAND x) λb _=>Ok.e (λ_=>Ok.d trivial) λ_=>Ok.d (Y0 hk hl))
 ·subst hy
  rw[U6]
  exact Ok.e (λhc=>by simp at hc) (λhc=>Ok.d trivial)
def InB(m n:Nat)(x:Z2):Prop:=(0<=x.fI/\x.fI < (m:Int))/\(0<=x.fL/\x.fL < (n:Int))
theorem InB.lc{m n:Nat}{x:Z2}(h:InB m n x):decide (0<=x.fI)=true:=by simpa using h.1.1
theorem InB.rc{m n:Nat}{x:Z2}(h:InB m n x):decide (0<=x.fL)=true:=by simpa using h.2.1
theorem InB.loc{l r:List Q6}{x:Z2}(h:InB l.length r.length x):∃y,l[x.fI.toNat]?=some y:=at_of h.1.1 h.1.2
theorem InB.rem{l r:List Q6}{x:Z2}(h:InB l.length r.length x):∃y,r[x.fL.toNat]?=some y:=at_of h.2.1 h.2.2
theorem okRPP(a b:Int):SOk (s234 a b) (λ_=>True):=by
 unfold s234
 refine SOk.fn ?_
 unfold g234
 refine Ok.n (R:=λ_=>True) ?_ λc _=>Ok.e (λ_=>Ok.d trivial) λ_=>Ok.e (λ_=>Ok.d trivial) λ_=>Ok.d trivial
 exact Ok.e (λ_=>Ok.d trivial) λ_=>Ok.e (λ_=>Ok.d trivial) λ_=>Ok.e (λ_=>Ok.d trivial) λ_=>Ok.d trivial
theorem okRPRIO(l:H6)(x:Z2)(h:InB l.fB.length l.fC.length x):SOk (s189 l x) (λ_=>True):=by
 unfold s189
 refine SOk.fn ?_
 unfold g189
 obtain⟨y,hy⟩:=h.loc
 obtain⟨z,hz⟩:=h.rem
 exact Ok.r h.lc hy (Ok.r h.rc hz (Ok.e (λ_=>Ok.c (okRPP _ _) λ_ _=>Ok.d trivial) λ_=>Ok.c (okRPP _ _) λ_ _=>Ok.d trivial))
theorem okALIKE(l:H6)(x y:Z2)(h:InB l.fB.length l.fC.length x)(k:InB l.fB.length l.fC.length y):SOk (s191 l x y) (λ_=>True):=by
 unfold s191
 refine SOk.fn ?_
 unfold g191
 obtain⟨a,ha⟩:=h.loc
 obtain⟨b,hb⟩:=h.rem
 obtain⟨c,hc⟩:=k.loc
 obtain⟨d,hd⟩:=k.rem
 exact Ok.r h.lc ha (Ok.r h.rc hb (Ok.r k.lc hc (Ok.r k.rc hd (Ok.n (R:=λ_=>True) (Ok.e (λ_=>Ok.e (λ_=>Ok.d trivial) λ_=>Ok.d trivial) λ_=>Ok.d trivial) λ_ _=>Ok.d trivial))))
theorem okRELATED(l:H6)(x y:Z2)(h:InB l.fB.length l.fC.length x)(k:InB l.fB.length l.fC.length y):SOk (s192 l x y) (λ_=>True):=by
 unfold s192
 refine SOk.fn ?_
 unfold g192
 obtain⟨a,ha⟩:=h.loc
 obtain⟨b,hb⟩:=h.rem
 obtain⟨c,hc⟩:=k.loc
 obtain⟨d,hd⟩:=k.rem
 exact Ok.n (R:=λ_=>True) (Ok.r h.lc ha (Ok.r k.lc hc (Ok.e (λ_=>Ok.r h.rc hb (Ok.r k.rc hd (Ok.d trivial))) λ_=>Ok.d trivial))) λ_ _=>Ok.d trivial
theorem okRFIT(a b:Q6):SOk (s188 a b) (λ_=>True):=by
 unfold s188
 refine SOk.fn ?_
 unfold g188
 exact Ok.n (R:=λ_=>True) (Ok.e (λ_=>Ok.d trivial) λ_=>Ok.d trivial) λ_ _=>Ok.d trivial
theorem okRNEW(k:Int)(a b s:Z4)(p c:Int)(hb:b.fc.size<=100000)(hs:s.fc.size<=100000):SOk (s74 k a b s p c) (λ_=>True):=by
 show Ok (g74 k a b s p c) _
 unfold g74
 refine Ok.c (okRFOUND k b s hb hs) λr _=>Ok.e (λ_=>Ok.d trivial) (λ_=>Ok.c (okRPRI9 _ _ _) λr2 _=>Ok.e (λ_=>Ok.d trivial) (λ_=>Ok.c (okRCAND _) λr3 _=>Ok.e (λ_=>Ok.d trivial) (λ_=>Ok.d trivial)))
theorem okDCAND(d:SDraft):SOk (s35 d) (λ_=>True):=by
 show Ok (g35 d) _
 unfold g35
 refine Ok.c (okPLACE _) λa ha=>Ok.c (okPLACE _) λb hb=>Ok.n (R:=λ_=>True) ?_ λc _=>?_
 ·exact Ok.e (λ_=>Ok.d trivial) (λ_=>Ok.e (λ_=>Ok.d trivial) (λ_=>Ok.d trivial))
 refine Ok.b (R:=λe=>e.1.size<=16) (by grind [Ok.e,Ok.d]) λe he=>?_
 refine Ok.n (R:=λ_=>True) (Ok.e (λ_=>Ok.d trivial) (λ_=>Ok.d trivial)) λc2 _=>?_
 refine Ok.b (R:=λe=>e.1.size<=16) (Ok.e (by grind [Ok.c,okPLACE,Ok.d]) (λ_=>Ok.d (by simp_all))) λe2 he2=>?_
 exact Ok.c (okRNEW _ _ _ _ _ _ (by show e.1.size<=_;omega) (by show e2.1.size<=_;omega)) λr _=>Ok.d trivial
theorem bif_ok{p:Prop}[Decidable p](h:p):(bif decide p then some () else none)=some ():=by grind
theorem okRMAKE(l r:List Q6)(c:Bool):SOk (s116 l r c) (λe=>e.1.fD.length<=36):=by
 show Ok (g116 l r c) _
 unfold g116
 simp only[U6]
 refine Ok.n (R:=λb=>b=false->l.length<=12/\r.length<=12) ?_ λb hb=>?_
 ·grind [Ok.e,Ok.d]
 refine Ok.e (λ_=>Ok.d (by simp)) (λh=>?_)
 obtain⟨hl,hr⟩:=hb h
 refine Ok.n (R:=λ_=>True) (Ok.c (okALL l (by omega)) λa _=>Ok.e (λ_=>Ok.d trivial) λ_=>Ok.c (okALL r (by omega)) λa2 _=>Ok.d trivial) λb2 _=>?_
 refine Ok.e (λ_=>Ok.d (by simp)) (λ_=>?_)
 refine Ok.g (Ok.b (R:=λL=>(∀x,x∈L->InB l.length r.length x)/\L.length<=144) ?_ λL hL=>?_)
 ·refine Ok.s l.length (by omega) (λk y=>y.2=(k:Int)/\(∀x,x∈y.1->InB l.length r.length x)/\y.1.length<=12 * k) (by grind) (λk y hy hk=>?_) (λy hy=>?_)
  ·obtain⟨hi,hI,hs⟩:=hy
   obtain⟨y1,y2⟩:=y
   simp only at hi hI hs
   subst hi
   refine Ok.e (λhc=>Ok.g ?_) (by grind)
   refine Ok.b (R:=λL=>(∀x,x∈L->InB l.length r.length x)/\L.length<=12 * (k+1)) ?_ (by grind [Ok.g,Ok.d,Y0])
   refine Ok.s r.length (by omega) (λj z=>z.2=(j:Int)/\(∀x,x∈z.1->InB l.length r.length x)/\z.1.length<=12 * k+j) (by grind) (λj z hz hj=>?_) (λz hz=>?_)
   ·obtain⟨ji,jI,js⟩:=hz
    obtain⟨z1,z2⟩:=z
    simp only at ji jI js
    subst ji
    refine Ok.e (λhc=>?_) (by grind)
    obtain⟨x,hx1,hx2⟩:=M5 hk
    obtain⟨w,hw1,hw2⟩:=M5 hj
    refine Ok.r (by simp) hx1 (Ok.r (by simp) hw1 (Ok.c (okRFIT x w) λa _=>Ok.e (λ_=>?_) (by grind [Ok.d,Y0])))
    have hnew:∀p s:Int,InB l.length r.length (Z2.mk (k:Int) (j:Int) p s):=λp s=>⟨(by grind),(by grind)⟩
    refine Ok.c (okRPRIO ⟨c,l,r,[]⟩ _ (hnew 0 0)) λp _=>?_
    refine Ok.b (R:=λe=>0<=e.2/\e.2<=(z1.length:Int)) ?_ λe he=>?_
    ·refine Ok.lp (λa=>0<=a/\a<=(z1.length:Int)) (λa=>a.toNat) (by grind) (A9 (by grind)) (λa ha=>?_)
     refine Ok.n (R:=λb=>b=true->0 < a) ?_ λb hb=>Ok.e (λh=>?_) (λh=>Ok.d ha)
     ·refine Ok.e (λh=>?_) (by grind [Ok.d])
      simp only[zG] at h
      have e1:Q7 (a - 1)=a - 1:=Z9 (by omega) (by omega)
      obtain⟨q,hq⟩:=at_of (l:=z1) (i:=a - 1) (by omega) (by omega)
      refine Ok.k (by grind) (Ok.r rfl (by rw[e1,zX];exact hq) (Ok.c (R:=λ_=>True) ?_ λb _=>Ok.d λ_=>h))
      show Ok (g190 _ _) _
      unfold g190
      exact Ok.e (λ_=>Ok.d trivial) (λ_=>Ok.e (λ_=>Ok.d trivial) (λ_=>Ok.d trivial))
     grind [Z9,Ok.d,Q7,Rnd]
    ·obtain⟨h0,h1⟩:=he
     have c1:(decide (0<=e.2)&&decide (e.2<=(z1.length:Int)))=true:=by grind
     refine Ok.k c1 (Ok.o (r:=()) (bif_ok (by grind)) ?_)
     refine Ok.app (by simp;omega) (Ok.k c1 (Ok.o (r:=()) (bif_ok (by grind)) (Ok.g (Ok.g (Ok.d ⟨Y0 hj (by omega),?_,?_⟩)))))
     ·grind
     ·simp;omega
   grind [Ok.e,Ok.d]
  grind [Ok.e,Ok.d]
 ·obtain⟨hI,hL⟩:=hL
  refine Ok.g (Ok.b (R:=λM=>(∀x,x∈M->InB l.length r.length x)/\M.length<=36) ?_ λM hM=>?_)
  ·refine Ok.s L.length (by omega) (λk y=>y.2=(k:Int)/\(∀x,x∈y.1->InB l.length r.length x)/\y.1.length<=36) (by grind) (λk y hy hk=>?_) (λy hy=>?_)
   ·obtain⟨hi,yI,hs⟩:=hy
    obtain⟨y1,y2⟩:=y
    simp only at hi yI hs
    subst hi
    refine Ok.e (λhc=>?_) (by grind)
    obtain⟨x,hx1,hx2⟩:=M5 hk
    have hxI:=hI x (zO hx2)
    have hx3:L[0+((k:Int)).toNat]?=some x:=by grind
    refine Ok.b (R:=λ_=>True) ?_ λe _=>?_
    ·refine Ok.s k (by omega) (λj z=>z.2=(j:Int)) rfl (λj z hz hj=>?_) (λz hz=>?_)
     ·obtain⟨z1,z2⟩:=z
      simp only at hz
      subst hz
      refine Ok.e (λhc=>?_) (by grind)
      obtain⟨w,hw1,hw2⟩:=M5 (show j < L.length by omega)
      have hwI:=hI w (zO hw2)
      refine Ok.n (R:=λ_=>True) (Ok.e (λ_=>Ok.d trivial) (λ_=>?_)) λc _=>Ok.d (Y0 hj (by omega))
      refine Ok.k (by simp;omega) (Ok.r rfl hx3 (Ok.k (by simp;omega) (Ok.r rfl (by rw[zX];exact hw1) (Ok.v (okALIKE _ x w hxI hwI) λ_ _=>Ok.d trivial))))
     ·obtain⟨z1,z2⟩:=z
      simp only at hz
      subst hz
      exact Ok.e (λhc=>by simp at hc) (λhc=>Ok.d trivial)
    ·refine Ok.n (R:=λb=>b=true->y1.length < 36) (Ok.e (λ_=>Ok.d (by intro h;have h7:((y1.length:Nat):Int) < 36:=of_decide_eq_true h;omega)) (λ_=>Ok.d λh=>by simp at h)) λb hb=>Ok.e (λh=>?_) (λh=>Ok.d ⟨Y0 hk (by omega),yI,hs⟩)
     have h8:=hb h
     refine Ok.k (by simp;omega) (Ok.r rfl hx3 (Ok.app (by simp;omega) (Ok.g (Ok.g (Ok.d ⟨Y0 hk (by omega),?_,by simp;omega⟩)))))
     intro z hz
     rcases zU.1 hz with hz|hz
     ·exact yI z hz
     ·simp only[we] at hz;subst hz;exact hxI
   ·obtain⟨hi,yI,hs⟩:=hy
    obtain⟨y1,y2⟩:=y
    simp only at hi yI hs
    subst hi
    exact Ok.e (λhc=>by simp at hc) (λhc=>Ok.d ⟨yI,hs⟩)
  ·obtain⟨mI,mL⟩:=hM
   refine Ok.b (R:=λN=>N.length<=36) ?_ λN hN=>Ok.g (Ok.d hN)
   refine Ok.s M.length (by omega) (λk y=>y.2=(k:Int)/\(∀x,x∈y.1->InB l.length r.length x)/\y.1.length=M.length) ⟨rfl,mI,rfl⟩ (λk y hy hk=>?_) (λy hy=>?_)
   ·obtain⟨hi,yI,hs⟩:=hy
    obtain⟨y1,y2⟩:=y
    simp only at hi yI hs
    subst hi
    refine Ok.e (λhc=>?_) (λhc=>by simp[hs] at hc;omega)
    obtain⟨x,hx1,hx2⟩:=M5 (show k < y1.length by omega)
    have hxI:=yI x (zO hx2)
    have hx3:y1[0+((k:Int)).toNat]?=some x:=by rw[zX];exact hx1
    refine Ok.k (by simp;omega) (Ok.r rfl hx3 (Ok.r hxI.lc hxI.loc.choose_spec ?_))
    refine Ok.b (R:=λ_=>True) ?_ λe _=>Ok.e (λ_=>?_) (λ_=>Ok.d ⟨Y0 hk (by omega),yI,hs⟩)
    ·refine Ok.s y1.length (by omega) (λj z=>z.2=(j:Int)) rfl (λj z hz hj=>?_) (λz hz=>?_)
     ·obtain⟨z1,z2⟩:=z
      simp only at hz
      subst hz
      refine Ok.e (λhc=>?_) (λhc=>by simp at hc;omega)
      obtain⟨w,hw1,hw2⟩:=M5 hj
      have hwI:=yI w (zO hw2)
      have hw3:y1[0+((j:Int)).toNat]?=some w:=by rw[zX];exact hw1
      refine Ok.k (by simp;omega) (Ok.r rfl hw3 (Ok.r hwI.lc hwI.loc.choose_spec (Ok.n (R:=λ_=>True) ?_ λb _=>Ok.e (λ_=>Ok.d (Y0 hj (by omega))) (λ_=>Ok.d (Y0 hj (by omega))))))
      refine Ok.k (by simp;omega) (Ok.r rfl hx3 (Ok.k (by simp;omega) (Ok.r rfl hw3 (Ok.v (okRELATED _ x w hxI hwI) λ_ _=>?_))))
      exact Ok.e (λ_=>Ok.e (λ_=>Ok.d trivial) (λ_=>Ok.e (λ_=>Ok.d trivial) (λ_=>Ok.d trivial))) (λ_=>Ok.d trivial)
     ·obtain⟨z1,z2⟩:=z
      simp only at hz
      subst hz
      exact Ok.e (λhc=>by simp at hc) (λhc=>Ok.d trivial)
    ·refine Ok.k (by simp;omega) (Ok.r rfl hx3 (Ok.re (Ok.g (Ok.d ⟨Y0 hk (by omega),?_,by simp[hs]⟩))))
     intro z hz
     rcases qb hz with hz|hz
     ·exact yI z hz
     ·subst hz;exact hxI
   ·obtain⟨hi,yI,hs⟩:=hy
    obtain⟨y1,y2⟩:=y
    simp only at hi yI hs
    subst hi
    exact Ok.e (λhc=>by simp[hs] at hc) (λhc=>Ok.d (by show y1.length<=36;omega))
theorem okRCANDS11(l:List SDraft)(n:Nat)(hn:n<=1000):SOk (s10 l (n:Int)) (λr=>r.length<=n):=by
 show Ok (g10 l (n:Int)) _
 unfold g10
 simp only[U6]
 refine Ok.g (Ok.b (R:=λr=>r.length<=n) ?_ λe he=>Ok.g (Ok.d he))
 refine Ok.s n (by omega) (λk y=>y.2=(k:Int)/\y.1.length=k) ⟨rfl,rfl⟩ (λk y hy hk=>?_) (λy hy=>?_)
 ·obtain⟨hi,hs⟩:=hy
  obtain⟨y1,y2⟩:=y
  simp only at hi hs
  subst hi
  refine Ok.n (R:=λc=>c=true->k < l.length) (by grind [Ok.e,Ok.d]) λc hc=>Ok.e (λh=>?_) (by grind [Ok.d])
  obtain⟨x,hx1,hx2⟩:=M5 (hc h)
  refine Ok.r (by simp) hx1 (by grind [Ok.c,okDCAND,Ok.app,Ok.g,Ok.d,Y0])
 ·obtain⟨hi,hs⟩:=hy
  obtain⟨y1,y2⟩:=y
  simp only at hi hs
  subst hi
  refine Ok.n (R:=λc=>c=false) (Ok.e (λh1=>Ok.d (by simp)) (λh1=>Ok.d rfl)) λc hc=>?_
  subst hc
  exact Ok.f rfl (by grind [Ok.d])
theorem okSINGLE11(l:List Q6)(hl:l.length<=1000000):SOk (s117 l) (λ_=>True):=by
 unfold s117
 refine SOk.fn ?_
 unfold g117
 refine Ok.p (R:=λ_=>True) ?_ (λe _=>Ok.d trivial) λe _=>Ok.d trivial
 refine Ok.s l.length hl (λk y=>y=(k:Int)) rfl (λk y hy hk=>?_) λy hy=>?_
 ·subst hy
  refine Ok.t (by grind [U6]) ?_
  obtain⟨x,hx,_⟩:=M5 (l:=l) (k:=k) hk
  exact Ok.r (by simp) hx (Ok.e (λ_=>Ok.d trivial) λ_=>Ok.d (Y0 hk hl))
 ·subst hy
  exact Ok.f (by rw[U6];simp) (Ok.d trivial)
theorem okRNEWA(l r:List Q6)(c:Bool)(tie now:Int)(hl:l.length<=12)(hr:r.length<=12):SOk (s56 l r c tie now) (λe=>e.1.fO=[]):=by
 unfold s56
 refine SOk.fn ?_
 unfold g56
 refine Ok.c (okRMAKE l r c) λe he=>Ok.e (λ_=>Ok.d rfl) λ_=>?_
 refine Ok.n (R:=λ_=>True) ?_ λc2 _=>Ok.e (λ_=>Ok.d rfl) λ_=>?_
 ·refine Ok.c (okSINGLE11 l (by omega)) λ_ _=>Ok.e (λ_=>Ok.d trivial) λ_=>Ok.c (okSINGLE11 r (by omega)) λ_ _=>Ok.e (λ_=>Ok.d trivial) λ_=>Ok.e (λ_=>Ok.d trivial) λ_=>Ok.e (λ_=>Ok.d trivial) λ_=>Ok.e (λ_=>Ok.d trivial) λ_=>Ok.d trivial
 ·refine Ok.o (r:=()) ?_ (Ok.g (Ok.g (Ok.d rfl)))
  show (bif decide (0<=(Y6 Q4 e.1.fD))&&decide ((Y6 Q4 e.1.fD)<=(Y6 Q4 e.1.fD))&&decide (1 * (Y6 Q4 e.1.fD).toNat<=281474976710656)&&decide ((Y6 Q4 e.1.fD)<=9223372036854775807) then some () else none)=some ()
  grind [U6,decide_eq_true]
theorem okFRESH(d:SDraft1):SOk (s18 d) (λa=>a.fO=[]):=by
 unfold s18
 refine SOk.fn ?_
 unfold g18
 exact Ok.c (okRCANDS11 d.fB 6 (by decide)) λl hl=>Ok.c (okRCANDS11 d.fC 6 (by decide)) (by grind [Ok.c,okRNEWA,Ok.d])
def EventOk(x:SEvent):Prop:=(0<=x.fR/\x.fR<=255)/\(0<=x.fU/\x.fU<=255)
theorem tmod_at{i:Int}{n:Nat}(h0:0<=i)(h1:i<=255)(hn:0 < n):0<=Int.tmod (Q7 i) (n:Int)/\(Int.tmod (Q7 i) (n:Int)).toNat < n:=by
 rw[Z9 (by omega) (by omega),Int.tmod_eq_emod_of_nonneg h0]
 have:=Int.emod_nonneg i (show (n:Int)≠0 by omega)
 simp_all [Int.emod_lt_of_pos]
theorem okPLACE11(a:J7)(p:Int)(h:0<=p/\p<=255):SOk (s46 a p) (λ_=>True):=by
 unfold s46
 refine SOk.fn ?_
 unfold g46
 simp only[U6]
 refine Ok.n (R:=λc=>c=false->0 < a.fh.fB.length) (Ok.e (λ_=>Ok.d λe=>by cases e) λhc=>Ok.d λ_=>?_) λc hc=>Ok.e (λ_=>Ok.c (okPLACE p) λr _=>Ok.d trivial) λe=>?_
 ·grind
 ·have hn:=hc e
  obtain⟨t0,t1⟩:=tmod_at h.1 h.2 hn
  exact Ok.k (by grind) (Ok.r (by simpa using t0) (zR t1) (Ok.d trivial))
theorem okHOP(x:SEvent)(a:J7)(hx:EventOk x)(ha:a.fO=[]):SOk (s16 x a) (λ_=>True):=by
 obtain⟨⟨f0,f1⟩,t0,t1⟩:=hx
 unfold s16
 refine SOk.fn ?_
 unfold g16
 simp only[U6,ha]
 refine Ok.c (okPLACE _) λp1 _=>Ok.c (okPLACE11 a _ ⟨t0,t1⟩) λp2 _=>?_
 refine Ok.n (R:=λc=>c=false) (Ok.e (λ_=>Ok.d rfl) λ_=>Ok.d rfl) λc hc=>?_
 subst hc
 refine Ok.f rfl (Ok.e (λ_=>Ok.c (okPLACE _) λp3 _=>Ok.d trivial) λ_=>?_)
 refine Ok.n (R:=λc=>c=true->0 < a.fh.fC.length) (by grind [Ok.e,Ok.d]) λc hc=>?_
 refine Ok.b (R:=λ_=>True) (Ok.e (λe=>?_) λ_=>Ok.d trivial) λe _=>Ok.e (λ_=>Ok.d trivial) λ_=>Ok.d trivial
 obtain⟨q0,q1⟩:=tmod_at f0 f1 (hc e)
 have hn:=hc e
 exact Ok.k (by grind) (Ok.r (by simpa using q0) (zR q1) (Ok.d trivial))
end Go.Proofs.YtjpahkpfkohfkaaGreatDoor
