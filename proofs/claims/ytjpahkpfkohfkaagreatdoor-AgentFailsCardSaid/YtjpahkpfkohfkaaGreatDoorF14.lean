/- The pairs that fit, in order of place: what the range over pairs gathers. Maps from keys to values, told by their entries: what is looked up, what a ..; no conditions. -/
import Derived.Test.YtjpahkpfkohfkaaGreatDoorF13
import Derived.Test.YtjpahkpfkohfkaaGreatDoorF10
import Derived.Test.YtjpahkpfkohfkaaGreatDoorF8
import Derived.Test.YtjpahkpfkohfkaaGreatDoorF11
import Derived.KernelRfl
set_option linter.unusedVariables false
set_option linter.unusedSimpArgs false
set_option maxRecDepth 100000
namespace Go.Proofs.YtjpahkpfkohfkaaGreatDoor
open Go Go.EV
open Classical
theorem iter_scan{σ ε:Type}{f:σ→Option (σ⊕ε)}(n:Nat)(hn:n≤1000000)(g:Nat→σ)(r:ε)(h:∀k,k < n→f (g k)=some (.inl (g (k+1))))(hl:f (g n)=some (.inr r)):I8 f FUEL (g 0)=some r:=by
 have key:∀m k,k≤n→n - k < m→I8 f m (g k)=some r:=by
  intro m
  induction m with
  | zero=>intro k _ h;omega
  | succ m ih=>
   intro k hk hm
   have e1:I8 f (m+1) (g k)=(match f (g k) with|none=>none|some (.inl y)=>I8 f m y|some (.inr e)=>some e):=rfl
   rw[e1]
   rcases ζN k n with h1|h1
   ·rw[h k h1];exact ih (k+1) (by omega) (by omega)
   ·have:k=n:=by omega
    subst this
    rw[hl]
 exact key FUEL 0 (Nat.zero_le _) (M1 (by omega))
theorem okPRIO1(c:Bool)(ls rs:List Q2)(x:Q6)(h:InB ⟨c,ls,rs,[]⟩ x)(hl:H9 ls)(hr:H9 rs):SOk (s156_1 c ls rs x) (fun r=>r=prio ⟨c,ls,rs,[]⟩ x):=by
 show Ok (g156_1 c ls rs x) _
 unfold g156_1 prio
 have h1:=(h.locOk hl).2.2.1
 have h2:=(h.remOk hr).2.2.1
 refine Ok.r h.lc h.loc (Ok.r h.rc h.rem ?_)
 cases c with
 | true=>exact Ok.b (R:=fun e=>e=((V3 ⟨true,ls,rs,[]⟩ x).ft,(remC ⟨true,ls,rs,[]⟩ x).ft)) (Ok.f rfl (Ok.d rfl)) fun e he=>by subst he;exact Ok.c (okPP _ _ h1 h2) fun r hr=>Ok.d (by rw[hr];rfl)
 | false=>exact Ok.b (R:=fun e=>e=((remC ⟨false,ls,rs,[]⟩ x).ft,(V3 ⟨false,ls,rs,[]⟩ x).ft)) (Ok.t rfl (Ok.d rfl)) fun e he=>by subst he;exact Ok.c (okPP _ _ h2 h1) fun r hr=>Ok.d (by rw[hr];rfl)
def mkP(Z:Y3)(i j:Nat):Q6:=⟨(i:Int),(j:Int),prio Z ⟨(i:Int),(j:Int),0,0⟩,0⟩
def FitAt(Z:Y3)(i j:Nat):Prop:=∃x w,Z.fu[i]?=some x∧Z.fw[j]?=some w∧FitP x w
noncomputable def rowL(Z:Y3)(i:Nat):Nat→List Q6
 | 0=>[]
 | j+1=>rowL Z i j++(if FitAt Z i j then [mkP Z i j] else [])
noncomputable def fitsL(Z:Y3):Nat→List Q6
 | 0=>[]
 | i+1=>fitsL Z i++rowL Z i Z.fw.length
theorem rowL_mem{Z:Y3}{i:Nat}:∀{n:Nat} {x:Q6},x∈rowL Z i n↔∃j,j < n∧FitAt Z i j∧x=mkP Z i j
 | 0,x=>by simp[rowL]
 | n+1,x=>by
  simp only[rowL,ζr,rowL_mem (n:=n)]
  constructor
  ·rintro(⟨j,h1,h2,h3⟩|h)
   ·exact⟨j,by omega,h2,h3⟩
   ·split at h
    ·exact⟨n,by omega,by assumption,by simpa using h⟩
    ·simp at h
  ·rintro⟨j,h1,h2,h3⟩
   by_cases e:j < n
   ·exact .inl ⟨j,e,h2,h3⟩
   ·have:j=n:=by omega
    subst this
    exact .inr (by rw[if_pos h2];simp[h3])
theorem fitsL_mem{Z:Y3}:∀{n:Nat} {x:Q6},x∈fitsL Z n↔∃i j,i < n∧j < Z.fw.length∧FitAt Z i j∧x=mkP Z i j
 | 0,x=>by simp[fitsL]
 | n+1,x=>by
  simp only[fitsL,ζr,fitsL_mem (n:=n),rowL_mem]
  constructor
  ·rintro(⟨i,j,h1,h2⟩|⟨j,h1,h2⟩)
   ·exact⟨i,j,by omega,h2⟩
   ·exact⟨n,j,by omega,h1,h2⟩
  ·rintro⟨i,j,h1,h2⟩
   by_cases e:i < n
   ·exact .inl ⟨i,j,e,h2⟩
   ·have:i=n:=by omega
    subst this
    exact .inr ⟨j,h2⟩
theorem rowL_len{Z:Y3}{i:Nat}:∀n,(rowL Z i n).length≤n
 | 0=>ζK _
 | n+1=>by
  have:=rowL_len (Z:=Z) (i:=i) n
  simp only[rowL,ζn]
  split<;>simp<;>omega
theorem fitsL_len{Z:Y3}:∀n,(fitsL Z n).length≤n * Z.fw.length
 | 0=>Nat.zero_le _
 | n+1=>by
  have:=fitsL_len (Z:=Z) n
  have:=rowL_len (Z:=Z) (i:=n) Z.fw.length
  simp only[fitsL,ζn,Nat.succ_mul]
  omega
theorem inStep_eq(c:Bool)(ls rs:List Q2)(hl:H9 ls)(hr:H9 rs)(h1:rs.length≤1000)(i k:Nat)(hi:i < ls.length)(hk:k < rs.length)(a:Q2)(ha:ls[i]?=some a)(out:List Q6)(ho:out.length≤1000000) :
  D0 c ls rs (i:Int) a ((k:Int),out)=some (.inl (((k+1:Nat):Int),out++(if FitAt ⟨c,ls,rs,[]⟩ i k then [mkP ⟨c,ls,rs,[]⟩ i k] else []))):=by
 obtain⟨b,hb1,hb2⟩:=A6 hk
 have hI:InB ⟨c,ls,rs,[]⟩ (Q6.mk (i:Int) (k:Int) 0 0):=⟨⟨by simp,by simp;omega⟩,⟨by simp,by simp;omega⟩⟩
 have e5:Ok (gR5 rs (k:Int)) (fun r=>r=b):=by
  unfold gR5
  exact Ok.k (inP hk) (Ok.r rfl (by rw[ξv];exact hb1) (Ok.d rfl))
 have e7:Ok (gR7 c ls rs (i:Int) (k:Int)) (fun r=>r=prio ⟨c,ls,rs,[]⟩ (Q6.mk (i:Int) (k:Int) 0 0)):=by
  unfold gR7
  exact Ok.v (okPRIO1 c ls rs _ hI hl hr) fun r hr=>Ok.d hr
 have e8:Ok (gR8 a b) (fun f=>(f=true↔FitP a b)):=by
  unfold gR8
  exact Ok.c (okFIT a b) fun r hr=>Ok.e (fun h=>Ok.d ⟨fun _=>hr.1 h,fun _=>rfl⟩) (fun h=>Ok.d ⟨fun h2=>by simp at h2,fun h2=>by rw[hr.2 h2] at h;simp at h⟩)
 have e9:∀x,Ok (gRd out x) (fun _=>True):=fun x=>by
  unfold gRd
  exact Ok.app (by simp;omega) (Ok.d trivial)
 obtain⟨b',r5,rfl⟩:=e5
 obtain⟨p',r7,rfl⟩:=e7
 obtain⟨f,r8,hf⟩:=e8
 have hfit:FitAt ⟨c,ls,rs,[]⟩ i k↔FitP a b':=by
  constructor
  ·rintro⟨x,w,h1,h2,h3⟩
   have h1':ls[i]?=some x:=h1
   have h2':rs[k]?=some w:=h2
   rw[ha] at h1';rw[hb2] at h2'
   obtain rfl:=ζR h1'
   obtain rfl:=ζR h2'
   exact h3
  ·exact fun h=>⟨a,b',ha,hb2,h⟩
 obtain⟨_,r9,_⟩:=e9 (Q6.mk (i:Int) (k:Int) (prio ⟨c,ls,rs,[]⟩ (Q6.mk (i:Int) (k:Int) 0 0)) 0)
 have e1:Q4 ((k:Int)+1)=((k+1:Nat):Int):=J9 hk (by omega)
 unfold D0
 simp only[r5,r7,r8,e1]
 rw[show decide ((k:Int) < (rs.length:Int))=true from by simp;omega,cond_true]
 cases f with
 | true=>
  rw[if_pos (hfit.2 (hf.1 rfl))]
  simp only[cond_true,r9]
  rfl
 | false=>
  rw[if_neg (fun h=>by have:=hf.2 (hfit.1 h);simp at this)]
  simp
theorem inM_eq(c:Bool)(ls rs:List Q2)(hl:H9 ls)(hr:H9 rs)(h1:rs.length≤1000)(i:Nat)(hi:i < ls.length)(a:Q2)(ha:ls[i]?=some a)(out:List Q6)(ho:out.length≤900000) :
  inM c ls rs (i:Int) a out=some (out++rowL ⟨c,ls,rs,[]⟩ i rs.length):=by
 unfold inM
 have:=iter_scan (f:=D0 c ls rs (i:Int) a) rs.length (by omega) (fun k=>((k:Int),out++rowL ⟨c,ls,rs,[]⟩ i k)) (out++rowL ⟨c,ls,rs,[]⟩ i rs.length) (fun k hk=>?_) ?_
 ·simpa[rowL] using this
 ·have:=rowL_len (Z:=⟨c,ls,rs,[]⟩) (i:=i) k
  rw[inStep_eq c ls rs hl hr h1 i k hi hk a ha _ (by simp;omega)]
  simp[rowL]
 ·unfold D0
  simp
theorem pairsM_eq(c:Bool)(ls rs:List Q2)(hl:H9 ls)(hr:H9 rs)(h0:ls.length≤100)(h1:rs.length≤100):pairsM c ls rs=some (fitsL ⟨c,ls,rs,[]⟩ ls.length):=by
 unfold pairsM
 refine iter_scan (f:=L6 c ls rs) ls.length (by omega) (fun k=>((k:Int),fitsL ⟨c,ls,rs,[]⟩ k)) _ (fun k hk=>?_) ?_
 ·obtain⟨a,ha1,ha2⟩:=A6 hk
  have e2:Ok (gR2 ls (k:Int)) (fun r=>r=a):=by
   unfold gR2
   exact Ok.k (inP hk) (Ok.r rfl (by rw[ξv];exact ha1) (Ok.d rfl))
  obtain⟨a',r2,rfl⟩:=e2
  have hlen:=fitsL_len (Z:=⟨c,ls,rs,[]⟩) k
  have hle:k * rs.length≤100 * 100:=Nat.mul_le_mul (by omega) h1
  have hlen2:(fitsL ⟨c,ls,rs,[]⟩ k).length≤k * rs.length:=hlen
  have r3:=inM_eq c ls rs hl hr (by omega) k hk a' ha2 (fitsL ⟨c,ls,rs,[]⟩ k) (by omega)
  unfold L6
  simp only[r2,r3,J9 hk (by omega:ls.length≤1000000)]
  rw[show decide ((k:Int) < (ls.length:Int))=true from by simp;omega,cond_true]
  rfl
 ·unfold L6
  simp
end Go.Proofs.YtjpahkpfkohfkaaGreatDoor
namespace Go.Proofs.YtjpahkpfkohfkaaGreatDoor
open Go Go.EV
structure R5{α κ υ:Type}(fk:α→κ)(fv:α→υ)(l:List α)(V:κ→υ→Prop):Prop where
 nodup:(l.map fk).Nodup
 val:∀z v,V z v↔∃e,e∈l∧fk e=z∧fv e=v
theorem R5.find{α κ υ:Type}{fk:α→κ}{fv:α→υ}{l:List α}{V:κ→υ→Prop}(h:R5 fk fv l V){p:α→Bool}{x:κ}(hp:∀e,p e=true↔x=fk e)(d:υ) :
  ((l.findIdx? p).isSome=true↔∃v,V x v)∧(∀v,V x v→K8 l p fv d=v):=by
 cases hf:l.findIdx? p with
 | none=>
  rw[List.findIdx?_eq_none_iff] at hf
  have no:∀v,¬V x v:=fun v hv=>by
   obtain⟨e,h1,h2,_⟩:=(h.val x v).1 hv
   have:=hf e h1
   rw[(hp e).2 h2.symm] at this
   simp at this
  exact⟨⟨fun h=>by simp at h,fun⟨v,hv⟩=>absurd hv (no v)⟩,fun v hv=>absurd hv (no v)⟩
 | some j=>
  obtain⟨h1,h2,h3⟩:=List.findIdx?_eq_some_iff_getElem.1 hf
  have hk:=(hp _).1 h2
  refine⟨⟨fun _=>⟨fv l[j],(h.val x _).2 ⟨l[j],List.getElem_mem h1,hk.symm,rfl⟩⟩,fun _=>rfl⟩,fun v hv=>?_⟩
  obtain⟨e,e1,e2,e3⟩:=(h.val x v).1 hv
  obtain⟨i,hi⟩:=ζh.1 e1
  have hil:=(ζe.1 hi).1
  have hie:=(ζe.1 hi).2
  have hij:i=j:=by
   have hn:=h.nodup
   have a1:(l.map fk)[i]'(by simpa using hil)=x:=by rw[List.getElem_map,hie];exact e2
   have a2:(l.map fk)[j]'(by simpa using h1)=x:=by rw[List.getElem_map];exact hk.symm
   exact(List.getElem_inj hn).1 (a1.trans a2.symm)
  subst hij
  unfold K8
  rw[hf]
  simp only[ζd h1]
  rw[hie];exact e3
theorem R5.put{α κ υ:Type}{fk:α→κ}{fv:α→υ}{l:List α}{V:κ→υ→Prop}(h:R5 fk fv l V){p:α→Bool}{x:κ}(hp:∀e,p e=true↔x=fk e){y:α}(hy:fk y=x) :
  R5 fk fv (mput l p y) (fun z v=>(z=x∧v=fv y)∨(z≠x∧V z v)):=by
 unfold mput
 cases hf:l.findIdx? p with
 | none=>
  rw[List.findIdx?_eq_none_iff] at hf
  have no:∀e,e∈l→fk e≠x:=fun e he hx=>by
   have:=hf e he
   rw[(hp e).2 hx.symm] at this
   simp at this
  refine⟨?_,fun z v=>?_⟩
  ·show ((l++[y]).map fk).Nodup
   rw[ζp]
   refine nodup_app.2 ⟨h.nodup,fun hm=>?_⟩
   obtain⟨e,e1,e2⟩:=ζt.1 hm
   exact no e e1 (by rw[e2,hy])
  ·show _↔∃e,e∈l++[y]∧fk e=z∧fv e=v
   constructor
   ·rintro(⟨rfl,rfl⟩|⟨h1,h2⟩)
    ·exact⟨y,by simp,hy,rfl⟩
    ·obtain⟨e,e1,e2⟩:=(h.val z v).1 h2
     exact⟨e,by simp[e1],e2⟩
   ·rintro⟨e,e1,e2,e3⟩
    rcases ζr.1 e1 with e1|e1
    ·exact .inr ⟨fun hz=>no e e1 (by rw[e2,hz]),(h.val z v).2 ⟨e,e1,e2,e3⟩⟩
    ·simp only[ζu] at e1;subst e1
     exact .inl ⟨by rw[←e2,hy],e3.symm⟩
 | some j=>
  obtain⟨h1,h2,_⟩:=List.findIdx?_eq_some_iff_getElem.1 hf
  have hk:=(hp _).1 h2
  have hmap:(l.set j y).map fk=l.map fk:=by
   refine List.ext_getElem? fun i=>?_
   rw[ζo,ζo]
   by_cases e:j=i
   ·subst e
    rw[ζj h1,ζd h1,ζZ,ζZ,hy,hk]
   ·rw[ζk e]
  refine⟨by show ((l.set j y).map fk).Nodup;rw[hmap];exact h.nodup,fun z v=>?_⟩
  show _↔∃e,e∈l.set j y∧fk e=z∧fv e=v
  constructor
  ·rintro(⟨rfl,rfl⟩|⟨q1,q2⟩)
   ·exact⟨y,ζh.2 ⟨j,ζj h1⟩,hy,rfl⟩
   ·obtain⟨e,e1,e2,e3⟩:=(h.val z v).1 q2
    obtain⟨i,hi⟩:=ζh.1 e1
    refine⟨e,ζh.2 ⟨i,?_⟩,e2,e3⟩
    have:j≠i:=fun hji=>by
     subst hji
     rw[ζd h1] at hi
     obtain rfl:=ζR hi
     exact q1 (e2.symm.trans hk.symm)
    rw[ζk this];exact hi
  ·rintro⟨e,e1,e2,e3⟩
   obtain⟨i,hi⟩:=ζh.1 e1
   by_cases hji:j=i
   ·subst hji
    rw[ζj h1] at hi
    obtain rfl:=ζR hi
    exact .inl ⟨e2.symm.trans hy,e3.symm⟩
   ·rw[ζk hji] at hi
    refine .inr ⟨fun hz=>hji ?_,(h.val z v).2 ⟨e,ζi hi,e2,e3⟩⟩
    have hil:=(ζe.1 hi).1
    have hie:=(ζe.1 hi).2
    have a1:(l.map fk)[i]'(by simpa using hil)=x:=by rw[List.getElem_map,hie,e2,hz]
    have a2:(l.map fk)[j]'(by simpa using h1)=x:=by rw[List.getElem_map];exact hk.symm
    exact((List.getElem_inj h.nodup).1 (a1.trans a2.symm)).symm
open Classical
theorem wSet_eq{m:Nat}{i:Nat}{s:List Q6}(hs:s.length=m)(hi:i < m):∃x,s[i]?=some x∧wSet m (i:Int) s=some (s.set i ⟨x.fH,x.fJ,x.ft,1⟩):=by
 refine⟨s[i]'(by omega),ζd (by omega),?_⟩
 unfold wSet
 rw[show (decide (0≤(i:Int))&&decide ((i:Int) < (m:Int)))=true from by simp;omega,cond_true,ζz,ζd (by omega)]
theorem wAll_eq{m:Nat}:∀(l:List F9) (s:List Q6),s.length=m→(∀e,e∈l→∃i:Nat,e.fv=(i:Int)∧i < m)→
  ∃r,wAll m l s=some r∧r.length=m∧∀(i:Nat) (x:Q6),s[i]?=some x→r[i]?=some (if ∃e,e∈l∧e.fv=(i:Int) then ⟨x.fH,x.fJ,x.ft,1⟩ else x)
 | [],s,hs,_=>⟨s,rfl,hs,fun i x h=>by simpa using h⟩
 | e :: l,s,hs,h=>by
  obtain⟨k,e1,e2⟩:=h e (by simp)
  obtain⟨y,y1,y2⟩:=wSet_eq hs e2
  obtain⟨r,r1,r2,r3⟩:=wAll_eq l (s.set k ⟨y.fH,y.fJ,y.ft,1⟩) (by rw[ζI];exact hs) (fun e' he=>h e' (by simp[he]))
  refine⟨r,?_,r2,fun i x hx=>?_⟩
  ·show G6 (fun x s=>wSet m x.fv s) (e :: l) s=some r
   unfold G6
   rw[e1,y2]
   exact r1
  ·by_cases hik:k=i
   ·subst hik
    rw[y1] at hx
    obtain rfl:=ζR hx
    have:=r3 k ⟨y.fH,y.fJ,y.ft,1⟩ (ζj (by omega))
    rw[this,if_pos (⟨e,by simp,e1⟩:∃e',e'∈e :: l∧e'.fv=(k:Int))]
    split<;>rfl
   ·have:=r3 i x (by rw[ζk hik];exact hx)
    rw[this]
    congr 1
    have:(∃e',e'∈l∧e'.fv=(i:Int))↔(∃e',e'∈e :: l∧e'.fv=(i:Int)):=by
     constructor
     ·rintro⟨e',q1,q2⟩;exact⟨e',by simp[q1],q2⟩
     ·rintro⟨e',q1,q2⟩
      rcases ζv.1 q1 with rfl|q1
      ·rw[e1] at q2;omega
      ·exact⟨e',q1,q2⟩
    simp only[this]
end Go.Proofs.YtjpahkpfkohfkaaGreatDoor
namespace Go.Proofs.YtjpahkpfkohfkaaGreatDoor
open Go Go.EV
theorem likeE_iff{a:SLike}{e:O2}:((decide (a.fL.fe=e.fk.fL.fe))&&((a.fL.fh==e.fk.fL.fh)&&((decide (a.fM.fe=e.fk.fM.fe))&&((a.fM.fh==e.fk.fM.fh)&&((a.gg==e.fk.gg)&&true)))))=true↔a=e.fk:=likeP_iff
theorem okCOMPW(l:Y3)(x:Q6)(h:InB l x):SOk (s84 (U0.mk l) x) (fun _=>True):=by
 show Ok (g84 (U0.mk l) x) _
 unfold g84
 exact Ok.r h.lc h.loc (Ok.d trivial)
theorem mlook_mem{α υ:Type}{l:List α}{p:α→Bool}{fv:α→υ}(d:υ)(h:(l.findIdx? p).isSome=true):∃e,e∈l∧K8 l p fv d=fv e:=by
 unfold K8
 cases hf:l.findIdx? p with
 | none=>rw[hf] at h;cases h
 | some j=>
  obtain⟨h1,_,_⟩:=List.findIdx?_eq_some_iff_getElem.1 hf
  exact⟨l[j],List.getElem_mem h1,by simp only[ζd h1]⟩
theorem fits_at{Z:Y3}{x:Q6}(h:x∈fitsL Z Z.fu.length):InB Z x∧FitP (V3 Z x) (remC Z x)∧x.ft=prio Z x∧x.fD=0:=by
 obtain⟨i,j,h1,h2,h3,rfl⟩:=fitsL_mem.1 h
 obtain⟨a,b,ha,hb,hf⟩:=h3
 refine⟨⟨⟨by show (0:Int)≤(i:Int);omega,by show (i:Int) < _;omega⟩,⟨by show (0:Int)≤(j:Int);omega,by show (j:Int) < _;omega⟩⟩,?_,rfl,rfl⟩
 have e1:V3 Z (mkP Z i j)=a:=by unfold V3 mkP;simp only[ζz];rw[ha];rfl
 have e2:remC Z (mkP Z i j)=b:=by unfold remC mkP;simp only[ζz];rw[hb];rfl
 rw[e1,e2];exact hf
structure MadeW(Z:Y3)(ps:List Q6):Prop where
 len:ps.length≤36
 pair:∀x,x∈ps→InB Z x∧FitP (V3 Z x) (remC Z x)∧x.ft=prio Z x∧(x.fD=0∨x.fD=1)
 nodup:(ps.map (A2 Z)).Nodup
def PrunedW(Z:Y3)(S M:List Q6):Prop:=(∀x,x∈M→x∈S)∧M.length≤36∧(M.map (A2 Z)).Nodup
theorem okMAKEW(l r:List Q2)(c:Bool)(hl:l.length≤12∧H9 l)(hr:r.length≤12∧H9 r):SOk (s33 l r c) (fun e=>∃ps,e=(⟨c,l,r,ps⟩,0)∧MadeW ⟨c,l,r,[]⟩ ps):=by
 have cl:∀q:List Q2,q.length≤12→SOk (s77 q) (fun _=>True):=fun q hq=>by
  show Ok (g77 q) _
  unfold g77
  exact Ok.app (by simp;omega) (Ok.d trivial)
 show Ok (g33 l r c) _
 unfold g33
 simp only[E7]
 refine Ok.n (R:=fun b=>b=false) (Ok.f (ξs (by omega)) (Ok.d (ξs (by omega)))) fun b hb=>Ok.f hb ?_
 refine Ok.n (R:=fun b=>b=false) (Ok.c (okCANDS l (by omega)) fun a ha=>Ok.f (by rw[ha.2 hl.2];rfl) (Ok.c (okCANDS r (by omega)) fun a2 ha2=>Ok.d (by rw[ha2.2 hr.2];rfl))) fun b hb=>Ok.f hb ?_
 have hF:(fitsL ⟨c,l,r,[]⟩ l.length).length≤l.length * r.length:=fitsL_len (Z:=⟨c,l,r,[]⟩) l.length
 have hF2:l.length * r.length≤12 * 12:=Nat.mul_le_mul (by omega) (by omega)
 refine Ok.c (cl l hl.1) fun _ _=>Ok.c (cl r hr.1) fun _ _=>Ok.g (Ok.g (Ok.g (Ok.g (Ok.sub (S:=subPairs c l r) (pairsM_eq c l r hl.2 hr.2 (by omega) (by omega)) ?_))))
 refine Ok.c (okSORTW _ (by omega)) fun S hS=>Ok.o rfl (Ok.g ?_)
 have hSl:S.length=(fitsL ⟨c,l,r,[]⟩ l.length).length:=hS.length_eq
 have hSA:∀x,x∈S→InB ⟨c,l,r,[]⟩ x∧FitP (V3 ⟨c,l,r,[]⟩ x) (remC ⟨c,l,r,[]⟩ x)∧x.ft=prio ⟨c,l,r,[]⟩ x∧x.fD=0:=fun x hx=>fits_at (Z:=⟨c,l,r,[]⟩) (hS.mem_iff.1 hx)
 rw[←hSl]
 refine Ok.b (R:=PrunedW ⟨c,l,r,[]⟩ S) ?_ fun M hM=>?_
 ·refine Ok.s S.length (by omega) (fun k y=>y.2.2=(k:Int)∧PrunedW ⟨c,l,r,[]⟩ S y.2.1∧R0 O2.fk O2.fv y.1 (y.2.1.map (A2 ⟨c,l,r,[]⟩))) ⟨rfl,⟨fun x h=>by simp at h,Nat.zero_le _,List.nodup_nil⟩,R0.nil _ _⟩ (fun k y hy hk=>?_) (fun y hy=>?_)
  ·obtain⟨y1,y2,y3⟩:=y
   obtain⟨hi,hp,hs⟩:=hy
   simp only at hi hp hs
   subst hi
   obtain⟨p1,p2,p3⟩:=id hp
   obtain⟨x,hx1,hx2⟩:=A6 hk
   have hxm:=ζi hx2
   have hxI:=(hSA x hxm).1
   refine Ok.t (by simp;omega) (Ok.k (by simp;omega) (Ok.r rfl (by rw[ξv];exact hx1) (Ok.e (fun _=>Ok.d hp) (fun h3=>?_))))
   have h36:y2.length < 36:=by
    rw[ζY] at h3;have h3':(y2.length:Int)≠36:=h3;omega
   refine Ok.v (okLIKE _ x hxI) fun q hq=>Ok.o rfl (Ok.e (fun h4=>Ok.d ⟨J9 hk (by omega),hp,hs⟩) (fun h4=>?_))
   have hqk:q=A2 ⟨c,l,r,[]⟩ x:=hq
   refine Ok.v (okLIKE _ x hxI) fun q2 hq2=>Ok.o rfl (Ok.app (by simp;omega) (Ok.g (Ok.g (Ok.d ?_))))
   have hq2k:q2=A2 ⟨c,l,r,[]⟩ x:=hq2
   refine⟨J9 hk (by omega),⟨fun z hz=>?_,?_,?_⟩,?_⟩
   ·rcases ζr.1 hz with hz|hz
    ·exact p1 z hz
    ·simp only[ζu] at hz;subst hz;exact hxm
   ·show (y2++[x]).length≤36
    rw[ζn];simp only[ξj,List.length_nil];omega
   ·show ((y2++[x]).map (A2 _)).Nodup
    rw[ζp]
    refine nodup_app.2 ⟨p3,fun hm=>?_⟩
    have:=(hs.look (x:=q) (fun e=>likeE_iff)).2 (by rw[hqk];exact hm)
    rw[this] at h4;cases h4
   ·show R0 _ _ _ ((y2++[x]).map (A2 _))
    rw[ζp,←show [q2]=[x].map (A2 ⟨c,l,r,[]⟩) from by rw[hq2k];rfl]
    exact hs.put (x:=q2) (fun e=>likeE_iff) rfl rfl
  ·obtain⟨y1,y2,y3⟩:=y
   obtain⟨hi,hp,hs⟩:=hy
   simp only at hi hp
   subst hi
   exact Ok.f (by simp) (Ok.d hp)
 ·obtain⟨p1,p2,p3⟩:=hM
  have hMI:∀x,x∈M→∀L,InB ⟨c,l,r,L⟩ x:=fun x hx L=>(hSA x (p1 x hx)).1
  refine Ok.o rfl (Ok.b (R:=fun e=>∀d,d∈e→∃i:Nat,d.fv=(i:Int)∧i < M.length) ?_ fun e he=>?_)
  ·refine Ok.s M.length (by omega) (fun k y=>y.2=(k:Int)∧∀d,d∈y.1→∃i:Nat,d.fv=(i:Int)∧i < M.length) ⟨rfl,fun d hd=>by simp at hd⟩ (fun k y hy hk=>?_) (fun y hy=>?_)
   ·obtain⟨y1,y2⟩:=y
    obtain⟨hi,hm⟩:=hy
    simp only at hi hm
    subst hi
    obtain⟨x,hx1,hx2⟩:=A6 hk
    have hxI:=hMI x (ζi hx2)
    refine Ok.t (by simp;omega) (Ok.k (by simp;omega) (Ok.r rfl (by rw[ξv];exact hx1) (Ok.v (okFOUND _ x (hxI _)) fun q hq=>Ok.o rfl ?_)))
    refine Ok.n (R:=fun _=>True) (Ok.e (fun _=>Ok.d trivial) (fun h3=>?_)) fun b _=>Ok.e (fun _=>Ok.o rfl (Ok.d ⟨J9 hk (by omega),fun d hd=>?_⟩)) fun _=>Ok.d ⟨J9 hk (by omega),hm⟩
    ·simp only[ζC] at h3
     obtain⟨d,d1,d2⟩:=mlook_mem (fv:=fun x:F9=>x.fv) (0:Int) h3
     obtain⟨i,i1,i2⟩:=hm d d1
     obtain⟨z,hz⟩:∃z,M[i]?=some z:=⟨_,ζd i2⟩
     rw[d2,i1]
     exact Ok.v (okCOMPW _ x (hxI _)) fun _ _=>Ok.k (by simp;omega) (Ok.r rfl (by rw[ξv,ζz];exact hz) (Ok.v (okCOMPW _ z (hMI z (ζi hz) _)) fun _ _=>Ok.d trivial))
    ·rcases mput_mem hd with rfl|hd
     ·exact⟨k,rfl,hk⟩
     ·exact hm d hd
   ·obtain⟨y1,y2⟩:=y
    obtain⟨hi,hm⟩:=hy
    simp only at hi hm
    subst hi
    exact Ok.f (by simp) (Ok.d hm)
  ·obtain⟨ps,w1,w2,w3⟩:=wAll_eq (m:=M.length) e M rfl he
   refine Ok.g (Ok.g (Ok.sub (S:=subWait c l r M.length e M) w1 (Ok.g (Ok.g (Ok.g (Ok.d ⟨ps,?_,?_,?_,?_⟩))))))
   ·rw[List.take_of_length_le (by omega)]
   ·omega
   ·intro y hy
    obtain⟨i,hi⟩:=ζh.1 hy
    have il:=(ζe.1 hi).1
    obtain⟨x,hx⟩:∃x,M[i]?=some x:=⟨_,ζd (by omega)⟩
    have h3:=w3 i x hx
    rw[hi] at h3
    have hy2:=ζR h3
    obtain⟨a1,a2,a3,a4⟩:=hSA x (p1 x (ζi hx))
    split at hy2
    ·subst hy2;exact⟨a1,a2,a3,.inr rfl⟩
    ·subst hy2;exact⟨a1,a2,a3,.inl a4⟩
   ·have:ps.map (A2 ⟨c,l,r,[]⟩)=M.map (A2 ⟨c,l,r,[]⟩):=by
     refine List.ext_getElem? fun i=>?_
     rw[ζo,ζo]
     cases hx:M[i]? with
     | none=>
      rw[List.getElem?_eq_none_iff] at hx
      rw[ξn (by omega)]
     | some x=>
      rw[w3 i x hx]
      split<;>rfl
    rw[this];exact p3
theorem okC11(l:List SDraft)(hl:∀d,d∈l→DraftOk d):SOk (s10 l 6) (fun r=>r.length≤6∧H9 r∧OneC r):=by
 unfold s10
 refine SOk.d ?_
 unfold g10
 simp only[E7]
 have m7:∀{n:Int},0≤n→0≤Int.tmod n 7∧Int.tmod n 7≤255:=fun {n} h=>by rw[Int.tmod_eq_emod_of_nonneg h];omega
 refine Ok.g (Ok.b (R:=fun r=>r.length≤6∧H9 r∧OneC r) ?_ fun e he=>Ok.g (Ok.d he))
 refine Ok.s 6 (by omega) (fun k y=>y.2=(k:Int)∧y.1.length=k∧H9 y.1∧OneC y.1) ⟨rfl,rfl,fun c h=>by simp at h,fun c h=>by simp at h⟩ (fun k y hy hk=>?_) (fun y hy=>?_)
 ·obtain⟨y1,y2⟩:=y
  obtain⟨hi,hs,ho,h1⟩:=hy
  simp only at hi hs ho h1
  subst hi
  refine Ok.n (R:=fun c=>c=true→k < l.length) (Ok.e (fun h1=>Ok.d fun _=>by simpa using h1) (fun h1=>Ok.d fun h=>by cases h)) fun c hc=>Ok.e (fun h=>?_) (fun h=>Ok.d ⟨by show y1.length≤6;omega,ho,h1⟩)
  obtain⟨x,hx1,hx2⟩:=A6 (hc h)
  obtain⟨hK,hC,hA,hB,hS,hP⟩:=hl x (ζi hx2)
  have hd:DraftOk ⟨x.fy,0,Int.tmod x.fG 7,Int.tmod x.fT 7,Int.tmod x.gu 7,x.gn⟩:=⟨hK,⟨by show (0:Int)≤0;omega,by show (0:Int)≤255;omega⟩,m7 hA.1,m7 hB.1,m7 hS.1,hP⟩
  refine Ok.r (by simp) hx1 (Ok.c (okDCANDH _ hd) fun r hr=>Ok.app (by simp[hs];omega) (Ok.g (Ok.g (Ok.d ⟨J9 hk (by omega),by simp[hs],fun c hc=>?_,fun c hc=>?_⟩))))
  ·rcases ζr.1 hc with hc|hc
   ·exact ho c hc
   ·simp only[ζu] at hc;subst hc;exact hr.1
  ·rcases ζr.1 hc with hc|hc
   ·exact h1 c hc
   ·simp only[ζu] at hc;subst hc;exact hr.2
 ·obtain⟨y1,y2⟩:=y
  obtain⟨hi,hs,ho,h1⟩:=hy
  simp only at hi hs ho h1
  subst hi
  refine Ok.n (R:=fun c=>c=false) (Ok.e (fun h1=>Ok.d (by simp)) (fun h1=>Ok.d rfl)) fun c hc=>?_
  subst hc
  exact Ok.f rfl (Ok.d ⟨by show y1.length≤6;omega,ho,h1⟩)
theorem okV34z{n:Int}{ctl:Bool}{a:Y0}(h:AInv n ctl a):SOk (s34 a.fc.fo a.fc.fu a.fc.fw a.fc.fm a.fC a.fP a.fK a.fI a.fV a.fQ) (fun r=>r=true):=by
 obtain⟨z1,z2,z3,z4,z5,z6,z7,z8⟩:=h.sz
 have h1:=h.tie
 have h2:=h.now
 have h3:=h.next
 have h4:=h.cho
 unfold s34
 refine SOk.d ?_
 unfold g34
 simp only[E7]
 refine Ok.n (R:=fun c=>c=false) ?_ fun c hc=>?_
 ·refine Ok.c (okVLIST _ h.list) fun r hr=>Ok.f (by rw[hr];rfl) (Ok.c (okONE _ h.one.1 (by omega)) fun r1 e1=>Ok.f (by rw[e1];rfl) (Ok.c (okONE _ h.one.2 (by omega)) fun r2 e2=>Ok.d (by rw[e2];rfl)))
 ·subst hc
  refine Ok.f rfl (Ok.n (R:=fun c=>c=false) ?_ fun c hc=>?_)
  ·refine Ok.c (okW39 _ _ _ (by omega)) fun r1 e1=>Ok.f (by rw[e1];rfl) (Ok.c (okW39 _ _ _ (by omega)) fun r2 e2=>Ok.f (by rw[e2];rfl) (Ok.c (okW39 _ _ _ (by omega)) fun r3 e3=>Ok.f (by rw[e3];rfl) (Ok.c (okW39 _ _ _ (by omega)) fun r4 e4=>Ok.f (by rw[e4];rfl) (Ok.f ?_ (Ok.c (okW39 _ _ _ ?_) fun r5 e5=>Ok.d (by rw[e5];rfl))))))
   ·rw[h.nm,ζH];simp
   ·rw[Z6 (by omega) (by omega)];omega
  ·subst hc
   refine Ok.f rfl (Ok.n (R:=fun c=>c=false) (Ok.f (ξs (by omega)) (Ok.d rfl)) fun c hc=>?_)
   subst hc
   exact Ok.f rfl (Ok.ff (Ok.c (R:=fun r=>r=true) ⟨_,rfl,rfl⟩ fun r hr=>Ok.d hr))
theorem okNEW9(l r:List Q2)(c:Bool)(tie:Int)(hl:l.length≤6∧H9 l∧OneC l)(hr:r.length≤6∧H9 r∧OneC r)(ht:0≤tie∧tie≤255) :
  SOk (s9 l r c tie 0) (fun e=>e.2=0∧AInv (e.1.fc.fm.length:Int) c e.1∧e.1.fI=0∧e.1.fA=[]∧e.1.fP=0∧e.1.fK=0):=by
 unfold s9
 refine SOk.d ?_
 unfold g9
 refine Ok.c (okMAKEW l r c ⟨by omega,hl.2.1⟩ ⟨by omega,hr.2.1⟩) fun e he=>?_
 obtain⟨ps,rfl,sh⟩:=he
 have hv:X6 ⟨c,l,r,ps⟩:=⟨⟨by show l.length≤12;omega,by show r.length≤12;omega,sh.len,hl.2.1,hr.2.1⟩,fun x hx=>by
  obtain⟨q1,q2,q3,q4⟩:=sh.pair x hx
  exact⟨q1,by omega,q2,q3⟩,sh.nodup⟩
 have hinv:AInv (ps.length:Int) c ⟨⟨c,l,r,ps⟩,tie,0,0,0,-1,[],List.replicate ps.length false,[]⟩:=
  ⟨hv,⟨hl.2.2,hr.2.2⟩,rfl,ht,⟨ζL _,by show (0:Int)≤3050 * (ps.length:Int);omega⟩,⟨ζL _,by show (0:Int)≤3050 * 0;decide⟩,rfl,rfl,rfl,
   ⟨fun d hd=>by simp at hd,fun j k a b _ ha=>by simp at ha,fun x hx=>by have:=(sh.pair x hx).2.2.2;unfold StP;omega,fun i x hx=>by
    have:=(sh.pair x (ζi hx)).2.2.2
    exact⟨fun e=>by omega,fun⟨d,hd,_⟩=>by simp at hd⟩,rfl,by
    show (0:Int)=_
    have:ps.countP B8=0:=List.countP_eq_zero.2 fun x hx=>by
     have:=(sh.pair x hx).2.2.2
     unfold B8
     rcases this with e|e<;>rw[e]<;>decide
    rw[this];rfl⟩⟩
 have hn:ps.length≤36:=sh.len
 refine Ok.f rfl ?_
 simp only[E7,ζz]
 refine Ok.o (r:=()) ?_ (Ok.g (Ok.v (okV34z hinv) fun b hb=>Ok.f (by rw[hb];rfl) (Ok.g (Ok.d ⟨rfl,hinv,rfl,rfl,rfl,rfl⟩))))
 show (bif decide (0≤(ps.length:Int))&&decide ((ps.length:Int)≤(ps.length:Int))&&decide (1 * ((ps.length:Int)).toNat≤281474976710656)&&decide ((ps.length:Int)≤9223372036854775807) then some () else none)=some ()
 rw[ξr (by omega),ξr (by omega),ξr (by omega),ξr (by omega)];rfl
theorem Tot.rng{ser n now:Int}{ctl:Bool}{ps:List Q6}{L:List Q8}(h:CkI ser n now ctl ps L){id v:Int}(hv:Tot ser L id v):0≤v∧v≤4∧(1≤v↔0≤id∧id < ser):=by
 rcases hv with⟨v1,rfl⟩|⟨c,c1,rfl,rfl⟩|⟨v1,_,rfl⟩
 ·omega
 ·have p1:=(h.each c c1).1
  have p3:=(h.each c c1).2.2.1
  omega
 ·omega
theorem Tot.one{ser n now:Int}{ctl:Bool}{ps:List Q6}{L:List Q8}(h:CkI ser n now ctl ps L){id v w:Int}(hv:Tot ser L id v)(hw:Tot ser L id w):v=w:=by
 rcases hv with⟨v1,rfl⟩|⟨c,c1,rfl,rfl⟩|⟨v1,v2,rfl⟩<;>rcases hw with⟨w1,rfl⟩|⟨d,d1,d2,rfl⟩|⟨w1,w2,rfl⟩
 ·rfl
 ·have p1:=(h.each d d1).1
  omega
 ·omega
 ·have p1:=(h.each c c1).1
  omega
 ·obtain⟨j,hj⟩:=ζh.1 c1
  obtain⟨k,hk⟩:=ζh.1 d1
  have:=h.same_id hj hk d2.symm
  subst this
  rw[hj] at hk;rw[ζR hk]
 ·exact absurd rfl (w2 c c1)
 ·omega
 ·exact absurd d2 (v2 d d1)
 ·rfl
theorem Tot.ex(ser:Int)(L:List Q8)(id:Int):∃v,Tot ser L id v:=by
 by_cases h1:∃c,c∈L∧c.fp=id
 ·obtain⟨c,c1,c2⟩:=h1
  exact⟨_,.inr (.inl ⟨c,c1,c2,rfl⟩)⟩
 ·by_cases h2:0≤id∧id < ser
  ·exact⟨4,.inr (.inr ⟨h2,fun c hc e=>h1 ⟨c,hc,e⟩,rfl⟩)⟩
  ·exact⟨0,.inl ⟨by omega,rfl⟩⟩
theorem mlook_none{α κ υ:Type}{fk:α→κ}{fv:α→υ}{l:List α}{V:κ→υ→Prop}(h:R5 fk fv l V){p:α→Bool}{x:κ}(hp:∀e,p e=true↔x=fk e)(d:υ)(hn:¬∃v,V x v):K8 l p fv d=d:=by
 have h1:=(h.find hp d).1
 unfold K8
 cases hf:l.findIdx? p with
 | none=>rfl
 | some j=>rw[hf] at h1;exact absurd (h1.1 rfl) hn
theorem R5.iff{α κ υ:Type}{fk:α→κ}{fv:α→υ}{l:List α}{V W:κ→υ→Prop}(h:R5 fk fv l V)(hw:∀z v,W z v↔V z v):R5 fk fv l W:=⟨h.nodup,fun z v=>(hw z v).trans (h.val z v)⟩
theorem akey_iff{a:Int}{e:U3}:(a==e.fk)=true↔a=e.fk:=beq_iff_eq
def AskV(a:Y0)(o:List Y6)(z v:Int):Prop:=∃v0,Tot a.fI a.fA z v0∧v=v0+cnt z o∧1≤v
theorem cnt_low(z:Int)(o:List Y6):0≤cnt z o∧cnt z o≤o.length:=by
 unfold cnt
 have:=List.countP_le_length (p:=fun h:Y6=>h.fj.fp==z) (l:=o)
 omega
theorem ask_put{n:Int}{ctl:Bool}{a:Y0}(h:AInv n ctl a){o:List Y6}{x:Y6}{m:List U3}(hm:R5 U3.fk U3.fv m (AskV a o))(ho:o.length≤1000) :
  R5 U3.fk U3.fv (mput m (fun e=>(x.fj.fp==e.fk)) (U3.mk x.fj.fp (Q4 ((K8 m (fun e=>(x.fj.fp==e.fk)) (fun e=>e.fv) 0)+1)))) (AskV a (o++[x])):=by
 obtain⟨v0,hv0⟩:=Tot.ex a.fI a.fA x.fj.fp
 have r0:=hv0.rng h.ck
 have c0:=cnt_low x.fj.fp o
 have e:K8 m (fun e=>(x.fj.fp==e.fk)) (fun e=>e.fv) 0=v0+cnt x.fj.fp o:=by
  by_cases h1:1≤v0+cnt x.fj.fp o
  ·exact(hm.find (fun e=>akey_iff) 0).2 _ ⟨v0,hv0,rfl,h1⟩
  ·have:v0+cnt x.fj.fp o=0:=by omega
   rw[this]
   refine mlook_none hm (fun e=>akey_iff) 0 fun⟨v,w0,hw0,e1,e2⟩=>?_
   have:=hw0.one h.ck hv0
   omega
 rw[e,Z6 (by omega) (by omega)]
 refine(hm.put (x:=x.fj.fp) (fun e=>akey_iff) rfl).iff fun z v=>?_
 unfold AskV
 constructor
 ·rintro⟨w0,hw0,e1,e2⟩
  rw[cnt_snoc] at e1
  by_cases hz:z=x.fj.fp
  ·subst hz
   rw[if_pos rfl] at e1
   have:=hw0.one h.ck hv0
   exact .inl ⟨rfl,by show v=v0+cnt x.fj.fp o+1;omega⟩
  ·rw[if_neg hz] at e1
   exact .inr ⟨hz,w0,hw0,by omega,e2⟩
 ·rintro(⟨rfl,e1⟩|⟨hz,w0,hw0,e1,e2⟩)
  ·have e1:v=v0+cnt x.fj.fp o+1:=e1
   exact⟨v0,hv0,by rw[cnt_snoc,if_pos rfl];omega,by omega⟩
  ·exact⟨w0,hw0,by rw[cnt_snoc,if_neg hz];omega,e2⟩
theorem ask_next{n:Int}{ctl:Bool}{a b:Y0}{o:List Y6}{m:List U3}(hb:AInv n ctl b)(ht:∀id v,Tot a.fI a.fA id v→Tot b.fI b.fA id (v+cnt id o))(hm:R5 U3.fk U3.fv m (AskV a o)):R5 U3.fk U3.fv m (AskV b []):=
 hm.iff fun z v=>by
  unfold AskV
  rw[cnt_nil]
  constructor
  ·rintro⟨w,hw,e1,e2⟩
   obtain⟨v0,hv0⟩:=Tot.ex a.fI a.fA z
   have:=(ht z v0 hv0).one hb.ck hw
   exact⟨v0,hv0,by omega,e2⟩
  ·rintro⟨v0,hv0,e1,e2⟩
   exact⟨_,ht z v0 hv0,by omega,e2⟩
theorem ask_end{n:Int}{ctl:Bool}{a:Y0}(h:AInv n ctl a)(h1:a.fA=[])(h2:a.fI=n){m:List U3}(hm:R5 U3.fk U3.fv m (AskV a [])):(m.length:Int)=n∧askM m=some ():=by
 have hv:∀z v,AskV a [] z v↔(0≤z∧z < n)∧v=4:=fun z v=>by
  unfold AskV Tot
  rw[cnt_nil,h1,h2]
  constructor
  ·rintro⟨w,hw|⟨c,hc,_⟩|⟨w1,_,rfl⟩,e1,e2⟩
   ·omega
   ·simp at hc
   ·exact⟨w1,by omega⟩
  ·rintro⟨z1,rfl⟩
   exact⟨4,.inr (.inr ⟨z1,fun c hc=>by simp at hc,rfl⟩),by omega,by omega⟩
 have h4:∀e,e∈m→e.fv=4:=fun e he=>((hv _ _).1 ((hm.val e.fk e.fv).2 ⟨e,he,rfl,rfl⟩)).2
 have n0:0≤n:=by rw[h.ck.len];omega
 constructor
 ·have hp:(m.map U3.fk).Perm ((List.range n.toNat).map (fun i:Nat=>(i:Int))):=by
   refine(List.perm_ext_iff_of_nodup hm.nodup ?_).2 fun z=>?_
   ·exact List.pairwise_map.2 (List.nodup_range.imp fun h e=>h (Int.ofNat.inj e))
   ·rw[ζt,ζt]
    constructor
    ·rintro⟨e,e1,rfl⟩
     have:=(hv _ _).1 ((hm.val e.fk e.fv).2 ⟨e,e1,rfl,rfl⟩)
     exact⟨e.fk.toNat,List.mem_range.2 (by omega),by omega⟩
    ·rintro⟨i,i1,rfl⟩
     have:=List.mem_range.1 i1
     obtain⟨e,e1,e2,_⟩:=(hm.val (i:Int) 4).1 ((hv _ _).2 ⟨⟨by omega,by omega⟩,rfl⟩)
     exact⟨e,e1,e2⟩
  have:=hp.length_eq
  rw[ζs,ζs,List.length_range] at this
  omega
 ·have:∀l:List U3,(∀e,e∈l→e.fv=4)→G6 askB l ()=some ():=by
   intro l
   induction l with
   | nil=>intro _;rfl
   | cons e l ih=>
    intro hl
    show (askB e ()).bind (G6 askB l)=some ()
    have:askB e ()=some ():=if_pos (hl e (by simp))
    rw[this]
    exact ih fun e he=>hl e (by simp[he])
  exact this m h4
structure RndI(n:Int)(ctl:Bool)(a:Y0)(m:List U3)(np lim i:Int):Prop where
 inv:AInv n ctl a
 rdy:E6 a.fc→a.fP≤a.fK
 ask:R5 U3.fk U3.fv m (AskV a [])
 num:np=n∧lim=5 * n+1∧0≤i∧i+(leftA n a:Int)≤5 * n
theorem okFAILS(d:SDraft1)(hw:SOk s8 (fun r=>r=true))(hl:∀x,x∈d.fu→DraftOk x)(hr:∀x,x∈d.fw→DraftOk x)(ht:0≤d.fC∧d.fC≤255):SOk (s3 d) (fun r=>r=true):=by
 unfold s3
 refine SOk.d ?_
 unfold g3
 rw[Z6 (n:=d.fC) (by omega) (by omega)]
 refine Ok.c hw fun w e=>Ok.f (by rw[e];rfl) (Ok.c (okC11 _ hl) fun ls h1=>Ok.c (okC11 _ hr) fun rs h2=>Ok.c (okNEW9 ls rs _ _ h1 h2 ht) fun a0 ha=>?_)
 obtain⟨a0,e0⟩:=a0
 obtain⟨rfl,hinv,q1,q2,q3,q4⟩:=ha
 simp only at hinv q1 q2 q3 q4
 generalize hn:(a0.fc.fm.length:Int)=n at hinv
 have hz:=hinv.sz
 simp only[E7]
 refine Ok.n (R:=fun c=>c=false) (Ok.f rfl (Ok.d ?_)) fun c hc=>Ok.f hc (Ok.o rfl ?_)
 ·rw[hinv.nm,ζH];simp
 rw[hn,Z6 (n:=5 * n) (by omega) (by omega),Z6 (n:=5 * n+1) (by omega) (by omega)]
 refine Ok.p (R:=fun e=>match e with|.inl e=>(∃(a:Y0) (m:List U3),e=(m,a.fc.fo,a.fc.fu,a.fc.fw,a.fc.fm,a.fC,a.fP,a.fK,a.fI,a.fV,a.fN,a.fQ,a.fA,n)∧AInv n d.fo a∧a.fA=[]∧¬E6 a.fc∧R5 U3.fk U3.fv m (AskV a []))|.inr _=>False) ?_ (fun e he=>?_) (fun e he=>he.elim)
 ·refine Ok.lp (fun y=>RndI n d.fo (Y0.mk (Y3.mk y.1 y.2.1 y.2.2.1 y.2.2.2.1) y.q.1 y.q.2.1 y.q.2.2.1 y.q.2.2.2.1 y.q.q.1 y.q.q.2.1 y.q.q.2.2.1 y.q.q.2.2.2.1) y.q.q.q.1 y.q.q.q.2.1 y.q.q.q.2.2.1 y.q.q.q.2.2.2)
   (fun y=>leftA n (Y0.mk (Y3.mk y.1 y.2.1 y.2.2.1 y.2.2.2.1) y.q.1 y.q.2.1 y.q.2.2.1 y.q.2.2.2.1 y.q.q.1 y.q.q.2.1 y.q.q.2.2.1 y.q.q.2.2.2.1)) ?_ ?_ fun y hy=>?_
  ·have hl0:leftA n a0=(5 * n).toNat:=by unfold leftA;rw[q1,q2,Int.sub_zero];rfl
   refine⟨hinv,fun _=>?_,⟨List.nodup_nil,fun z v=>⟨fun⟨v0,hv0,e1,e2⟩=>?_,fun⟨e,he,_⟩=>by simp at he⟩⟩,rfl,rfl,ζL _,?_⟩
   ·show a0.fP≤a0.fK
    rw[q3,q4];exact ζL _
   ·have r:=hv0.rng hinv.ck
    rw[cnt_nil] at e1
    have:=r.2.2.1 (by omega)
    omega
   ·show (0:Int)+(leftA n a0:Int)≤5 * n
    rw[hl0];omega
  ·have hl0:leftA n a0=(5 * n).toNat:=by unfold leftA;rw[q1,q2,Int.sub_zero];rfl
   show leftA n a0 < FUEL
   rw[hl0];exact M1 (by omega)
  ·obtain⟨c,ls2,rs2,ps,tie,now,next,ser,cho,q,nm,ck,m,np,lim,i⟩:=y
   generalize ha:(Y0.mk (Y3.mk c ls2 rs2 ps) tie now next ser cho q nm ck)=a at hy
   have hy:RndI n d.fo a m np lim i:=hy
   obtain⟨n1,n2,n3,n4⟩:=hy.num
   subst n1 n2
   refine Ok.t (ξr (by show i < 5 * np+1;omega)) ?_
   refine Ok.c (okWAKE hy.inv hy.rdy) fun t hwk=>Ok.e (fun e4=>Ok.d ?_) fun e4=>?_
   ·rw[beq_iff_eq] at e4
    rcases hwk with⟨_,w2,w3⟩|⟨w1,_⟩
    ·exact⟨a,m,by subst ha;rfl,hy.inv,w2,w3,hy.ask⟩
    ·rw[w1] at e4;exact absurd e4 (by decide)
   ·rw[ζY] at e4
    obtain⟨t,t0⟩:=t
    have w0:t0=0:=by
     rcases hwk with⟨w1,_⟩|⟨w1,_⟩
     ·exact absurd w1 e4
     ·exact w1
    subst w0
    have hwk2:=hwk
    obtain⟨t1,t2,t3,t4⟩:a.fP≤t∧(∀c,c∈a.fA→t≤c.gd)∧(E6 a.fc→t≤a.fK)∧((∃c,c∈a.fA∧c.gd=t)∨(E6 a.fc∧a.fK=t)):=by
     rcases hwk2 with⟨e,_⟩|⟨_,hw⟩
     ·exact absurd (show (0:Int)=4 from e) (by decide)
     ·exact hw
    have z:=hy.inv.sz
    have tb:t≤3050 * np:=by
     rcases t4 with⟨c,c1,c2⟩|⟨_,c2⟩
     ·obtain⟨p1,p2,p3,p4,p5,p6,p7⟩:=hy.inv.ck.each c c1
      have:=pw_le c.fU
      omega
     ·have:=hy.inv.next;omega
    refine Ok.c (okTIME hy.inv t hwk) fun b hb=>?_
    obtain⟨b,out,e⟩:=b
    obtain⟨rfl,binv,brdy,bleft,btot,bout⟩:=hb
    simp only at binv brdy bleft btot bout
    refine Ok.n (R:=fun c=>c=false) (Ok.f rfl (Ok.f rfl (Ok.c (okCHK13 binv) fun r hr=>Ok.f (by rw[hr];rfl) (Ok.f ?_ (Ok.d ?_))))) fun c2 hc2=>Ok.f hc2 ?_
    ·refine ξs ?_
     show ¬t < now
     have:a.fP=now:=by subst ha;rfl
     omega
    ·refine ξs ?_
     show ¬Q4 (np * 3050) < t
     rw[Z6 (by omega) (by omega)];omega
    refine Ok.p (R:=fun e=>match e with|.inl _=>False|.inr e=>∃m2,e=(m2,b.fc.fo,b.fc.fu,b.fc.fw,b.fc.fm,b.fC,b.fP,b.fK,b.fI,b.fV,b.fN,b.fQ,b.fA)∧R5 U3.fk U3.fv m2 (AskV a out)) ?_ (fun e he=>he.elim) (fun e he=>?_)
    ·refine Ok.s out.length (by omega) (fun k y=>y.2=(k:Int)∧R5 U3.fk U3.fv y.1 (AskV a (out.take k))) ⟨rfl,hy.ask⟩ (fun k y hy2 hk=>?_) (fun y hy2=>?_)
     ·obtain⟨m2,y2⟩:=y
      obtain⟨hi,hm⟩:=hy2
      simp only at hi hm
      subst hi
      obtain⟨x,hx1,hx2⟩:=A6 hk
      obtain⟨x3,x4,x5⟩:=bout.2 x (ζi hx2)
      refine Ok.t (by simp;omega) (Ok.r (by simp) hx1 (Ok.n (R:=fun c=>c=false) (Ok.f (by rw[x3];rfl) (Ok.f x4 (Ok.d (by rw[x5];simp)))) fun c3 hc3=>Ok.f hc3 (Ok.o rfl (Ok.o rfl (Ok.d ⟨J9 hk (by omega),?_⟩)))))
      rw[List.take_add_one,hx2]
      exact ask_put hy.inv hm (by rw[List.length_take];omega)
     ·obtain⟨m2,y2⟩:=y
      obtain⟨hi,hm⟩:=hy2
      simp only at hi hm
      subst hi
      rw[List.take_length] at hm
      exact Ok.f (by simp) (Ok.d ⟨m2,rfl,hm⟩)
    ·obtain⟨m2,rfl,hm⟩:=he
     refine Ok.d ⟨⟨binv,brdy,ask_next binv btot hm,rfl,rfl,?_,?_⟩,?_⟩
     ·show 0≤Q4 (i+1)
      rw[Z6 (by omega) (by omega)];omega
     ·show Q4 (i+1)+(leftA np b:Int)≤5 * np
      rw[Z6 (by omega) (by omega)];omega
     ·exact bleft
 ·obtain⟨a,m,rfl,hi,hck,hnr,hm⟩:=he
  obtain⟨k1,k2⟩:=ask_end hi hck (hi.over hck hnr).2 hm
  refine Ok.c (okPHASE hi hck hnr) fun r hr=>?_
  subst hr
  refine Ok.n (R:=fun c=>c=false) (Ok.f rfl (Ok.f rfl (Ok.o rfl (Ok.d ?_)))) fun c hc=>Ok.f hc (Ok.g (Ok.sub (S:=subAsk m) (r:=()) k2 (Ok.d rfl)))
  show ((m.length:Int) != n)=false
  rw[k1];simp
end Go.Proofs.YtjpahkpfkohfkaaGreatDoor
