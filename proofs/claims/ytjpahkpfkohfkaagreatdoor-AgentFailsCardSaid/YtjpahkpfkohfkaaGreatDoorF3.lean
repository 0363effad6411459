/- The value-level logic: a region that draws its order: if no two operations that the order leaves open get in each other's way, what the text's order ..; no conditions. -/
import Derived.Test.YtjpahkpfkohfkaaGreatDoorF2
import Derived.Orders
import Derived.KernelRfl
set_option linter.unusedVariables false
set_option linter.unusedSimpArgs false
namespace Go.EV
open Go
inductive Loc where
 | t (i:Nat)
 | b (i:Nat)
 deriving DecidableEq
inductive Wr where
 | t (i:Nat) (c:V)
 | b (i:Nat) (k:Option Blk)
def Wr.loc:Wr→Loc
 | .t i _=>.t i
 | .b i _=>.b i
def St.wr(st:St):Wr→St
 | .t i c=>st.setT i c
 | .b i (some k)=>st.setB i k
 | .b i none=>st.delB i
def St.app(st:St)(ws:List Wr):St:=ws.foldl St.wr st
def F2(a b:St):Loc→Prop
 | .t i=>a.t i=b.t i
 | .b i=>a.b i=b.b i∧a.u i=b.u i
theorem St.ext'{a b:St}(hn:a.n=b.n)(h:∀l,F2 a b l):a=b:=by
 cases a;cases b
 simp only at hn
 simp only[St.mk.injEq]
 exact⟨hn,funext fun i=>h (.t i),funext fun i=>(h (.b i)).1,funext fun i=>(h (.b i)).2⟩
theorem F2.trans{a b c:St}{l:Loc}(h:F2 a b l)(k:F2 b c l):F2 a c l:=by
 cases l with
 | t i=>exact Eq.trans (show a.t i=b.t i from h) k
 | b i=>exact⟨h.1.trans k.1,h.2.trans k.2⟩
theorem F2.symm{a b:St}{l:Loc}(h:F2 a b l):F2 b a l:=by
 cases l with
 | t i=>exact Eq.symm (show a.t i=b.t i from h)
 | b i=>exact⟨h.1.symm,h.2.symm⟩
theorem F2.refl(a:St)(l:Loc):F2 a a l:=by
 cases l with
 | t i=>rfl
 | b i=>exact⟨rfl,rfl⟩
theorem wr_n(st:St)(x:Wr):(st.wr x).n=st.n:=by
 cases x with
 | t=>rfl
 | b i k=>cases k<;>rfl
theorem app_n(ws:List Wr)(st:St):(st.app ws).n=st.n:=by
 induction ws generalizing st with
 | nil=>rfl
 | cons x ws ih=>exact(ih (st.wr x)).trans (wr_n st x)
theorem wr_other(st:St)(x:Wr){l:Loc}(h:x.loc≠l):F2 (st.wr x) st l:=by
 cases x with
 | t i c=>
  cases l with
  | t j=>show (if j=i then c else st.t j)=st.t j;rw[if_neg (fun e=>h (by simp[Wr.loc,e]))]
  | b j=>exact⟨rfl,rfl⟩
 | b i k=>
  cases l with
  | t j=>cases k<;>rfl
  | b j=>
   have hj:¬j=i:=fun e=>h (by simp[Wr.loc,e])
   cases k with
   | none=>exact⟨by show (if j=i then none else st.b j)=_;rw[if_neg hj],by show (if j=i then true else st.u j)=_;rw[if_neg hj]⟩
   | some k=>exact⟨by show (if j=i then some k else st.b j)=_;rw[if_neg hj],by show (if j=i then true else st.u j)=_;rw[if_neg hj]⟩
theorem wr_same(a b:St)(x:Wr):F2 (a.wr x) (b.wr x) x.loc:=by
 cases x with
 | t i c=>show (if i=i then c else a.t i)=(if i=i then c else b.t i);simp
 | b i k=>
  cases k with
  | none=>exact⟨by show (if i=i then none else a.b i)=(if i=i then none else b.b i);simp,by show (if i=i then true else a.u i)=(if i=i then true else b.u i);simp⟩
  | some k=>exact⟨by show (if i=i then some k else a.b i)=(if i=i then some k else b.b i);simp,by show (if i=i then true else a.u i)=(if i=i then true else b.u i);simp⟩
theorem wr_congr{a b:St}(x:Wr){l:Loc}(h:F2 a b l):F2 (a.wr x) (b.wr x) l:=by
 by_cases hl:x.loc=l
 ·rw[←hl];exact wr_same a b x
 ·exact(wr_other a x hl).trans (h.trans (wr_other b x hl).symm)
theorem app_congr(ws:List Wr){a b:St}{l:Loc}(h:F2 a b l):F2 (a.app ws) (b.app ws) l:=by
 induction ws generalizing a b with
 | nil=>exact h
 | cons x ws ih=>exact ih (wr_congr x h)
theorem L8(ws:List Wr)(st:St){l:Loc}(h:∀x,x∈ws→x.loc≠l):F2 (st.app ws) st l:=by
 induction ws generalizing st with
 | nil=>exact F2.refl _ _
 | cons x ws ih=>exact(ih (st.wr x) fun y hy=>h y (by simp[hy])).trans (wr_other st x (h x (by simp)))
def G1(ws:List Wr)(ls:List Loc):Bool:=ws.all fun x=>!ls.contains x.loc
theorem G8{ws:List Wr}{ls:List Loc}(h:G1 ws ls=true){l:Loc}(hl:l∈ls):∀x,x∈ws→x.loc≠l:=fun x hx e=>by
 have:=ζE.1 h x hx
 rw[e] at this
 simp[hl] at this
theorem app_comm{w1 w2:List Wr}(h:G1 w1 (w2.map Wr.loc)=true)(st:St):(st.app w1).app w2=(st.app w2).app w1:=by
 refine St.ext' (by simp[app_n]) fun l=>?_
 by_cases h2:l∈w2.map Wr.loc
 ·have k1:F2 ((st.app w1).app w2) (st.app w2) l:=app_congr w2 (L8 w1 st (G8 h h2))
  exact k1.trans (L8 w1 _ (G8 h h2)).symm
 ·have hw2:∀x,x∈w2→x.loc≠l:=fun x hx e=>h2 (ζt.2 ⟨x,hx,e⟩)
  exact(L8 w2 _ hw2).trans (app_congr w1 (L8 w2 st hw2).symm)
def A3(P:Program)(G:Nat→Option (List V))(ops:Array Oper)(i:Nat)(st:St)(R:List Loc)(ws:List Wr):Prop:=
 ∀st2:St,st2.n=st.n→(∀l,l∈R→F2 st st2 l)→StepV P G ops i st2 (st2.app ws)
abbrev J0:=List (List Loc×List Wr)
def J0.ws(p:J0)(i:Nat):List Wr:=(p.getD i ([],[])).2
def J0.rs(p:J0)(i:Nat):List Loc:=(p.getD i ([],[])).1
def J0.st(p:J0)(D:Nat→Bool)(st:St):Nat→St
 | 0=>st
 | n+1=>if D n then (J0.st p D st n).app (p.ws n) else J0.st p D st n
theorem J0.st_n(p:J0)(D:Nat→Bool)(st:St):∀n,(p.st D st n).n=st.n
 | 0=>rfl
 | n+1=>by
  simp only[J0.st]
  split
  ·rw[app_n];exact J0.st_n p D st n
  ·exact J0.st_n p D st n
theorem J0.st_congr(p:J0){D E:Nat→Bool}(st:St):∀n,(∀j,j < n→D j=E j)→p.st D st n=p.st E st n
 | 0,_=>rfl
 | n+1,h=>by
  simp only[J0.st]
  rw[h n (by omega),J0.st_congr p st n (fun j hj=>h j (by omega))]
theorem J0.agree(p:J0)(D:Nat→Bool)(st:St)(i:Nat){l:Loc}:∀n,(∀j,j < n→(j < i↔D j=true)∨∀x,x∈p.ws j→x.loc≠l)→F2 (p.st (fun j=>decide (j < i)) st n) (p.st D st n) l
 | 0,_=>F2.refl _ _
 | n+1,h=>by
  have ih:=J0.agree p D st i (l:=l) n (fun j hj=>h j (by omega))
  simp only[J0.st]
  rcases h n (by omega) with hd|ho
  ·by_cases hn:n < i
   ·rw[if_pos (by simpa using hn),if_pos (hd.1 hn)];exact app_congr _ ih
   ·rw[if_neg (by simpa using hn),if_neg (fun e=>hn (hd.2 e))];exact ih
  ·have k:∀s:St,F2 (s.app (p.ws n)) s l:=fun s=>L8 _ _ ho
   split<;>split
   ·exact app_congr _ ih
   ·exact(k _).trans ih
   ·exact ih.trans (k _).symm
   ·exact ih
theorem J0.insert(p:J0)(D:Nat→Bool)(st:St)(i:Nat)(hi:D i=false):∀n,i < n→(∀j,i < j→j < n→D j=true→G1 (p.ws j) ((p.ws i).map Wr.loc)=true)→
  (p.st D st n).app (p.ws i)=p.st (fun j=>D j || decide (j=i)) st n
 | 0,h,_=>by omega
 | n+1,h,hc=>by
  simp only[J0.st]
  by_cases hn:i=n
  ·subst hn
   rw[if_neg (by rw[hi];simp),if_pos (by simp)]
   congr 1
   exact J0.st_congr p st i fun j hj=>by simp;intro e;omega
  ·have ih:=J0.insert p D st i hi n (by omega) (fun j h1 h2 h3=>hc j h1 (by omega) h3)
   by_cases hd:D n=true
   ·rw[if_pos hd,if_pos (by simp[hd]),app_comm (hc n (by omega) (by omega) hd),ih]
   ·rw[if_neg hd,if_neg (by simp[hd];omega)];exact ih
def masks(ops:List Oper):List Nat:=ops.foldl (fun acc o=>acc++[o.after.toList.foldl (fun s e=>if Region.binds .any e then s ||| 2 ^ e.on ||| acc.getD e.on 0 else s) 0]) []
def J0.ok(ops:Array Oper)(p:J0):Bool:=
 let ms:=masks ops.toList
 (List.range ops.size).all fun i=>(List.range i).all fun j=>
  (ms.getD i 0).testBit j || (G1 (p.ws j) (p.rs i)&&G1 (p.ws i) (p.rs j)&&G1 (p.ws i) ((p.ws j).map Wr.loc))
def Closed(ops:Array Oper)(D:Nat→Bool):Prop:=∀i o,D i=true→ops[i]?=some o→∀e,e∈o.after→Region.binds .any e=true→D e.on=true
theorem orFold{acc:List Nat}{j:Nat}:∀(es:List Edge) (s:Nat),(es.foldl (fun s e=>if Region.binds .any e then s ||| 2 ^ e.on ||| acc.getD e.on 0 else s) s).testBit j=true→
  s.testBit j=true∨∃e,e∈es∧Region.binds .any e=true∧(e.on=j∨(acc.getD e.on 0).testBit j=true)
 | [],s,h=>.inl h
 | e :: es,s,h=>by
  simp only[List.foldl_cons] at h
  rcases orFold es _ h with h|⟨e',he,hb,hx⟩
  ·split at h
   ·rename_i hb
    simp only[Nat.testBit_or,ζX] at h
    rcases h with(h|h)|h
    ·exact .inl h
    ·refine .inr ⟨e,by simp,hb,.inl ?_⟩
     simpa[Nat.testBit_two_pow] using h
    ·exact .inr ⟨e,by simp,hb,.inr h⟩
   ·exact .inl h
  ·exact .inr ⟨e',by simp[he],hb,hx⟩
theorem masks_aux:∀(l:List Oper) (acc:List Nat) (done:List Oper),acc.length=done.length→
  (∀(i:Nat) (o:Oper) (j:Nat),done[i]?=some o→(acc.getD i 0).testBit j=true→∃e,e∈o.after.toList∧Region.binds .any e=true∧(e.on=j∨(e.on < i∧(acc.getD e.on 0).testBit j=true)))→
  ∀(i:Nat) (o:Oper) (j:Nat),(done++l)[i]?=some o→
   ((l.foldl (fun acc o=>acc++[o.after.toList.foldl (fun s e=>if Region.binds .any e then s ||| 2 ^ e.on ||| acc.getD e.on 0 else s) 0]) acc).getD i 0).testBit j=true→
   ∃e,e∈o.after.toList∧Region.binds .any e=true∧(e.on=j∨(e.on < i∧((l.foldl (fun acc o=>acc++[o.after.toList.foldl (fun s e=>if Region.binds .any e then s ||| 2 ^ e.on ||| acc.getD e.on 0 else s) 0]) acc).getD e.on 0).testBit j=true))
 | [],acc,done,_,h,i,o,j,ho,ht=>by
  simp only[ξk] at ho
  exact h i o j ho ht
 | x :: l,acc,done,hl,h,i,o,j,ho,ht=>by
  have step:=masks_aux l (acc++[x.after.toList.foldl (fun s e=>if Region.binds .any e then s ||| 2 ^ e.on ||| acc.getD e.on 0 else s) 0]) (done++[x]) (by simp[hl]) ?_ i o j (by simpa using ho) ht
  ·exact step
  ·intro i o j ho ht
   by_cases hi:i < done.length
   ·rw[ζl hi] at ho
    have e1:∀k,k < acc.length→(acc++[x.after.toList.foldl (fun s e=>if Region.binds .any e then s ||| 2 ^ e.on ||| acc.getD e.on 0 else s) 0]).getD k 0=acc.getD k 0:=fun k hk=>by
     simp[List.getD,ζl hk]
    rw[e1 i (by omega)] at ht
    obtain⟨e,he,hb,hx⟩:=h i o j ho ht
    refine⟨e,he,hb,?_⟩
    rcases hx with hx|⟨h1,h2⟩
    ·exact .inl hx
    ·exact .inr ⟨h1,by rw[e1 _ (by omega)];exact h2⟩
   ·have hi2:i=done.length:=by
     have:=(ζe.1 ho).1;simp at this;omega
    subst hi2
    have ho':o=x:=by simpa using ho.symm
    subst ho'
    have e2:(acc++[o.after.toList.foldl (fun s e=>if Region.binds .any e then s ||| 2 ^ e.on ||| acc.getD e.on 0 else s) 0]).getD done.length 0=o.after.toList.foldl (fun s e=>if Region.binds .any e then s ||| 2 ^ e.on ||| acc.getD e.on 0 else s) 0:=by
     simp[List.getD,←hl]
    rw[e2] at ht
    rcases orFold _ _ ht with h0|⟨e,he,hb,hx⟩
    ·simp at h0
    ·refine⟨e,he,hb,?_⟩
     rcases hx with hx|hx
     ·exact .inl hx
     ·by_cases hlt:e.on < acc.length
      ·refine .inr ⟨by omega,?_⟩
       simp only[List.getD] at hx ⊢
       rw[ζl hlt];exact hx
      ·simp[List.getD,ξn (Nat.le_of_not_lt hlt)] at hx
theorem masks_spec{ops:Array Oper}{i j:Nat}{o:Oper}(ho:ops[i]?=some o)(h:((masks ops.toList).getD i 0).testBit j=true) :
  ∃e,e∈o.after∧Region.binds .any e=true∧(e.on=j∨(e.on < i∧((masks ops.toList).getD e.on 0).testBit j=true)):=by
 obtain⟨e,he,hb,hx⟩:=masks_aux ops.toList [] [] rfl (fun i o j h=>by simp at h) i o j (by simpa using ho) h
 exact⟨e,by simpa using he,hb,hx⟩
theorem D5{ops:Array Oper}{D:Nat→Bool}(hc:Closed ops D)(hin:∀i,D i=true→i < ops.size){j:Nat}:∀(n i:Nat),i < n→∀o,ops[i]?=some o→(D i=true∨∀e,e∈o.after→Region.binds .any e=true→D e.on=true)→
  ((masks ops.toList).getD i 0).testBit j=true→D j=true
 | 0,i,h,_,_,_,_=>by omega
 | n+1,i,hi,o,ho,hd,ht=>by
  obtain⟨e,he,hb,hx⟩:=masks_spec ho ht
  have hon:D e.on=true:=by
   rcases hd with hd|hd
   ·exact hc i o hd ho e he hb
   ·exact hd e he hb
  rcases hx with rfl|⟨h1,h2⟩
  ·exact hon
  ·have hs:=hin _ hon
   exact D5 hc hin n e.on (by omega) ops[e.on] (ζg hs) (.inl hon) h2
theorem wpAny_plan{P:Program}{G:Nat→Option (List V)}{ops:Array Oper}{st:St}{Q:Exit→St→Prop}{p:J0}(hp:p.ok ops=true)
  (hback:∀i o,ops[i]?=some o→∀e,e∈o.after→Region.binds .any e=true→e.on < i)
  (hstep:∀i,i < ops.size→A3 P G ops i (p.st (fun j=>decide (j < i)) st ops.size) (p.rs i) (p.ws i)) (hq:Q .normal (p.st (fun _=>true) st ops.size))
  {fx:Fx} {γ0:Gh} {w0:World}:∀(M1:Nat) (D:Nat→Bool) (listed:Array Bool) (γ:Gh) (a:Act) (w:World),listed.size=ops.size→(∀i,i < ops.size→listed.getD i true=D i∧listed.getD i false=D i)→(∀i,D i=true→i < ops.size)→Closed ops D→
   ((List.range ops.size).filter fun i=>!D i).length≤M1→Sim G γ (p.st D st ops.size) a.tmps w→(Grow γ0 w0 γ w∧Pin γ0 st.b st.u γ (p.st D st ops.size).b (p.st D st ops.size).u)→a.defers=fx.ds→
   wpAnyIn (RF fx.ro) 0 P .any ops (O3 G fx γ0 st w0 Q) M1 listed a w:=by
 have pair:∀i j,i < ops.size→j < i→((masks ops.toList).getD i 0).testBit j=true∨(G1 (p.ws j) (p.rs i)=true∧G1 (p.ws i) (p.rs j)=true∧G1 (p.ws i) ((p.ws j).map Wr.loc)=true):=by
  intro i j hi hj
  unfold J0.ok at hp
  have:=ζE.1 (ζE.1 hp i (by simpa using hi)) j (by simpa using hj)
  simp only[ζX,ζA] at this
  rcases this with h|⟨⟨h1,h2⟩,h3⟩
  ·exact .inl h
  ·exact .inr ⟨h1,h2,h3⟩
 have readyD:∀(D:Nat→Bool) (listed:Array Bool),(∀i,i < ops.size→listed.getD i true=D i∧listed.getD i false=D i)→listed.size=ops.size→∀i,i∈Region.ready .any ops listed→i < ops.size∧D i=false∧∀o,ops[i]?=some o→∀e,e∈o.after→Region.binds .any e=true→D e.on=true:=by
  intro D listed hl hsz i hi
  obtain⟨h0,o,ho,hall⟩:=mem_ready.1 hi
  have hlt:=(ζf.1 ho).1
  refine⟨hlt,by rw[←(hl i hlt).1];exact h0,fun o' ho' e he hb=>?_⟩
  rw[ho] at ho';simp only[ζa] at ho';subst ho'
  have h1:=hall e he hb
  have hlt2:e.on < ops.size:=by
   rcases ζN e.on ops.size with h|h
   ·exact h
   ·rw[ζW,Array.getElem?_eq_none (by omega)] at h1;simp at h1
  rw[←(hl e.on hlt2).2];exact h1
 have none_ready:∀(D:Nat→Bool) (listed:Array Bool),(∀i,i < ops.size→listed.getD i true=D i∧listed.getD i false=D i)→Region.ready .any ops listed=[]→∀i,i < ops.size→D i=true:=by
  intro D listed hl hr i
  induction i using Nat.strongRecOn with
  | _ i ih=>
   intro hi
   cases hd:D i with
   | true=>rfl
   | false=>
    exfalso
    have:i∈Region.ready .any ops listed:=mem_ready.2 ⟨by rw[(hl i hi).1];exact hd,ops[i],ζg hi,fun e he hb=>by
     have hb':=hback i _ (ζg hi) e he hb
     rw[(hl e.on (by omega)).2]
     exact ih e.on hb' (by omega)⟩
    rw[hr] at this;simp at this
 have fin:∀(D:Nat→Bool) (γ:Gh) (a:Act) (w:World),(∀i,i < ops.size→D i=true)→Sim G γ (p.st D st ops.size) a.tmps w→(Grow γ0 w0 γ w∧Pin γ0 st.b st.u γ (p.st D st ops.size).b (p.st D st ops.size).u)→a.defers=fx.ds→O3 G fx γ0 st w0 Q .normal a w:=by
  intro D γ a w hall hs hg hd
  have e:p.st D st ops.size=p.st (fun _=>true) st ops.size:=J0.st_congr p st _ hall
  exact⟨_,γ,hs,hg,.of hd,by rw[e];exact hq⟩
 intro M1
 induction M1 with
 | zero=>
  intro D listed γ a w hsz hl hin hc hf hs hg hd
  have hall:∀i,i < ops.size→D i=true:=by
   intro i hi
   cases hdi:D i with
   | true=>rfl
   | false=>
    exfalso
    have:i∈(List.range ops.size).filter fun i=>!D i:=List.mem_filter.2 ⟨by simpa using hi,by simp[hdi]⟩
    have h0:(List.range ops.size).filter (fun i=>!D i)=[]:=ζS.1 (by omega)
    rw[h0] at this;simp at this
  refine⟨?_,fin D γ a w hall hs hg hd⟩
  refine List.eq_nil_iff_forall_not_mem.2 fun i hi=>?_
  obtain⟨h1,h2,_⟩:=readyD D listed hl hsz i hi
  rw[hall i h1] at h2;simp at h2
 | succ M1 ih=>
  intro D listed γ a w hsz hl hin hc hf hs hg hd
  refine⟨fun hr=>fin D γ a w (none_ready D listed hl hr) hs hg hd,fun i hi=>?_⟩
  obtain⟨hlt,hDi,hpre⟩:=readyD D listed hl hsz i hi
  have ho:ops[i]?=some ops[i]:=ζg hlt
  have hagree:∀l,l∈p.rs i→F2 (p.st (fun j=>decide (j < i)) st ops.size) (p.st D st ops.size) l:=by
   intro l hlr
   refine J0.agree p D st i ops.size fun j hj=>?_
   by_cases hji:j=i
   ·subst hji
    exact .inl ⟨fun h=>by omega,fun h=>by rw[hDi] at h;simp at h⟩
   ·by_cases hlt':j < i
    ·rcases pair i j hlt hlt' with hm|⟨h1,_,_⟩
     ·have hDj:D j=true:=D5 hc hin (i+1) i (by omega) _ ho (.inr (hpre _ ho)) hm
      exact .inl ⟨fun _=>hDj,fun _=>hlt'⟩
     ·exact .inr (G8 h1 hlr)
    ·rcases pair j i hj (by omega) with hm|⟨_,h2,_⟩
     ·refine .inl ⟨fun h=>absurd h hlt',fun hDj=>?_⟩
      have hoj:ops[j]?=some ops[j]:=ζg hj
      have:=D5 hc hin (j+1) j (by omega) _ hoj (.inl hDj) hm
      rw[hDi] at this;simp at this
     ·exact .inr (G8 h2 hlr)
  have hst:=hstep i hlt (p.st D st ops.size) (by simp[J0.st_n]) hagree
  have hins:(p.st D st ops.size).app (p.ws i)=p.st (fun j=>D j || decide (j=i)) st ops.size:=J0.insert p D st i hDi ops.size hlt fun j h1 h2 h3=>by
   rcases pair j i h2 h1 with hm|⟨_,_,h3'⟩
   ·exfalso
    have hoj:ops[j]?=some ops[j]:=ζg h2
    have:=D5 hc hin (j+1) j (by omega) _ hoj (.inl h3) hm
    rw[hDi] at this;simp at this
   ·exact h3'
  rw[hins] at hst
  have next:∀(a':Act) (w':World) (γ':Gh),Sim G γ' (p.st (fun j=>D j || decide (j=i)) st ops.size) a'.tmps w'→Grow γ w γ' w'→Pin γ (p.st D st ops.size).b (p.st D st ops.size).u γ' (p.st (fun j=>D j || decide (j=i)) st ops.size).b (p.st (fun j=>D j || decide (j=i)) st ops.size).u→a'.defers=fx.ds→
    wpAnyIn (RF fx.ro) 0 P .any ops (O3 G fx γ0 st w0 Q) M1 (listed.setIfInBounds i true) a' w':=by
   intro a' w' γ' hs' hg' hp' hd'
   refine ih (fun j=>D j || decide (j=i)) (listed.setIfInBounds i true) γ' a' w' (by simpa using hsz) (fun j hj=>?_) (fun j hj=>?_) ?_ ?_ hs' ⟨hg.1.trans hg',hg.2.trans hp'⟩ hd'
   ·by_cases hji:j=i
    ·subst hji
     have:j < listed.size:=by omega
     simp[this]
    ·have hne:i≠j:=fun e=>hji e.symm
     have e1:(listed.setIfInBounds i true).getD j true=listed.getD j true:=by simp[Array.getElem?_setIfInBounds_ne hne]
     have e2:(listed.setIfInBounds i true).getD j false=listed.getD j false:=by simp[Array.getElem?_setIfInBounds_ne hne]
     rw[e1,e2]
     simp only[hji,decide_false,Bool.or_false]
     exact hl j hj
   ·simp only[ζX,ζF] at hj
    rcases hj with hj|rfl
    ·exact hin j hj
    ·exact hlt
   ·intro k o hk hok e he hb
    simp only[ζX,ζF] at hk ⊢
    rcases hk with hk|rfl
    ·exact .inl (hc k o hk hok e he hb)
    ·exact .inl (hpre o hok e he hb)
   ·have hmem:i∈(List.range ops.size).filter fun j=>!D j:=List.mem_filter.2 ⟨by simpa using hlt,by simp[hDi]⟩
    have hlt3:((List.range ops.size).filter fun j=>!(D j || decide (j=i))).length < ((List.range ops.size).filter fun j=>!D j).length:=by
     have e:(List.range ops.size).filter (fun j=>!(D j || decide (j=i)))=((List.range ops.size).filter (fun j=>!D j)).filter (fun j=>!decide (j=i)):=by
      rw[List.filter_filter]
      congr 1;funext j;simp[Bool.and_comm]
     rw[e]
     refine Nat.lt_of_le_of_ne (List.length_filter_le _ _) fun heq=>?_
     have:=List.length_filter_eq_length_iff.1 heq i hmem
     simp at this
    omega
  unfold StepV at hst
  unfold wpOpIn
  rw[ho]
  rw[ho] at hst
  simp only at hst ⊢
  rcases hst with⟨hgd,he⟩|⟨hgd,hdst,heq⟩
  ·rw[if_pos (K9 hs hgd)]
   exact op_in (he ⟨none,a.defers,false⟩ γ a w hs rfl _ _ fun _ _ _ _ _ _ h=>h) (he fx γ a w hs hd _ _ next)
  ·rw[if_neg (by rw[K9 hs hgd];simp)]
   refine⟨fun _ _=>trivial,next _ w γ ?_ (.refl γ w) ?_ (by rw[U1];exact hd)⟩
   ·rw[heq];exact hs.put hdst (v:=undef) (.tup [] [] rfl (fun i c v hc=>by simp at hc))
   ·rw[heq];cases ops[i].dst<;>exact Pin.refl hs.u
theorem TV.draw{P:Program}{G:Nat→Option (List V)}{ops:Array Oper}{id:Nat}{st:St}{Q:Exit→St→Prop}{p:J0}(hm:P.follows .mixedOrders=true)(hp:p.ok ops=true)
  (hback:(ops.toList.zipIdx.all fun x=>x.1.after.all fun e=>!Region.binds .any e || decide (e.on < x.2))=true)
  (hstep:∀i,i < ops.size→A3 P G ops i (p.st (fun j=>decide (j < i)) st ops.size) (p.rs i) (p.ws i)) (hq:Q .normal (p.st (fun _=>true) st ops.size)) :
  TV P G (.region id ops true) st Q:=fun fx γ a w hs hd=>by
 have hs0:Sim G γ st a.tmps { w with drawn:=w.drawn+1 }:=by
  have g:Grow γ w γ { w with drawn:=w.drawn+1 }:=⟨rfl,rfl,rfl,ζK _,fun _ _ _ _ h=>h,fun _ _=>ζK _,fun _ _ h=>⟨rfl,h,rfl⟩,fun _ cs _ fz h=>⟨cs,fz,h,rfl,.inl rfl⟩⟩
  have bl:L1 γ st.b st.u γ st.b st.u:=.refl hs.u
  refine⟨hs.n,fun i=>(hs.t i).mono g bl,fun b k hk=>?_,hs.u,hs.g.grow g,hs.o⟩
  rcases hs.b b k hk with h0|hm|⟨hM,B,o,cs,e',h1,h2,h3,h4,h5,h6,h7,h8⟩
  ·exact .inl h0
  ·exact .inr (.inl (hm.same rfl (fun B _ hB=>⟨hB,rfl⟩) fun c v hr=>hr.mono g bl))
  ·refine .inr (.inr ⟨hM,B,o,cs,e',h1,h2,h3,h4,h5,fun i c hc=>?_,h7,h8⟩)
   obtain⟨v,a1,a2,a3,a4⟩:=h6 i c hc
   exact⟨v,a1,a2.mono g bl,a3,a4⟩
 have g0:Grow γ w γ { w with drawn:=w.drawn+1 }:=⟨rfl,rfl,rfl,ζK _,fun _ _ _ _ h=>h,fun _ _=>ζK _,fun _ _ h=>⟨rfl,h,rfl⟩,fun _ cs _ fz h=>⟨cs,fz,h,rfl,.inl rfl⟩⟩
 refine wpIn_region_any hm ?_
 have e0:p.st (fun _=>false) st ops.size=st:=by
  have:∀n,p.st (fun _=>false) st n=st:=fun n=>by
   induction n with
   | zero=>rfl
   | succ n ih=>simp[J0.st,ih]
  exact this _
 refine wpAny_plan hp (fun i o ho e he hb=>?_) hstep hq ops.size (fun _=>false) _ γ a _ (by simp) (fun i hi=>by simp[hi]) (fun i h=>by simp at h) (fun i o h=>by simp at h)
  (by have:=List.length_filter_le (fun i:Nat=>!false) (List.range ops.size);simpa using this) (by rw[e0];exact hs0) ⟨g0,by rw[e0];exact .refl hs.u⟩ hd.1
 have hm':(o,i)∈ops.toList.zipIdx:=by
  rw[List.mem_zipIdx_iff_getElem?];simpa using ho
 have:=ζE.1 hback (o,i) hm'
 have h2:=Array.all_eq_true_iff_forall_mem.1 this e he
 simpa[hb] using h2
def F3(a b:Nat→Option Blk):Prop:=∀i k,a i=some k→b i=some k
theorem eqV_mono{P:Program}{l1 l2:Nat→Option Blk}(h:F3 l1 l2){t:TypeId}{x y:V}{r:Bool}(he:eqV P l1 t x y=some r):eqV P l2 t x y=some r:=by
 unfold eqV at he ⊢
 split at he<;>try exact he
 ·rename_i b i off
  cases hb:l1 b with
  | none=>rw[hb] at he;simp at he
  | some k=>rw[hb] at he;rw[h b k hb];exact he
 ·rename_i b off n
  cases hb:l1 b with
  | none=>rw[hb] at he;simp at he
  | some k=>rw[hb] at he;rw[h b k hb];exact he
theorem binV_mono{P:Program}{l1 l2:Nat→Option Blk}(h:F3 l1 l2){op:BinOp}{t:TypeId}{x y c:V}(he:binV P l1 op t x y=some c):binV P l2 op t x y=some c:=by
 unfold binV at he ⊢
 split at he<;>try exact he
 split at he
 ·obtain⟨r,h1,h2⟩:=ζb.1 he
  rw[eqV_mono h h1];exact congrArg some h2
 ·obtain⟨r,h1,h2⟩:=ζb.1 he
  rw[eqV_mono h h1];exact congrArg some h2
 ·simp at he
theorem cellsV_mono{l1 l2:Nat→Option Blk}(h:F3 l1 l2){c:V}{cs:List V}(he:cellsV l1 c=some cs):cellsV l2 c=some cs:=by
 unfold cellsV at he ⊢
 split at he<;>try exact he
 rename_i b i off
 cases hb:l1 b with
 | none=>rw[hb] at he;simp at he
 | some k=>rw[hb] at he;rw[h b k hb];exact he
theorem loadV_mono{P:Program}{l1 l2:Nat→Option Blk}(h:F3 l1 l2){t:TypeId}{c d:V}(he:loadV P l1 t c=some d):loadV P l2 t c=some d:=by
 unfold loadV at he ⊢
 obtain⟨cs,h1,h2⟩:=ζc.1 he
 rw[cellsV_mono h h1];exact h2
theorem fieldAddrV_mono{P:Program}{l1 l2:Nat→Option Blk}(h:F3 l1 l2){s:TypeId}{c d:V}{f:Nat}(he:P0 P l1 s c f=some d):P0 P l2 s c f=some d:=by
 unfold P0 at he ⊢
 split at he<;>try exact he
 split at he<;>try exact he
 split at he<;>try exact he
 split at he
 ·simp at he
 rename_i hz
 rw[if_neg hz]
 split at he<;>try exact he
 rename_i b r off
 cases hb:l1 b with
 | none=>rw[hb] at he;simp at he
 | some k=>rw[hb] at he;simp only[h b k hb];exact he
theorem indexAddrV_mono{P:Program}{l1 l2:Nat→Option Blk}(h:F3 l1 l2){t:TypeId}{c x d:V}(he:L0 P l1 t c x=some d):L0 P l2 t c x=some d:=by
 unfold L0 at he ⊢
 split at he<;>try exact he
 split at he<;>try exact he
 ·split at he<;>try exact he
  split at he
  rotate_left
  ·simp at he
  rename_i hb
  rw[if_pos hb]
  split at he<;>try exact he
  rename_i b r off
  cases hb:l1 b with
  | none=>rw[hb] at he;simp at he
  | some k=>rw[hb] at he;simp only[h b k hb];exact he
 ·split at he<;>try exact he
  split at he<;>try exact he
  rename_i b off len
  cases hb:l1 b with
  | none=>rw[hb] at he;simp at he
  | some k=>rw[hb] at he;simp only[h b k hb];exact he
theorem sliceV_mono{P:Program}{l1 l2:Nat→Option Blk}(h:F3 l1 l2){t:TypeId}{c d:V}{lo hi mx:Option V}(he:sliceV P l1 t c lo hi mx=some d):sliceV P l2 t c lo hi mx=some d:=by
 unfold sliceV at he ⊢
 split at he<;>try exact he
 split at he<;>try exact he
 split at he<;>try exact he
 rename_i b off len
 cases hb:l1 b with
 | none=>rw[hb] at he;simp at he
 | some k=>rw[hb] at he;simp only[h b k hb];exact he
theorem lenV_mono{P:Program}{l1 l2:Nat→Option Blk}(h:F3 l1 l2){t:TypeId}{c d:V}(he:lenV P l1 t c=some d):lenV P l2 t c=some d:=by
 unfold lenV at he ⊢
 split at he<;>try exact he
 rename_i b off len _
 cases hb:l1 b with
 | none=>rw[hb] at he;simp at he
 | some k=>rw[hb] at he;simp only[h b k hb];exact he
theorem convL_mono{P:Program}{l1 l2:Nat→Option Blk}(h:F3 l1 l2){s t:TypeId}{c d:V}(he:convL P l1 s t c=some d):convL P l2 s t c=some d:=by
 unfold convL at he ⊢
 split at he<;>try exact he
 split at he<;>try exact he
 split at he<;>try exact he
 rename_i b off len _ _ _ _ _ _ _
 cases hb:l1 b with
 | none=>rw[hb] at he;simp at he
 | some k=>rw[hb] at he;simp only[h b k hb];exact he
theorem readV_mono{P:Program}{e:Operand→Option V}{l1 l2:Nat→Option Blk}(h:F3 l1 l2){op:Op}{c:V}(he:B7 P e l1 op=some c):B7 P e l2 op=some c:=by
 unfold B7 at he ⊢
 split at he<;>try exact he
 ·
  split at he<;>try exact he
  rename_i b i off hx
  cases hb:l1 b with
  | none=>rw[hb] at he;simp at he
  | some k=>rw[hb] at he;simp only[h b k hb];exact he
 ·split at he<;>try exact he
  exact binV_mono h he
 ·obtain⟨d,h1,h2⟩:=ζc.1 he
  rw[h1];exact convL_mono h h2
 ·obtain⟨d,h1,h2⟩:=ζc.1 he
  rw[h1];exact loadV_mono h h2
 ·obtain⟨d,h1,h2⟩:=ζc.1 he
  rw[h1];exact fieldAddrV_mono h h2
 ·split at he<;>try exact he
  exact indexAddrV_mono h he
 ·split at he<;>try exact he
  exact sliceV_mono h he
 ·obtain⟨d,h1,h2⟩:=ζc.1 he
  rw[h1]
  simp only[ξa]
  unfold builtinV at h2 ⊢
  split at h2<;>try exact h2
  exact lenV_mono h h2
def Y5(o:Oper):List Nat:=o.op.operands.toList.filterMap fun|.tmp t=>some t|_=>none
mutual
def U2:V→List Nat
 | .ref b _ _=>[b]
 | .ptr b _ _=>[b]
 | .mp b=>[b]
 | .fn _ a c=>H7 a++H7 c
 | .agg l=>H7 l
 | .tup l=>H7 l
 | _=>[]
def H7:List V→List Nat
 | []=>[]
 | c :: l=>U2 c++H7 l
end
def St.cutT(st:St)(ts:List Nat):St:={ st with t:=fun i=>if ts.contains i then st.t i else .undef }
def cutB(b:Nat→Option Blk)(bs:List Nat):Nat→Option Blk:=fun i=>if bs.contains i then b i else none
theorem cutB_le(b:Nat→Option Blk)(bs:List Nat):F3 (cutB b bs) b:=fun i k h=>by
 unfold cutB at h;split at h
 ·exact h
 ·simp at h
theorem Sim.cutT{G:Nat→Option (List V)}{γ:Gh}{st:St}{tmps:Array Value}{w:World}(h:Sim G γ st tmps w)(ts:List Nat):Sim G γ (st.cutT ts) tmps w:=
 ⟨h.n,fun i=>by
  show Rep γ w st.b st.u (if ts.contains i then st.t i else .undef) _
  split
  ·exact h.t i
  ·exact .undef _,h.b,h.u,h.g,h.o⟩
def guardLocs(ops:Array Oper)(o:Oper):List Loc:=
 match o.guard with
 | none=>[]
 | some (j,_)=>match (ops[j]?).bind (·.dst) with
  | some d=>[.t d]
  | none=>[]
def dstW(dst:Option Nat)(c:V):List Wr:=match dst with|some d=>[.t d c]|none=>[]
theorem app_dstW(st:St)(dst:Option Nat)(c:V):st.app (dstW dst c)=st.put dst c:=by cases dst<;>rfl
def effW(P:Program)(G:Nat→Option (List V))(o:Oper)(st:St)(bs:List Nat):Option (List Wr):=
 match o.op,o.dst with
 | .alloc e,some d=>if d < st.n∧st.u d=false then (zeroV P e).map fun cs=>[.b d (some ⟨cs.length,true,[cs]⟩),.t d (.ptr d 0 0)] else none
 | .box _ x,some d=>if d < st.n∧st.u d=false then ((st.ev G x).bind boxV).map fun cs=>[.b d (some ⟨cs.length,true,[cs]⟩),.t d (.ptr d 0 0)] else none
 | .store t x y,none=>match st.ev G x,st.ev G y with
  | some (.ptr b i off),some c=>match cutB st.b bs b with
   | some k=>(R6 P t k i off c).map fun k'=>[.b b (some k')]
   | none=>none
  | _,_=>none
 | .buildSlice t n ps,some d=>if d < st.n∧st.u d=false then ((evParts (st.ev G) ps.toList).bind (S5 P t n)).map fun k=>[.b d (some k),.t d (.ref d 0 n)] else none
 | op,dst=>if H2 st.n dst then (B7 P (st.ev G) (cutB st.b bs) op).map (dstW dst) else none
theorem effW_spec{P:Program}{G:Nat→Option (List V)}{o:Oper}{st:St}{ts bs:List Nat}{ws:List Wr}(h:effW P G o (st.cutT ts) bs=some ws):N0 P G o st (st.app ws):=by
 unfold effW at h
 split at h
 ·rename_i e d ho hd
  split at h
  ·rename_i hc
   obtain⟨cs,hz,rfl⟩:=ζb.1 h
   exact effO_alloc ho hd hc.1 hc.2 hz
  ·simp at h
 ·rename_i e x d ho hd
  split at h
  ·rename_i hc
   obtain⟨cs,hz,rfl⟩:=ζb.1 h
   obtain⟨c,h1,h2⟩:=ζc.1 hz
   refine H6 fun γ a w hs=>?_
   obtain⟨k1,k2⟩:=boxV_spec h2 ((hs.cutT ts).ev h1)
   obtain⟨γ',g,pn,hs'⟩:=hs.newBox (e:=e) (A1 h2).2 hc.2 hc.1 k1 k2
   refine⟨_,_,γ',?_,g,pn,by rw[hd];exact hs'⟩
   simp[execOp,ho,Instr.box,newVar,newRow]
  ·simp at h
 ·rename_i t x y ho hd
  split at h
  ·rename_i b i off c hx hy
   split at h
   ·rename_i k hk
    obtain⟨k',hs',rfl⟩:=ζb.1 h
    have hk':=cutB_le _ _ _ _ hk
    exact effO_store' ho hd (fun _ _ _ hs=>(hs.cutT ts).ev hx) (fun _ _ _ hs=>(hs.cutT ts).ev hy) hk' hs'
   ·simp at h
  ·simp at h
 ·rename_i t n ps d ho hd
  split at h
  ·rename_i hc
   obtain⟨k,hz,rfl⟩:=ζb.1 h
   obtain⟨parts,h1,h2⟩:=ζc.1 hz
   exact effO_buildSlice' ho hd hc.1 hc.2 (fun _ _ _ hs=>evParts_rep (hs.cutT ts) h1) h2
  ·simp at h
 ·rename_i op dst
  split at h
  ·rename_i hd
   obtain⟨c,hr,rfl⟩:=ζb.1 h
   rw[app_dstW]
   exact X9 hd fun γ a w hs=>run_readV (hs.cutT ts) (readV_mono (cutB_le _ _) hr)
  ·simp at h
def opBl(o:Oper)(l:List Nat):List Nat:=match o.op with
 | .move _=>[]
 | .assign _=>[]
 | _=>l
def stepRW(P:Program)(G:Nat→Option (List V))(ops:Array Oper)(i:Nat)(st:St):Option (List Loc×List Wr):=
 match ops[i]? with
 | none=>some ([],[])
 | some o=>match X0 ops st o with
  | some true=>
   let ts:=Y5 o
   let bs:=opBl o (ts.flatMap fun t=>U2 (st.t t))
   (effW P G o (st.cutT ts) bs).map fun ws=>(guardLocs ops o++ts.map .t++bs.map .b++(match o.dst with|some d=>[.b d]|none=>[]),ws)
  | some false=>if H2 st.n o.dst then some (guardLocs ops o,dstW o.dst (.tup [])) else none
  | none=>none
theorem guardV_local{ops:Array Oper}{st st2:St}{o:Oper}(hn:st2.n=st.n)(h:∀l,l∈guardLocs ops o→F2 st st2 l):X0 ops st2 o=X0 ops st o:=by
 unfold X0
 unfold guardLocs at h
 cases hg:o.guard with
 | none=>rfl
 | some x=>
  obtain⟨j,want⟩:=x
  rw[hg] at h
  simp only at h ⊢
  cases hd:(ops[j]?).bind (·.dst) with
  | none=>rfl
  | some d=>
   rw[hd] at h
   have:st.t d=st2.t d:=h (.t d) (by simp)
   simp only[hn,this]
theorem stepRW_spec{P:Program}{G:Nat→Option (List V)}{ops:Array Oper}{i:Nat}{st:St}{R:List Loc}{ws:List Wr}(h:stepRW P G ops i st=some (R,ws)):A3 P G ops i st R ws:=by
 intro st2 hn hag
 unfold stepRW at h
 unfold StepV
 split at h
 ·rename_i hi
  simp only[ζa,ζP] at h
  obtain⟨rfl,rfl⟩:=h
  rw[hi];rfl
 ·rename_i o hi
  rw[hi]
  split at h
  ·rename_i hg
   obtain⟨ws',hw,he⟩:=ζb.1 h
   simp only[ζP] at he
   obtain⟨rfl,rfl⟩:=he
   have hg2:X0 ops st2 o=some true:=by rw[guardV_local hn (fun l hl=>hag l (by simp[hl]))];exact hg
   refine .inl ⟨hg2,?_⟩
   have ht:∀t,t∈Y5 o→st.t t=st2.t t:=fun t ht=>hag (.t t) (by simp[ht])
   have hbs:opBl o ((Y5 o).flatMap fun t=>U2 (st.t t))=opBl o ((Y5 o).flatMap fun t=>U2 (st2.t t)):=by
    congr 1
    rw[List.flatMap_def,List.flatMap_def]
    congr 1
    exact ξi fun t h=>by rw[ht t h]
   have hcutT:(st.cutT (Y5 o)).t=(st2.cutT (Y5 o)).t:=funext fun j=>by
    show (if (Y5 o).contains j then st.t j else .undef)=(if (Y5 o).contains j then st2.t j else .undef)
    split
    ·rename_i hc;exact ht j (by simpa using hc)
    ·rfl
   have hcutB:cutB st.b (opBl o ((Y5 o).flatMap fun t=>U2 (st.t t)))=cutB st2.b (opBl o ((Y5 o).flatMap fun t=>U2 (st.t t))):=funext fun j=>by
    unfold cutB
    split
    ·rename_i hc
     have:F2 st st2 (.b j):=hag (.b j) (by
      have:j∈opBl o ((Y5 o).flatMap fun t=>U2 (st.t t)):=by simpa using hc
      simp only[ζr,ζt]
      exact .inl (.inr ⟨j,this,rfl⟩))
     exact this.1
    ·rfl
   have hud:∀d,o.dst=some d→st.u d=st2.u d:=fun d hd=>by
    have:F2 st st2 (.b d):=hag (.b d) (by rw[hd];simp)
    exact this.2
   have hev:(st2.cutT (Y5 o)).ev G=(st.cutT (Y5 o)).ev G:=funext fun x=>by
    cases x<;>simp only[St.ev]
    rw[hcutT]
   have key:effW P G o (st2.cutT (Y5 o)) (opBl o ((Y5 o).flatMap fun t=>U2 (st.t t)))=some ws':=by
    rw[←hw]
    unfold effW
    have e1:(st2.cutT (Y5 o)).n=(st.cutT (Y5 o)).n:=hn
    have e2:cutB (st2.cutT (Y5 o)).b (opBl o ((Y5 o).flatMap fun t=>U2 (st.t t)))=cutB (st.cutT (Y5 o)).b (opBl o ((Y5 o).flatMap fun t=>U2 (st.t t))):=hcutB.symm
    rw[hev,e1,e2]
    cases hd:o.dst with
    | none=>cases o.op<;>rfl
    | some d=>
     have e3:(st2.cutT (Y5 o)).u d=(st.cutT (Y5 o)).u d:=(hud d hd).symm
     cases o.op<;>simp only[e3]
   exact effW_spec key
  ·rename_i hg
   split at h<;>simp at h
   rename_i hd
   obtain⟨rfl,rfl⟩:=h
   exact .inr ⟨by rw[guardV_local hn hag];exact hg,by rw[hn];exact hd,app_dstW _ _ _⟩
  ·simp at h
end Go.EV
namespace Go.EV
open Go
def K7{α β:Type}(f:α→Option β):List α→Option (List β)
 | []=>some []
 | x :: l=>match f x,K7 f l with
  | some y,some r=>some (y :: r)
  | _,_=>none
theorem mapO_len{α β:Type}{f:α→Option β}:∀{l:List α} {r:List β},K7 f l=some r→r.length=l.length
 | [],r,h=>by simp[K7] at h;subst h;rfl
 | x :: l,r,h=>by
  simp only[K7] at h
  split at h
  ·rename_i y r' h1 h2
   simp only[ζa] at h;subst h
   simp[mapO_len h2]
  ·simp at h
theorem F8{α β:Type}{f:α→Option β}:∀{l:List α} {r:List β},K7 f l=some r→∀(i:Nat) (y:β),r[i]?=some y→∃x,l[i]?=some x∧f x=some y
 | [],r,h,i,y,hy=>by simp[K7] at h;subst h;simp at hy
 | x :: l,r,h,i,y,hy=>by
  simp only[K7] at h
  split at h
  ·rename_i y' r' h1 h2
   simp only[ζa] at h;subst h
   cases i with
   | zero=>simp at hy;subst hy;exact⟨x,rfl,h1⟩
   | succ i=>
    obtain⟨x',a,b⟩:=F8 h2 i y (by simpa using hy)
    exact⟨x',by simpa using a,b⟩
  ·simp at h
theorem A5{α β:Type}{f g:α→Option β}:∀{l:List α} {r:List β},K7 f l=some r→(∀x y,f x=some y→g x=some y)→K7 g l=some r
 | [],r,h,_=>h
 | x :: l,r,h,hg=>by
  simp only[K7] at h ⊢
  split at h
  ·rename_i y r' h1 h2
   rw[hg x y h1,A5 h2 hg];exact h
  ·simp at h
def U5:V→Bool
 | .fn _ a c=>a.isEmpty&&c.isEmpty
 | .agg _|.tup _|.undef|.ref _ _ _|.ptr _ _ _|.mp _=>false
 | _=>true
def D4(c:Option V):Option V:=match c with
 | some d=>if U5 d then some d else none
 | none=>none
theorem P2{c:Option V}{d:V}(h:D4 c=some d):c=some d∧U5 d=true:=by
 unfold D4 at h
 split at h
 ·split at h<;>simp at h
  rename_i hd
  subst h;exact⟨rfl,hd⟩
 ·simp at h
def M9(look:Nat→Option Blk):Nat→V→Option V
 | 0,_=>none
 | _+1,.int k n=>some (.int k n)
 | _+1,.bool b=>some (.bool b)
 | _+1,.str s=>some (.str s)
 | _+1,.nilp=>some .nilp
 | _+1,.nilf=>some .nilf
 | _+1,.yld l=>some (.yld l)
 | _+1,.nilsl=>some .nilsl
 | _+1,.ifc x=>some (.ifc x)
 | _+1,.sl _ s r=>some (.sl false s r)
 | _+1,.snap c=>some (.snap c)
 | n+1,.ref b off len=>match look b with
  | some k=>(K7 (K7 fun c=>D4 (M9 look n c)) ((k.rows.drop off).take len)).map (.sl false k.size)
  | none=>none
 | n+1,.ptr b i off=>match look b with
  | some k=>match k.rows[i]? with
   | some r=>(K7 (fun c=>D4 (M9 look n c)) (r.drop off)).map .snap
   | none=>none
  | none=>none
 | n+1,.fn f a c=>match K7 (M9 look n) a,K7 (M9 look n) c with
  | some a',some c'=>some (.fn f a' c')
  | _,_=>none
 | n+1,.agg l=>(K7 (M9 look n) l).map .agg
 | n+1,.tup l=>(K7 (M9 look n) l).map .tup
 | _+1,.undef=>none
 | _+1,.mp _=>none
theorem onlyCell_congr{f g:V→Option V}(h:∀x y,f x=some y→g x=some y)(x y:V)(hx:D4 (f x)=some y):D4 (g x)=some y:=by
 obtain⟨h1,h2⟩:=P2 hx
 unfold D4;rw[h x y h1];simp[h2]
theorem viewV_mono{l1 l2:Nat→Option Blk}(h:F3 l1 l2):∀(n:Nat) (c d:V),M9 l1 n c=some d→M9 l2 n c=some d
 | 0,_,_,h=>by simp[M9] at h
 | n+1,c,d,hd=>by
  have ih:=viewV_mono h n
  cases c<;>simp only[M9] at hd ⊢<;>try exact hd
  case ref b off len=>
   cases hb:l1 b with
   | none=>rw[hb] at hd;simp at hd
   | some k=>
    rw[hb] at hd;rw[h b k hb]
    simp only at hd ⊢
    obtain⟨r,h1,h2⟩:=ζb.1 hd
    rw[A5 h1 fun x y hx=>A5 hx (onlyCell_congr ih)];exact congrArg some h2
  case ptr b i off=>
   cases hb:l1 b with
   | none=>rw[hb] at hd;simp at hd
   | some k=>
    rw[hb] at hd;rw[h b k hb]
    simp only at hd ⊢
    split at hd
    ·obtain⟨r,h1,h2⟩:=ζb.1 hd
     rw[A5 h1 (onlyCell_congr ih)];exact congrArg some h2
    ·simp at hd
  case fn f a c=>
   split at hd
   ·rename_i a' c' h1 h2
    rw[A5 h1 ih,A5 h2 ih];exact hd
   ·simp at hd
  case agg l=>
   obtain⟨r,h1,h2⟩:=ζb.1 hd
   rw[A5 h1 ih];exact congrArg some h2
  case tup l=>
   obtain⟨r,h1,h2⟩:=ζb.1 hd
   rw[A5 h1 ih];exact congrArg some h2
def limAll(w:World)(B:Nat):Nat:=match w.heap[B]? with|some (.cells cs _ _)=>cs.size|_=>0
theorem limAll_of{w:World}{B o:Nat}{v:Value}(h:cellAt w B o=some v):o < limAll w B:=by
 unfold cellAt World.cell? at h
 unfold limAll
 split at h
 ·rename_i cs e fz hc
  simp only[Option.isSome_none,Bool.false_eq_true,if_false] at h
  simp only at hc
  rw[hc]
  exact(ζf.1 h).1
 ·simp at h
def ghAll(w:World):Gh:={ loc:=fun _=>none,own:=fun _=>none,lim:=limAll w }
theorem W2.all{lim:Nat→Nat}{w:World}{c:V}{v:Value}(h:W2 lim w c v):W2 (limAll w) w c v:=h.mono fun _ _ _ _ hc=>⟨limAll_of hc,hc⟩
theorem W2.unown{lim:Nat→Nat}{w:World}{o:Bool}{s:Nat}{r:List (List V)}{v:Value}(h:W2 lim w (.sl o s r) v):W2 lim w (.sl false s r) v:=by
 cases h with
 | sl _ _ _ B o cap vs h1 h2 h3 h4=>exact .sl false s r B o cap vs h1 h2 h3 h4
 | slNil _ _ a=>exact .slNil false s a
theorem dcell_repD{d:V}(hd:U5 d=true){w:World}{v:Value}(hr:Rep (ghAll w) w noB uTop d v):W2 (limAll w) w d v:=by
 cases hr with
 | data h=>exact h
 | undef=>simp[U5] at hd
 | ref _ _ _ _ _ _ _ h1=>simp[noB] at h1
 | refE _ _ _ _ h1=>simp[noB] at h1
 | refN _ _ _ h1=>simp[noB] at h1
 | deadRef=>simp[U5] at hd
 | ptr _ _ _ _ _ _ h1=>simp[noB] at h1
 | deadPtr=>simp[U5] at hd
 | mp=>simp[U5] at hd
 | deadMp=>simp[U5] at hd
 | fn f first captured fs cs h1 h2 _ _=>
  simp only[U5,ζA,List.isEmpty_iff] at hd
  obtain⟨rfl,rfl⟩:=hd
  exact .fn f [] [] fs cs h1 h2 (fun i c v hc=>by simp at hc) (fun i c v hc=>by simp at hc)
 | agg=>simp[U5] at hd
 | tup=>simp[U5] at hd
theorem mapO_flatten{f:V→Option V}:∀{l:List (List V)} {r:List (List V)},K7 (K7 f) l=some r→K7 f l.flatten=some r.flatten
 | [],r,h=>by simp[K7] at h;subst h;rfl
 | x :: l,r,h=>by
  simp only[K7] at h
  split at h
  ·rename_i y r' h1 h2
   simp only[ζa] at h;subst h
   have ih:=mapO_flatten h2
   simp only[List.flatten_cons]
   have app:∀{a:List V} {b:List V} {a' b':List V},K7 f a=some a'→K7 f b=some b'→K7 f (a++b)=some (a'++b'):=by
    intro a
    induction a with
    | nil=>intro b a' b' ha hb;simp[K7] at ha;subst ha;simpa using hb
    | cons z a iha=>
     intro b a' b' ha hb
     simp only[K7] at ha
     split at ha
     ·rename_i y2 r2 k1 k2
      simp only[ζa] at ha;subst ha
      simp only[List.cons_append,K7,k1,iha k2 hb]
     ·simp at ha
   exact app h1 ih
  ·simp at h
theorem viewV_rep{γ:Gh}{w:World}{bs:Nat→Option Blk}{u:Nat→Bool}(hb:∀b k,bs b=some k→L2 γ w bs u b k):∀(n:Nat) (c d:V) (v:Value),M9 bs n c=some d→Rep γ w bs u c v→Rep (ghAll w) w noB uTop d v
 | 0,_,_,_,h,_=>by simp[M9] at h
 | n+1,c,d,v,h,hr=>by
  have ih:=viewV_rep hb n
  have cells:∀(l r:List V),K7 (M9 bs n) l=some r→∀(vs:List Value),vs.length=l.length→(∀(i:Nat) (c:V) (v:Value),l[i]?=some c→vs[i]?=some v→Rep γ w bs u c v)→
    vs.length=r.length∧∀(i:Nat) (c:V) (v:Value),r[i]?=some c→vs[i]?=some v→Rep (ghAll w) w noB uTop c v:=by
   intro l r hm vs hl hv
   refine⟨by rw[mapO_len hm];exact hl,fun i c v hc hx=>?_⟩
   obtain⟨x,h1,h2⟩:=F8 hm i c hc
   exact ih x c v h2 (hv i x v h1 hx)
  cases c<;>simp only[M9] at h
  case int=>simp only[ζa] at h;subst h;cases hr with|data h=>exact .data h.all
  case ifc=>simp only[ζa] at h;subst h;cases hr with|data h=>exact .data h.all
  case bool=>simp only[ζa] at h;subst h;cases hr with|data h=>exact .data h.all
  case str=>simp only[ζa] at h;subst h;cases hr with|data h=>exact .data h.all
  case nilp=>simp only[ζa] at h;subst h;cases hr with|data h=>exact .data h.all
  case yld=>simp only[ζa] at h;subst h;cases hr with|data h=>exact .data h.all
  case nilf=>simp only[ζa] at h;subst h;cases hr with|data h=>exact .data h.all
  case nilsl=>simp only[ζa] at h;subst h;cases hr with|data h=>exact .data h.all
  case sl=>simp only[ζa] at h;subst h;cases hr with|data h=>exact .data h.all.unown
  case snap=>simp only[ζa] at h;subst h;cases hr with|data h=>exact .data h.all
  case undef=>simp at h
  case mp=>simp at h
  case agg l=>
   obtain⟨r,h1,rfl⟩:=ζb.1 h
   obtain⟨vs,rfl,hl,hv⟩:=hr.agg_inv
   obtain⟨a1,a2⟩:=cells l r h1 vs hl hv
   exact .agg r vs a1 a2
  case tup l=>
   obtain⟨r,h1,rfl⟩:=ζb.1 h
   obtain⟨vs,rfl,hl,hv⟩:=hr.tup_inv
   obtain⟨a1,a2⟩:=cells l r h1 vs hl hv
   exact .tup r vs a1 a2
  case fn f a c=>
   split at h
   ·rename_i a' c' h1 h2
    simp only[ζa] at h;subst h
    obtain⟨fs,cs,rfl,l1,l2,p1,p2⟩:=hr.fn_inv
    obtain⟨a1,a2⟩:=cells a a' h1 fs l1 p1
    obtain⟨b1,b2⟩:=cells c c' h2 cs l2 p2
    exact .fn f a' c' fs cs a1 b1 a2 b2
   ·simp at h
  case ptr b i off=>
   cases hk:bs b with
   | none=>rw[hk] at h;simp at h
   | some k=>
    rw[hk] at h;simp only at h
    split at h
    ·rename_i r hrow
     obtain⟨r',h1,rfl⟩:=ζb.1 h
     obtain⟨B,o,rfl,hl⟩:=hr.ptr_inv hk
     have hat:∀(j:Nat) (c:V),r'[j]?=some c→∃x,cellAt w B (o+(i * k.size+off)+j)=some x∧W2 (limAll w) w c x:=fun j c hc=>by
      obtain⟨c0,k1,k2⟩:=F8 h1 j c hc
      obtain⟨k2,k3⟩:=P2 k2
      obtain⟨x,x1,x2⟩:=(((hb b k hk).row hl hrow (hr.ptr_small hk)).drop off) j c0 k1
      exact⟨x,by rw[show o+(i * k.size+off)+j=o+i * k.size+off+j by omega];exact x1,dcell_repD k3 (ih c0 c x k2 x2)⟩
     refine .data (.snap r' B _ (fun j=>(cellAt w B (o+(i * k.size+off)+j)).getD default) (fun j c hc=>?_) (fun j c hc=>?_))
     ·obtain⟨x,x1,x2⟩:=hat j c hc
      rw[x1];exact⟨limAll_of x1,rfl⟩
     ·obtain⟨x,x1,x2⟩:=hat j c hc
      rw[x1];exact x2
    ·simp at h
  case ref b off len=>
   cases hk:bs b with
   | none=>rw[hk] at h;simp at h
   | some k=>
    rw[hk] at h;simp only at h
    ·have hlen:off+len≤k.rows.length:=by
      rcases hr.ref_inv hk with⟨B,o,cap,_,_,h0,_⟩|⟨B,_,hz,h0,_⟩|⟨_,hz,h0,_⟩
      ·exact h0
      ·omega
      ·omega
     obtain⟨r',h1,rfl⟩:=ζb.1 h
     have hrl:r'.length=len:=by rw[mapO_len h1];simp;omega
     rcases hr.ref_inv hk with⟨B,o,cap,rfl,hl,_,hcap,_,hM,_⟩|⟨B,rfl,rfl,_⟩|⟨rfl,rfl,_⟩
     ·rcases hb b k hk with⟨h0,_⟩|hm|⟨_,B',o',cs,e,g1,_,g3,g4,g5,g6,_,_⟩
      ·rw[hl] at h0;simp at h0
      ·exact(hm.small hM).elim
      rw[hl] at g1;simp only[ζa,ζP] at g1
      obtain⟨rfl,rfl⟩:=g1
      have hat:∀(j:Nat) (c:V),r'.flatten[j]?=some c→∃x,cellAt w B (o+off * k.size+j)=some x∧W2 (limAll w) w c x:=fun j c hc=>by
       obtain⟨c0,k1,k2⟩:=F8 (mapO_flatten h1) j c hc
       obtain⟨k2,k3⟩:=P2 k2
       obtain⟨q1,_⟩:=flatten_cut k.rows g4 off len j c0 k1
       obtain⟨x,x1,x2,_⟩:=g6 _ c0 q1
       refine⟨x,?_,dcell_repD k3 (ih c0 c x k2 x2)⟩
       rw[g3.cellAt]
       simpa[Nat.add_assoc] using x1
      have:=W2.sl (lim:=limAll w) (w:=w) false k.size r' B (o+off * k.size) cap (fun j=>(cellAt w B (o+off * k.size+j)).getD default) (by omega) (fun r hr=>by
       obtain⟨j,hj⟩:=ζh.1 hr
       obtain⟨q,q1,q2⟩:=F8 h1 j r hj
       rw[mapO_len q2]
       exact g4 q (ξu (ξt (ζi q1)))) (fun j c hc=>by
       obtain⟨x,x1,x2⟩:=hat j c hc
       rw[x1];exact⟨limAll_of x1,rfl⟩) (fun j c hc=>by
       obtain⟨x,x1,x2⟩:=hat j c hc
       rw[x1];exact x2)
      rw[hrl] at this
      exact .data this
     ·obtain rfl:r'=[]:=ζS.1 hrl
      exact .data (.slNil false k.size (some B))
     ·obtain rfl:r'=[]:=ζS.1 hrl
      exact .data (.slNil false k.size)
theorem effO_call_view{P:Program}{G:Nat→Option (List V)}{o:Oper}{st:St}{x:Operand}{xs:Array Operand}{ts:Array TypeId}{f:FuncId}{cs ds:List V}{fn:Func}{r:V}{M1:Nat}(tl:List Nat)
  (ho:o.op=.call { callee:=.value x,args:=xs,argTypes:=ts }) (h:S4 G (st.cutT tl) x xs.toList=some (f,cs)) (hfn:P.funcs[f]?=some fn) (hname:(fn.name== "runtime.NumGoroutine")=false) (hbody:fn.body.isNone=false)
  (hd:K7 (M9 st.b M1) cs=some ds) (hc:PureC P G f ds r) (hr:O1 r=true) (hdst:H2 st.n o.dst=true):N0 P G o st (st.put o.dst r):=by
 intro fx γ a w hs had next Q hn
 obtain⟨as,hrun,hargs⟩:=callArgs_spec (hs.cutT tl) ho h hfn hname hbody
 show o.upon P a next Q _
 rw[hrun,Oper.upon_enter]
 have hargs':J8 (ghAll w) w noB uTop ds as:=⟨by rw[mapO_len hd];exact hargs.1,fun i c v hc hv=>by
  obtain⟨c0,k1,k2⟩:=F8 hd i c hc
  exact viewV_rep hs.b M1 c0 c v k2 (hargs.2 i c0 v k1 hv)⟩
 have hglob:S9 G (ghAll w) w:=fun g cells hg=>(hs.g g cells hg).all
 refine(hc (ghAll w) w as hglob (fun B x hx=>by simp[ghAll] at hx) hargs' (fun b k hk=>by simp[noB] at hk)).mono fun e w' hp=>?_
 obtain⟨v,γe,rfl,hg,_,hrep,_,hown⟩:=hp
 have fr:∀B,B < w.heap.size→w'.heap[B]?=w.heap[B]?:=fun B hB=>(hg.free B hB rfl).1
 have hcell:∀B o v,cellAt w B o=some v→cellAt w' B o=some v:=fun B o v hc=>by
  have hB:=cellAt_lt hc
  unfold cellAt World.cell? at hc ⊢
  simp only[fr B hB];exact hc
 have g:Grow γ w γ w':=⟨hg.os,hg.tape,hg.output,hg.size,fun B o v _ hc=>hcell B o v hc,fun B _=>ζK _,fun B hB ho=>⟨fr B hB,ho,rfl⟩,fun B cs _ fz hc=>⟨cs,fz,(fr B (ζf.1 hc).1).trans hc,rfl,.inl rfl⟩⟩
 have bl:L1 γ st.b st.u γ st.b st.u:=.refl hs.u
 have hs':Sim G γ st a.tmps w':=by
  refine⟨hs.n,fun i=>(hs.t i).mono g bl,fun b k hk=>?_,hs.u,hs.g.grow g,fun B x hx=>ζM (hs.o B x hx) hg.size⟩
  rcases hs.b b k hk with h0|hm|⟨hM,B,o,cs',e,a1,a2,a3,a4,a5,a6,a7,a8⟩
  ·exact .inl h0
  ·exact .inr (.inl (hm.same rfl (fun B _ hB=>⟨hB,fr B (hs.o B _ hB)⟩) fun c v hr=>hr.mono g bl))
  refine .inr (.inr ⟨hM,B,o,cs',e,a1,a2,a3.of_eq (fr B (hs.o B _ a2)),a4,a5,fun i c hc=>?_,a7,a8⟩)
  obtain⟨y,b1,b2,b3,b4⟩:=a6 i c hc
  exact⟨y,b1,b2.mono g bl,b3,b4.grow g⟩
 refine hn _ _ γ (hs'.put hdst (hrep.flat hr)) g ?_ (by rw[U1];exact had)
 cases o.dst<;>exact bl.pin
mutual
def W5(s:Nat→Nat):V→V
 | .ref b off len=>.ref (s b) off len
 | .ptr b i off=>.ptr (s b) i off
 | .mp b=>.mp (s b)
 | .fn f a c=>.fn f (F0 s a) (F0 s c)
 | .agg l=>.agg (F0 s l)
 | .tup l=>.tup (F0 s l)
 | .int k n=>.int k n
 | .bool b=>.bool b
 | .str x=>.str x
 | .nilp=>.nilp
 | .nilf=>.nilf
 | .yld l=>.yld l
 | .nilsl=>.nilsl
 | .ifc x=>.ifc x
 | .sl o z r=>.sl o z r
 | .snap c=>.snap c
 | .undef=>.undef
def F0(s:Nat→Nat):List V→List V
 | []=>[]
 | c :: l=>W5 s c :: F0 s l
end
theorem renL_eq(s:Nat→Nat):∀l:List V,F0 s l=l.map (W5 s)
 | []=>rfl
 | c :: l=>by simp only[F0,ξf,renL_eq s l]
theorem N4(s:Nat→Nat)(l:List V):(F0 s l).length=l.length:=by rw[renL_eq];simp
theorem N5{s:Nat→Nat}{l:List V}{i:Nat}{c:V}(h:(F0 s l)[i]?=some c):∃c0,l[i]?=some c0∧c=W5 s c0:=by
 rw[renL_eq,ζo,ζb] at h
 obtain⟨c0,h1,rfl⟩:=h
 exact⟨c0,h1,rfl⟩
def Blk.ren(s:Nat→Nat)(k:Blk):Blk:={ k with rows:=k.rows.map (F0 s) }
theorem ren_flatten(s:Nat→Nat):∀rows:List (List V),(rows.map (F0 s)).flatten=F0 s rows.flatten
 | []=>rfl
 | r :: rows=>by simp only[ξf,List.flatten_cons,ren_flatten s rows,renL_eq,ζp]
theorem L5:∀{l:List V} {i:Nat} {c:V} {b:Nat},l[i]?=some c→b∈U2 c→b∈H7 l
 | [],i,c,b,h,_=>by simp at h
 | x :: l,i,c,b,h,hb=>by
  simp only[H7,ζr]
  cases i with
  | zero=>simp at h;subst h;exact .inl hb
  | succ i=>exact .inr (L5 (by simpa using h) hb)
theorem W2.ren{lim lim':Nat→Nat}{w w':World}(hm:∀B o v,o < lim B→cellAt w B o=some v→o < lim' B∧cellAt w' B o=some v)(s:Nat→Nat){c:V}{v:Value}(h:W2 lim w c v):W2 lim' w' (W5 s c) v:=by
 induction h with
 | int k n=>exact .int k n
 | bool b=>exact .bool b
 | str s=>exact .str s
 | nilp=>exact .nilp
 | nilf=>exact .nilf
 | yld l=>exact .yld l
 | nilsl=>exact .nilsl
 | ifc x hx=>exact .ifc x hx
 | sl own size rows B o cap vs h1 h2 h3 h4 _=>exact(W2.sl own size rows B o cap vs h1 h2 h3 h4).mono hm
 | slNil own size a=>exact .slNil own size a
 | snap cells B o vs h3 h4 _=>exact(W2.snap cells B o vs h3 h4).mono hm
 | fn f first captured fs cs h1 h2 _ _ ih1 ih2=>
  refine .fn f _ _ fs cs (by rw[N4];exact h1) (by rw[N4];exact h2) (fun i c v hc hv=>?_) (fun i c v hc hv=>?_)
  ·obtain⟨c0,k1,rfl⟩:=N5 hc;exact ih1 i c0 v k1 hv
  ·obtain⟨c0,k1,rfl⟩:=N5 hc;exact ih2 i c0 v k1 hv
def Tr(γ1:Gh)(bs1:Nat→Option Blk)(u1:Nat→Bool)(γ2:Gh)(bs2:Nat→Option Blk)(u2:Nat→Bool)(s:Nat→Nat)(b:Nat):Prop:=
 (∀k,bs1 b=some k→∃k',bs2 (s b)=some k'∧k'.size=k.size∧k'.rows.length=k.rows.length∧γ2.loc (s b)=γ1.loc b)∧
  (bs1 b=none→u1 b=true→bs2 (s b)=none∧u2 (s b)=true)
theorem Rep.ren{γ1 γ2:Gh}{w w':World}{bs1 bs2:Nat→Option Blk}{u1 u2:Nat→Bool}{s:Nat→Nat}(hm:∀B o v,o < γ1.lim B→cellAt w B o=some v→o < γ2.lim B∧cellAt w' B o=some v)(hroom:∀B n,RoomAt w B n→RoomAt w' B n)
  {c:V} {v:Value} (h:Rep γ1 w bs1 u1 c v):(∀b,b∈U2 c→Tr γ1 bs1 u1 γ2 bs2 u2 s b)→Rep γ2 w' bs2 u2 (W5 s c) v:=by
 induction h with
 | data h=>exact fun _=>.data (h.ren hm s)
 | undef v=>exact fun _=>.undef v
 | ref b off len B o cap k h1 h2 h3 h4 h5 h6 h7=>
  intro ht
  obtain⟨k',a1,a2,a3,a4⟩:=(ht b (by simp[U2])).1 k h1
  rw[←a2]
  exact .ref (s b) off len B o cap k' a1 (a4.trans h2) (by omega) h4 (hroom _ _ (by rw[a2];exact h5)) (by rw[a2];exact h6) (by omega)
 | refE b off B k h1 h6 h2=>
  intro ht
  obtain⟨k',a1,a2,a3,a4⟩:=(ht b (by simp[U2])).1 k h1
  exact .refE (s b) off B k' a1 (by rw[a2];exact h6) (by omega)
 | refN b off k h1 h6 h2=>
  intro ht
  obtain⟨k',a1,a2,a3,a4⟩:=(ht b (by simp[U2])).1 k h1
  exact .refN (s b) off k' a1 (by rw[a2];exact h6) (by omega)
 | deadRef b off len v h1 h2 h3=>
  intro ht
  obtain⟨a1,a2⟩:=(ht b (by simp[U2])).2 h1 h2
  exact .deadRef (s b) off len v a1 a2 h3
 | ptr b i off B o k h1 h2 h3=>
  intro ht
  obtain⟨k',a1,a2,a3,a4⟩:=(ht b (by simp[U2])).1 k h1
  rw[←a2]
  exact .ptr (s b) i off B o k' a1 (a4.trans h2) (by rw[a2];exact h3)
 | mp b B k h1 h2 h3=>
  intro ht
  obtain⟨k',a1,a2,a3,a4⟩:=(ht b (by simp[U2])).1 k h1
  exact .mp (s b) B k' a1 (a4.trans h2) (by rw[a2];exact h3)
 | deadMp b v h1 h2 h3=>
  intro ht
  obtain⟨a1,a2⟩:=(ht b (by simp[U2])).2 h1 h2
  exact .deadMp (s b) v a1 a2 h3
 | deadPtr b i off v h1 h2 h3=>
  intro ht
  obtain⟨a1,a2⟩:=(ht b (by simp[U2])).2 h1 h2
  exact .deadPtr (s b) i off v a1 a2 h3
 | fn f first captured fs cs h1 h2 _ _ ih1 ih2=>
  intro ht
  refine .fn f _ _ fs cs (by rw[N4];exact h1) (by rw[N4];exact h2) (fun i c v hc hv=>?_) (fun i c v hc hv=>?_)
  ·obtain⟨c0,k1,rfl⟩:=N5 hc
   exact ih1 i c0 v k1 hv fun b hb=>ht b (by simp only[U2,ζr];exact .inl (L5 k1 hb))
  ·obtain⟨c0,k1,rfl⟩:=N5 hc
   exact ih2 i c0 v k1 hv fun b hb=>ht b (by simp only[U2,ζr];exact .inr (L5 k1 hb))
 | agg cells vs h1 _ ih=>
  intro ht
  refine .agg _ vs (by rw[N4];exact h1) fun i c v hc hv=>?_
  obtain⟨c0,k1,rfl⟩:=N5 hc
  exact ih i c0 v k1 hv fun b hb=>ht b (by simp only[U2];exact L5 k1 hb)
 | tup cells vs h1 _ ih=>
  intro ht
  refine .tup _ vs (by rw[N4];exact h1) fun i c v hc hv=>?_
  obtain⟨c0,k1,rfl⟩:=N5 hc
  exact ih i c0 v k1 hv fun b hb=>ht b (by simp only[U2];exact L5 k1 hb)
theorem renV_own(s:Nat→Nat)(γ:Gh)(w:World)(t:H4)(c:V)(v:Value):E5 γ w t (W5 s c) v=E5 γ w t c v:=by
 cases c<;>rfl
def H4.ren(K:Nat→Bool)(s:Nat→Nat):Option H4→Option H4
 | some (.blk b)=>if K b then some (.blk (s b)) else none
 | some (.nest b i j)=>if K b then some (.nest (s b) i j) else none
 | none=>none
def St.after(st:St)(J:Nat→Bool)(s r:Nat→Nat)(outs:Nat→Option Blk):St:=
 { st with b:=fun j=>if J j then (outs (s j)).map (·.ren r) else st.b j,u:=fun j=>J j || st.u j }
theorem L2.ren{γ1 γ2:Gh}{w:World}{bs1 bs2:Nat→Option Blk}{u1 u2:Nat→Bool}{s:Nat→Nat}{b:Nat}{k:Blk}(h:L2 γ1 w bs1 u1 b k)
  (hl:γ2.loc (s b)=γ1.loc b) (hm:∀B,γ2.lim B=γ1.lim B) (hob:∀B,γ1.own B=some (.blk b)→γ2.own B=some (.blk (s b))) (hon:∀B i j,γ1.own B=some (.nest b i j)→γ2.own B=some (.nest (s b) i j))
  (hr:∀b',b'∈H7 k.rows.flatten→Tr γ1 bs1 u1 γ2 bs2 u2 s b'):L2 γ2 w bs2 u2 (s b) (k.ren s):=by
 rcases h with⟨h0,h00⟩|hm'|⟨hM,B,o,cs,e,a1,a2,a3,a4,a5,a6,a7,a8⟩
 ·exact .inl ⟨hl.trans h0,by simp[Blk.ren,h00]⟩
 ·refine .inr (.inl (hm'.keep hl (fun B _ hB=>⟨hob B hB,rfl⟩) rfl (by simp[Blk.ren]) (fun r hr=>?_) fun i c hc=>?_))
  ·obtain⟨r0,h1,rfl⟩:=ζt.1 hr
   obtain⟨_,_,_,_,_,_,_,_,h5,_⟩:=hm'
   rw[N4];exact h5 r0 h1
  ·have hc':(F0 s k.rows.flatten)[i]?=some c:=by rw[←ren_flatten];exact hc
   obtain⟨c0,k1,rfl⟩:=N5 hc'
   exact⟨c0,k1,fun v hv=>hv.ren (fun B o v h1 h2=>⟨by rw[hm B];exact h1,h2⟩) (fun _ _ h=>h) fun b' hb'=>hr b' (L5 k1 hb')⟩
 refine .inr (.inr ⟨hM,B,o,cs,e,hl.trans a1,hob B a2,a3,fun r hr=>?_,by simpa[Blk.ren] using a5,fun i c hc=>?_,fun hx=>(hm B).trans (a7 hx),by rw[hm B];simpa[Blk.ren] using a8⟩)
 ·obtain⟨r0,h1,rfl⟩:=ζt.1 hr
  rw[N4];exact a4 r0 h1
 ·have hc':(F0 s k.rows.flatten)[i]?=some c:=by rw[←ren_flatten];exact hc
  obtain⟨c0,k1,rfl⟩:=N5 hc'
  obtain⟨v,v1,v2,v3,v4⟩:=a6 i c0 k1
  refine⟨v,v1,v2.ren (fun B o v h1 h2=>⟨by rw[hm B];exact h1,h2⟩) (fun _ _ h=>h) (fun b' hb'=>hr b' (L5 k1 hb')),v3,?_⟩
  show E5 γ2 w (.nest (s b) (i / k.size) (i % k.size)) (W5 s c0) v
  rw[renV_own]
  unfold E5 at v4 ⊢
  split at v4
  ·rcases v4 with v4|v4
   ·exact .inl v4
   exact .inr ⟨⟨hon _ _ _ v4.1.1,by rw[hm];exact v4.1.2⟩,v4.2⟩
  ·trivial
def CallEff(P:Program)(G:Nat→Option (List V))(o:Oper)(st0:St)(f:FuncId)(E:Value→Ending)(res:V)(st:St):Prop:=
 ∀(γ0:Gh) (a:Act) (w:World),Sim G γ0 st0 a.tmps w→∃as,(execOp a.eval o).run P w=.ok (.enter f as) w∧Calls P f as w fun e w'=>∃v γ',e=E v∧Sim G γ' st a.tmps w'∧
  Rep γ' w' st.b st.u res v∧Grow γ0 w γ' w'∧Pin γ0 st0.b st0.u γ' st.b st.u
theorem CallEff.effO{P:Program}{G:Nat→Option (List V)}{o:Oper}{st0 st:St}{f:FuncId}{res:V}(h:CallEff P G o st0 f .returned res st)(hdst:H2 st.n o.dst=true):N0 P G o st0 (st.put o.dst res):=by
 intro fx γ0 a w hs0 had next Q hn0
 obtain⟨as,hrun,hcs⟩:=h γ0 a w hs0
 show o.upon P a next Q _
 rw[hrun,Oper.upon_enter]
 refine hcs.mono fun e w' hp=>?_
 obtain⟨v,γ',rfl,hs',hrep,g,p⟩:=hp
 refine hn0 _ _ γ' (hs'.put (dst:=o.dst) hdst hrep) g ?_ (by rw[U1];exact had)
 cases o.dst<;>exact p
theorem callS_core{P:Program}{G:Nat→Option (List V)}{o:Oper}{st0 st:St}{f:FuncId}{cs:List V}{res:V}{E:Value→Ending}{ins outs:Nat→Option Blk}(K Kin:Nat→Bool)(r s:Nat→Nat)
  (hcall:∀(γ:Gh) (a:Act) (w:World),Sim G γ st0 a.tmps w→∃(γ1:Gh) (as:Array Value),Sim G γ1 st a.tmps w∧Grow γ w γ1 w∧Pin γ st0.b st0.u γ1 st.b st.u∧(execOp a.eval o).run P w=.ok (.enter f as) w∧J8 γ1 w st.b st.u cs as)
  (hrs:∀c,K c=true→s (r c)=c) (hKin:∀c,Kin c=true→K c=true∧R4 c=true)
  (hin:∀c,Kin c=true→∃k,st.b (r c)=some k∧ins c=some (k.ren s)∧∀b,b∈H7 k.rows.flatten→Kin (s b)=true∧r (s b)=b)
  (hins:∀c,Kin c=false→ins c=none) (hfresh:∀c,K c=true→Kin c=false→st.u (r c)=false)
  (hout:∀c k,outs c=some k→K c=true∧∀b,b∈H7 k.rows.flatten→K b=true) (hres:∀b,b∈U2 res→K b=true)
  (hargs:∀b,b∈H7 cs→Kin (s b)=true∧r (s b)=b)
  (hc:CallG P G f (F0 s cs) ins E res outs) :
  CallEff P G o st0 f E (W5 r res) (st.after (fun j=>K (s j)&&(r (s j)==j)) s r outs):=by
 intro γ0 a w hs0
 obtain⟨γ,as,hs,g0,p0,hrun,has⟩:=hcall γ0 a w hs0
 refine⟨as,hrun,?_⟩
 let J:Nat→Bool:=fun j=>K (s j)&&(r (s j)==j)
 let Jin:Nat→Bool:=fun j=>Kin (s j)&&(r (s j)==j)
 have hJin:∀j,Jin j=true→J j=true:=fun j hj=>by
  simp only[Jin,J,ζA] at hj ⊢;exact⟨(hKin _ hj.1).1,hj.2⟩
 have hJr:∀c,K c=true→J (r c)=true:=fun c hc=>by simp only[J,hrs c hc,hc,Bool.true_and,beq_self_eq_true]
 have hJinr:∀c,Kin c=true→Jin (r c)=true:=fun c hc=>by simp only[Jin,hrs c (hKin c hc).1,hc,Bool.true_and,beq_self_eq_true]
 have hJe:∀j,J j=true→K (s j)=true∧r (s j)=j:=fun j hj=>by simpa[J] using hj
 let γc:Gh:={ loc:=fun c=>if Kin c then γ.loc (r c) else none,own:=fun B=>H4.ren Jin s (γ.own B),lim:=γ.lim }
 have hcown:∀B,γ.own B=none→γc.own B=none:=fun B hB=>by simp[γc,hB,H4.ren]
 have trIn:∀b,Kin (s b)=true→r (s b)=b→Tr γ st.b st.u γc ins uTop s b:=fun b h1 h2=>by
  obtain⟨k,k1,k2,_⟩:=hin _ h1
  rw[h2] at k1
  refine⟨fun k' hk'=>?_,fun hn=>by rw[k1] at hn;simp at hn⟩
  rw[k1] at hk';simp only[ζa] at hk';subst hk'
  exact⟨_,k2,rfl,by simp[Blk.ren],by simp[γc,h1,h2]⟩
 have hargs':J8 γc w ins uTop (F0 s cs) as:=⟨by rw[N4];exact has.1,fun i c v hc hv=>by
  obtain⟨c0,k1,rfl⟩:=N5 hc
  exact(has.2 i c0 v k1 hv).ren (γ1:=γ) (γ2:=γc) (fun B o v h1 h2=>⟨h1,h2⟩) (fun _ _ h=>h) fun b hb=>trIn b (hargs b (L5 k1 hb)).1 (hargs b (L5 k1 hb)).2⟩
 have hblk:∀b k,ins b=some k→uTop b=true∧L2 γc w ins uTop b k:=fun c k' hk'=>by
  have hK:Kin c=true:=by
   cases hk:Kin c with
   | true=>rfl
   | false=>rw[hins c hk] at hk';simp at hk'
  obtain⟨k,k1,k2,k3⟩:=hin c hK
  rw[k2] at hk';simp only[ζa] at hk';subst hk'
  refine⟨uPin_top (hKin c hK).2,?_⟩
  have hsc:=hrs c (hKin c hK).1
  have:=(hs.b _ k k1).ren (γ2:=γc) (bs2:=ins) (u2:=uTop) (s:=s) (by rw[hsc];simp[γc,hK]) (fun _=>rfl) (fun B hB=>by simp[γc,hB,H4.ren,hJinr c hK]) (fun B i j hB=>by simp[γc,hB,H4.ren,hJinr c hK])
   (fun b' hb'=>trIn b' (k3 b' hb').1 (k3 b' hb').2)
  rwa [hsc] at this
 have hcb:∀B x,γc.own B=some x→B < w.heap.size:=fun B x hx=>by
  cases hB:γ.own B with
  | none=>rw[hcown B hB] at hx;simp at hx
  | some y=>exact hs.o B y hB
 refine(hc γc w as (fun g cells hg=>hs.g g cells hg) hcb hargs' hblk).mono fun e w' hp=>?_
 obtain⟨v,γe,rfl,hg,hpin,hrep,hbo,hown⟩:=hp
 let γ':Gh:={ loc:=fun j=>if J j then γe.loc (s j) else γ.loc j,own:=fun B=>if B < w.heap.size∧γc.own B=none then γ.own B else H4.ren K r (γe.own B),lim:=γe.lim }
 have g:Grow γ w γ' w':=by
  refine⟨hg.os,hg.tape,hg.output,hg.size,fun B o v hl hc=>hg.imm B o v hl hc,fun B hB=>hg.lim B hB,fun B hB ho=>?_,hg.room⟩
  obtain⟨a1,a2,a3⟩:=hg.free B hB (hcown B ho)
  refine⟨a1,?_,a3⟩
  show (if B < w.heap.size∧γc.own B=none then γ.own B else H4.ren K r (γe.own B))=none
  rw[if_pos ⟨hB,hcown B ho⟩];exact ho
 have fresh:∀j,J j=true→st.u j=true→Kin (s j)=true:=fun j hj hu=>by
  obtain⟨j1,j2⟩:=hJe j hj
  cases hk:Kin (s j) with
  | true=>rfl
  | false=>have:=hfresh _ j1 hk;rw[j2,hu] at this;simp at this
 have bl:L1 γ st.b st.u γ' (st.after J s r outs).b (st.after J s r outs).u:=by
  refine⟨fun b hb=>by simp[St.after,hb],fun b hb hnb=>?_,fun b k hk=>⟨by simp[St.after,hs.u b k hk],?_⟩⟩
  ·simp only[St.after]
   cases hj:J b with
   | false=>simpa using hnb
   | true=>
    obtain⟨k,k1,_⟩:=hin _ (fresh b hj hb)
    rw[(hJe b hj).2,hnb] at k1;simp at k1
  ·simp only[St.after]
   cases hj:J b with
   | false=>exact .inr ⟨k,by simpa using hk,rfl,fun _=>rfl,by simp[γ',hj]⟩
   | true=>
    have hK:=fresh b hj (hs.u b k hk)
    obtain⟨k0,k1,k2,_⟩:=hin _ hK
    rw[(hJe b hj).2,hk] at k1;simp only[ζa] at k1;subst k1
    have hge:R4 (s b)=true:=(hKin _ hK).2
    obtain⟨_,hp⟩:=(hpin (s b) hge).2.2 _ k2
    rcases hp with hp|⟨k',p1,p2,p3,p4⟩
    ·left;simp[hp]
    ·right
     refine⟨k'.ren r,by simp[p1],p2,by simpa[Blk.ren] using p3,?_⟩
     simp only[γ',hj,if_true]
     rw[p4];simp[γc,hK,(hJe b hj).2]
 have ownE:∀B x,γe.own B=some x→γ'.own B=H4.ren K r (some x):=fun B x hx=>by
  show (if B < w.heap.size∧γc.own B=none then γ.own B else H4.ren K r (γe.own B))=_
  rw[if_neg,hx]
  rintro⟨h1,h2⟩
  have:=(hg.free B h1 h2).2.1
  rw[hx] at this;simp at this
 have trOut:∀b,K b=true→Tr γe outs (fun _=>true) γ' (st.after J s r outs).b (st.after J s r outs).u r b:=fun b hb=>by
  refine⟨fun k hk=>⟨k.ren r,?_,rfl,by simp[Blk.ren],?_⟩,fun hk _=>⟨?_,?_⟩⟩
  ·simp only[St.after,hJr b hb,hrs b hb,hk,if_true,ζZ]
  ·simp only[γ',hJr b hb,hrs b hb,if_true]
  ·simp only[St.after,hJr b hb,hrs b hb,hk,if_true,Option.map_none]
  ·simp only[St.after,hJr b hb,Bool.true_or]
 have hs':Sim G γ' (st.after J s r outs) a.tmps w':=by
  refine⟨hs.n,fun i=>(hs.t i).mono g bl,fun b k hk=>?_,fun b k hk=>?_,hs.g.grow g,fun B x hx=>?_⟩
  ·have hk':=hk
   simp only[St.after] at hk
   cases hj:J b with
   | true=>
    simp only[hj,if_true] at hk
    obtain⟨k0,k1,rfl⟩:=ζb.1 hk
    obtain⟨j1,j2⟩:=hJe b hj
    have:=(hbo _ k0 k1).ren (γ2:=γ') (bs2:=(st.after J s r outs).b) (u2:=(st.after J s r outs).u) (s:=r) (by simp only[γ',j2,hj,if_true]) (fun _=>rfl)
     (fun B hB=>by rw[ownE B _ hB];simp[H4.ren,j1]) (fun B i j hB=>by rw[ownE B _ hB];simp[H4.ren,j1]) (fun b' hb'=>trOut b' ((hout _ k0 k1).2 b' hb'))
    rwa [j2] at this
   | false=>
    simp only[hj] at hk
    have hk:st.b b=some k:=by simpa using hk
    have hji:Jin b=false:=by
     cases hi:Jin b with
     | false=>rfl
     | true=>rw[hJin b hi] at hj;simp at hj
    rcases hs.b b k hk with⟨h0,h00⟩|hm'|⟨hM,B,o,cs',e,a1,a2,a3,a4,a5,a6,a7,a8⟩
    ·exact .inl ⟨by simp only[γ',hj];simpa using h0,h00⟩
    ·refine .inr (.inl (hm'.same (by simp only[γ',hj];simp) (fun B _ hB=>?_) fun c v hr=>hr.mono g bl))
     have hcn:γc.own B=none:=by simp[γc,hB,H4.ren,hji]
     obtain⟨f1,f2,f3⟩:=hg.free B (hs.o B _ hB) hcn
     refine⟨?_,f1⟩
     show (if B < w.heap.size∧γc.own B=none then γ.own B else H4.ren K r (γe.own B))=_
     rw[if_pos ⟨hs.o B _ hB,hcn⟩];exact hB
    have oc:∀B',(γ.own B'=some (.blk b)∨∃i j,γ.own B'=some (.nest b i j))→γc.own B'=none:=fun B' hB'=>by
     rcases hB' with hB'|⟨i,j,hB'⟩<;>simp[γc,hB',H4.ren,hji]
    have oB:∀B',(γ.own B'=some (.blk b)∨∃i j,γ.own B'=some (.nest b i j))→B' < w.heap.size:=fun B' hB'=>by
     rcases hB' with hB'|⟨i,j,hB'⟩<;>exact hs.o B' _ hB'
    have fr:∀B',(γ.own B'=some (.blk b)∨∃i j,γ.own B'=some (.nest b i j))→w'.heap[B']?=w.heap[B']?∧γ'.own B'=γ.own B'∧γe.lim B'=γ.lim B':=fun B' hB'=>by
     obtain⟨f1,f2,f3⟩:=hg.free B' (oB B' hB') (oc B' hB')
     refine⟨f1,?_,f3⟩
     show (if B' < w.heap.size∧γc.own B'=none then γ.own B' else H4.ren K r (γe.own B'))=_
     rw[if_pos ⟨oB B' hB',oc B' hB'⟩]
    obtain⟨f1,f2,f3⟩:=fr B (.inl a2)
    refine .inr (.inr ⟨hM,B,o,cs',e,by simp only[γ',hj];simpa using a1,f2.trans a2,a3.of_eq f1,a4,a5,fun i c hc=>?_,fun hx=>f3.trans (a7 hx),by show γe.lim B≤_;rw[f3];exact a8⟩)
    obtain⟨y,b1,b2,b3,b4⟩:=a6 i c hc
    refine⟨y,b1,b2.mono g bl,b3,?_⟩
    replace b4:=b4.grow g (fun B hB=>by
     show γe.lim B≤_;rw[(fr B (.inr ⟨_,_,hB⟩)).2.2];exact ζK _)
    unfold E5 at b4 ⊢
    split at b4
    ·rename_i size rows ad l cp
     rcases b4 with b4|b4
     ·exact .inl b4
     obtain⟨q1,q2,q3⟩:=fr ad.block (.inr ⟨_,_,b4.1.1⟩)
     exact .inr ⟨⟨q2.trans b4.1.1,by show γe.lim _≤_;rw[q3];exact b4.1.2⟩,b4.2⟩
    ·trivial
  ·simp only[St.after] at hk ⊢
   cases hj:J b with
   | true=>rfl
   | false=>simp only[hj] at hk;simpa using hs.u b k (by simpa using hk)
  ·by_cases hB:B < w.heap.size∧γc.own B=none
   ·exact ζM hB.1 hg.size
   ·simp only[γ'] at hx
    rw[if_neg hB] at hx
    cases hB2:γe.own B with
    | none=>rw[hB2] at hx;simp[H4.ren] at hx
    | some y=>exact hown B y hB2
 exact⟨v,γ',rfl,hs',hrep.ren (γ1:=γe) (γ2:=γ') (bs2:=(st.after J s r outs).b) (u2:=(st.after J s r outs).u) (s:=r) (fun B o v h1 h2=>⟨h1,h2⟩) (fun _ _ h=>h) fun b hb=>trOut b (hres b hb),g0.trans g,p0.trans bl.pin⟩
theorem effO_callS{P:Program}{G:Nat→Option (List V)}{o:Oper}{st0 st:St}{f:FuncId}{cs:List V}{res:V}{ins outs:Nat→Option Blk}(K Kin:Nat→Bool)(r s:Nat→Nat)
  (hcall:∀(γ:Gh) (a:Act) (w:World),Sim G γ st0 a.tmps w→∃(γ1:Gh) (as:Array Value),Sim G γ1 st a.tmps w∧Grow γ w γ1 w∧Pin γ st0.b st0.u γ1 st.b st.u∧(execOp a.eval o).run P w=.ok (.enter f as) w∧J8 γ1 w st.b st.u cs as)
  (hrs:∀c,K c=true→s (r c)=c) (hKin:∀c,Kin c=true→K c=true∧R4 c=true)
  (hin:∀c,Kin c=true→∃k,st.b (r c)=some k∧ins c=some (k.ren s)∧∀b,b∈H7 k.rows.flatten→Kin (s b)=true∧r (s b)=b)
  (hins:∀c,Kin c=false→ins c=none) (hfresh:∀c,K c=true→Kin c=false→st.u (r c)=false)
  (hout:∀c k,outs c=some k→K c=true∧∀b,b∈H7 k.rows.flatten→K b=true) (hres:∀b,b∈U2 res→K b=true)
  (hargs:∀b,b∈H7 cs→Kin (s b)=true∧r (s b)=b)
  (hc:CallC P G f (F0 s cs) ins res outs) (hdst:H2 st.n o.dst=true) :
  N0 P G o st0 ((st.after (fun j=>K (s j)&&(r (s j)==j)) s r outs).put o.dst (W5 r res)):=
 CallEff.effO (callS_core K Kin r s hcall hrs hKin hin hins hfresh hout hres hargs hc) hdst
end Go.EV
namespace Go.EV
open Go
def opBs(st:St)(o:Oper):List Nat:=match o.op with
 | .move _=>[]
 | .assign _=>[]
 | _=>(Y5 o).flatMap fun t=>U2 (st.t t)
def opR(ops:Array Oper)(i:Nat)(st:St)(ex:List Nat):List Loc:=
 match ops[i]? with
 | none=>[]
 | some o=>guardLocs ops o++(Y5 o).map .t++(opBs st o).map .b++ex.map .b++(match o.dst with|some d=>[.b d]|none=>[])
def EffL(P:Program)(G:Nat→Option (List V))(o:Oper)(st:St)(ex:List Nat)(ws:List Wr):Prop:=
 ∀st2:St,st2.n=st.n→(∀t,t∈Y5 o→st2.t t=st.t t)→(∀b,b∈opBs st o++ex→st2.b b=st.b b∧st2.u b=st.u b)→(∀d,o.dst=some d→st2.b d=st.b d∧st2.u d=st.u d)→N0 P G o st2 (st2.app ws)
theorem stepL_of_effL{P:Program}{G:Nat→Option (List V)}{ops:Array Oper}{i:Nat}{o:Oper}{st:St}{ex:List Nat}{ws:List Wr}(hi:ops[i]?=some o)(hg:X0 ops st o=some true)(h:EffL P G o st ex ws) :
  A3 P G ops i st (opR ops i st ex) ws:=by
 intro st2 hn hag
 unfold opR at hag
 rw[hi] at hag
 simp only at hag
 unfold StepV
 rw[hi]
 refine .inl ⟨by rw[guardV_local hn (fun l hl=>hag l (by simp[hl]))];exact hg,h st2 hn (fun t ht=>?_) (fun b hb=>?_) fun d hd=>?_⟩
 ·exact Eq.symm (show st.t t=st2.t t from hag (.t t) (by simp[ht]))
 ·have:F2 st st2 (.b b):=hag (.b b) (by
   rcases ζr.1 hb with hb|hb<;>simp[hb])
  exact⟨this.1.symm,this.2.symm⟩
 ·have:F2 st st2 (.b d):=hag (.b d) (by rw[hd];simp)
  exact⟨this.1.symm,this.2.symm⟩
def K0(p:J0)(st:St):Nat→St
 | 0=>st
 | n+1=>(K0 p st n).app (p.ws n)
theorem C1(p:J0)(st:St)(i:Nat):∀n,p.st (fun j=>decide (j < i)) st n=K0 p st (min i n)
 | 0=>by simp[J0.st,K0]
 | n+1=>by
  simp only[J0.st]
  rw[C1 p st i n]
  by_cases h:n < i
  ·rw[if_pos (by simpa using h),show min i n=n by omega,show min i (n+1)=n+1 by omega];rfl
  ·rw[if_neg (by simpa using h),show min i n=i by omega,show min i (n+1)=i by omega]
theorem planSt_all(p:J0)(st:St):∀n,p.st (fun _=>true) st n=K0 p st n
 | 0=>rfl
 | n+1=>by simp only[J0.st,if_true,planSt_all p st n,K0]
theorem H3.plan{P:Program}{G:Nat→Option (List V)}{ops:Array Oper}{Q:Exit→St→Prop}{p:J0}{st:St}(h:∀i,i < ops.size→A3 P G ops i (K0 p st i) (p.rs i) (p.ws i))(hq:Q .normal (K0 p st ops.size)) :
  ∀n k,k+n=ops.size→H3 P G ops (List.range' k n) (K0 p st k) Q
 | 0,k,hk=>by
  have:k=ops.size:=by omega
  subst this;exact H3.nil hq
 | n+1,k,hk=>by
  rw[List.range'_succ]
  exact H3.cons (h k (by omega) _ rfl (fun l _=>F2.refl _ l)) (H3.plan h hq n (k+1) (by omega))
def drawOk(ops:Array Oper)(p:J0):Bool:=p.ok ops&&(ops.toList.zipIdx.all fun x=>x.1.after.all fun e=>!Region.binds .any e || decide (e.on < x.2))
def opAt(ops:Array Oper)(i:Nat)(s:St):Option Oper:=
 match ops[i]? with
 | some o=>match X0 ops s o with
  | some true=>some o
  | _=>none
 | none=>none
theorem opAt_spec{ops:Array Oper}{i:Nat}{s:St}{o:Oper}(h:opAt ops i s=some o):ops[i]?=some o∧X0 ops s o=some true:=by
 unfold opAt at h
 split at h
 ·rename_i o' hi
  split at h<;>simp at h
  rename_i hg
  subst h;exact⟨hi,hg⟩
 ·simp at h
def St.evC(G:Nat→Option (List V))(s:St)(o:Oper):Operand→Option V:=(s.cutT (Y5 o)).ev G
def St.lookC(s:St)(o:Oper)(ex:List Nat):Nat→Option Blk:=cutB s.b (opBs s o++ex)
theorem P1{G:Nat→Option (List V)}{s s2:St}{o:Oper}(h:∀t,t∈Y5 o→s2.t t=s.t t):(s2.cutT (Y5 o)).ev G=s.evC G o:=funext fun x=>by
 unfold St.evC
 have e:(s2.cutT (Y5 o)).t=(s.cutT (Y5 o)).t:=funext fun j=>by
  show (if (Y5 o).contains j then s2.t j else .undef)=(if (Y5 o).contains j then s.t j else .undef)
  split
  ·rename_i hc;exact h j (by simpa using hc)
  ·rfl
 cases x<;>simp only[St.ev]
 rw[e]
theorem P8{s s2:St}{o:Oper}{ex:List Nat}(h:∀b,b∈opBs s o++ex→s2.b b=s.b b∧s2.u b=s.u b):cutB s2.b (opBs s o++ex)=s.lookC o ex:=funext fun j=>by
 unfold St.lookC cutB
 split
 ·rename_i hc;exact(h j (by simpa using hc)).1
 ·rfl
theorem effL_read{P:Program}{G:Nat→Option (List V)}{o:Oper}{s:St}{ex:List Nat}{c:V}(hd:H2 s.n o.dst=true)(h:B7 P (s.evC G o) (s.lookC o ex) o.op=some c):EffL P G o s ex (dstW o.dst c):=by
 intro s2 hn ht hb _
 rw[app_dstW]
 exact X9 (by rw[hn];exact hd) fun γ a w hs=>run_readV (hs.cutT (Y5 o)) (readV_mono (cutB_le s2.b (opBs s o++ex)) (by
  show B7 P ((s2.cutT (Y5 o)).ev G) _ _=_
  rw[P1 ht,P8 hb];exact h))
theorem P5{P:Program}{G:Nat→Option (List V)}{ops:Array Oper}{s:St}{i:Nat}{ex:List Nat}{ws:List Wr}
  (h:∃o,opAt ops i s=some o∧EffL P G o s ex ws):A3 P G ops i s (opR ops i s ex) ws:=by
 obtain⟨o,h1,h2⟩:=h
 obtain⟨h3,h4⟩:=opAt_spec h1
 exact stepL_of_effL h3 h4 h2
section
variable {P:Program} {G:Nat→Option (List V)} {ops:Array Oper} {s:St} {i:Nat} {ex:List Nat}
def sliceSz(P:Program)(t:TypeId):Option Nat:=match P.underlying t with
 | some (.slice e)=>(P.info? e).map (·.size)
 | _=>none
def idxSl(P:Program)(G:Nat→Option (List V))(ops:Array Oper)(i:Nat)(s:St):Option (Nat×List (List V)×Int):=
 match opAt ops i s with
 | some o=>match o.op,o.dst with
  | .indexAddr t x j,some d=>if d < s.n then match s.evC G o x,s.evC G o j with
    | some (.sl _ size rows),some (.int _ n)=>if sliceSz P t=some size then some (d,rows,n) else none
    | _,_=>none
   else none
  | _,_=>none
 | none=>none
theorem told_idxSl{d:Nat}{rows:List (List V)}{n:Int}{r:List V}(h1:idxSl P G ops i s=some (d,rows,n))(h0:0≤n)(hr:rows[n.toNat]?=some r):A3 P G ops i s (opR ops i s ex) ([.t d (.snap r)]):=P5 (by
 simp only[idxSl] at h1
 split at h1
 ·rename_i o ho
  refine⟨o,ho,?_⟩
  split at h1
  ·rename_i t x j d' hop hdst
   split at h1
   ·rename_i hd
    split at h1
    ·rename_i ow size rows' k n' hx hj
     split at h1<;>simp at h1
     rename_i hsz
     obtain⟨rfl,rfl,rfl⟩:=h1
     have:=effL_read (P:=P) (G:=G) (o:=o) (s:=s) (ex:=ex) (c:=.snap r) (by rw[hdst];simpa[H2] using hd) (by
      rw[hop]
      simp only[B7,hx,hj,L0]
      unfold sliceSz at hsz
      split at hsz
      ·rename_i e he
       obtain⟨ei,k1,k2⟩:=ζb.1 hsz
       rw[he]
       simp only[k1,←k2,if_true,if_pos h0,hr,ζZ]
      ·simp at hsz)
     rw[hdst] at this;exact this
    ·simp at h1
   ·simp at h1
  ·simp at h1
 ·simp at h1)
def idxRef(P:Program)(G:Nat→Option (List V))(ops:Array Oper)(ex:List Nat)(i:Nat)(s:St):Option (Nat×Nat×Nat×Nat×Int):=
 match opAt ops i s with
 | some o=>match o.op,o.dst with
  | .indexAddr t x j,some d=>if d < s.n then match s.evC G o x,s.evC G o j with
    | some (.ref b off len),some (.int _ n)=>match s.lookC o ex b with
     | some k=>if sliceSz P t=some k.size then some (d,b,off,len,n) else none
     | none=>none
    | _,_=>none
   else none
  | _,_=>none
 | none=>none
def loadRow(G:Nat→Option (List V))(ops:Array Oper)(ex:List Nat)(i:Nat)(s:St):Option (TypeId×Nat×List (List V)×Nat×Nat):=
 match opAt ops i s with
 | some o=>match o.op,o.dst with
  | .load t x,some d=>if d < s.n then match s.evC G o x with
    | some (.ptr b r off)=>match s.lookC o ex b with
     | some k=>some (t,d,k.rows,r,off)
     | none=>none
    | _=>none
   else none
  | _,_=>none
 | none=>none
theorem told_loadRow{t:TypeId}{d j off:Nat}{rows:List (List V)}{r:List V}{c:V}(h1:loadRow G ops ex i s=some (t,d,rows,j,off))(hr:rows[j]?=some r)(hc:O9 P t (r.drop off)=some c) :
  A3 P G ops i s (opR ops i s ex) ([.t d c]):=P5 (by
 simp only[loadRow] at h1
 split at h1
 ·rename_i o ho
  refine⟨o,ho,?_⟩
  split at h1
  ·rename_i t' x d' hop hdst
   split at h1
   ·rename_i hd
    split at h1
    ·rename_i b r' off' hx
     split at h1<;>simp at h1
     rename_i k hk
     obtain⟨rfl,rfl,rfl,rfl,rfl⟩:=h1
     have:=effL_read (P:=P) (G:=G) (o:=o) (s:=s) (ex:=ex) (c:=c) (by rw[hdst];simpa[H2] using hd) (by
      rw[hop]
      simp only[B7,hx,ξa,loadV,cellsV,hk,hr,hc])
     rw[hdst] at this;exact this
    ·simp at h1
   ·simp at h1
  ·simp at h1
 ·simp at h1)
def storeRowV(P:Program)(t:TypeId)(size:Nat)(r:List V)(off:Nat)(c:V):Option (List V):=
 match P.info? t,boxV c with
 | some ti,some cs=>if ti.size=cs.length∧off+cs.length≤size then some (L4 r off cs) else none
 | _,_=>none
def storeRow(G:Nat→Option (List V))(ops:Array Oper)(ex:List Nat)(i:Nat)(s:St):Option (TypeId×Nat×Nat×List (List V)×Nat×Nat×V):=
 match opAt ops i s with
 | some o=>match o.op,o.dst with
  | .store t x y,none=>match s.evC G o x,s.evC G o y with
   | some (.ptr b r off),some c=>match s.lookC o ex b with
    | some k=>if k.excl=true then some (t,b,k.size,k.rows,r,off,c) else none
    | none=>none
   | _,_=>none
  | _,_=>none
 | none=>none
theorem told_storeRowE{t:TypeId}{b size j off:Nat}{rows:List (List V)}{r r':List V}{c:V}(h1:storeRow G ops ex i s=some (t,b,size,rows,j,off,c))(hr:rows[j]?=some r)(hc:storeRowV P t size r off c=some r') :
  ∃o,opAt ops i s=some o∧EffL P G o s ex [.b b (some ⟨size,true,rows.set j r'⟩)]:=(by
 simp only[storeRow] at h1
 split at h1
 ·rename_i o ho
  refine⟨o,ho,?_⟩
  split at h1
  ·rename_i t' x y hop hdst
   split at h1
   ·rename_i b' r0 off' c' hx hy
    split at h1
    ·rename_i k hk
     split at h1<;>simp at h1
     rename_i hex
     obtain⟨rfl,rfl,rfl,rfl,rfl,rfl,rfl⟩:=h1
     intro s2 hn ht hb hu
     have hk2:cutB s2.b (opBs s o++ex) b'=some k:=by rw[P8 hb];exact hk
     have hkb:=cutB_le _ _ _ _ hk2
     have hst:R6 P t' k r0 off' c'=some ⟨k.size,true,k.rows.set r0 r'⟩:=by
      unfold storeRowV at hc
      unfold R6
      split at hc
      ·rename_i ti cs h1 h2
       split at hc<;>simp at hc
       rename_i hcond
       subst hc
       simp only[h1,h2,hr]
       rw[if_pos ⟨hcond.1,hcond.2,hex⟩,hex]
      ·simp at hc
     exact effO_store' hop hdst (fun _ _ _ h=>(h.cutT (Y5 o)).ev (by rw[P1 ht];exact hx)) (fun _ _ _ h=>(h.cutT (Y5 o)).ev (by rw[P1 ht];exact hy)) hkb hst
    ·simp at h1
   ·simp at h1
  ·simp at h1
 ·simp at h1)
end
section
variable {P:Program} {G:Nat→Option (List V)} {ops:Array Oper} {s:St} {i:Nat} {ex:List Nat}
theorem ev_cut{s:St}{ts:List Nat}{x:Operand}{c:V}(h:(s.cutT ts).ev G x=some c):c=.undef∨s.ev G x=some c:=by
 cases x<;>try exact .inr h
 rename_i t
 simp only[St.ev,St.cutT,ζa] at h ⊢
 split at h
 ·exact .inr h
 ·exact .inl h.symm
def dstL(look:Nat→Option Blk)(size:Nat)(c:V):Option (Src×Bool):=
 match c with
 | .nilsl=>some (⟨none,0,size,true,[]⟩,true)
 | .ref b off len=>match look b with
  | some k=>some (⟨some b,off,size,k.excl,(k.rows.drop off).take len⟩,k.size==size&&decide (off+len≤k.rows.length)&&(k.excl || decide (off+len=k.rows.length)))
  | none=>none
 | _=>none
theorem dstL_spec{look:Nat→Option Blk}{size:Nat}{c:V}{d:Src}(h:dstL look size c=some (d,true)):dstV look size c=some d:=by
 unfold dstL at h
 unfold dstV
 split at h
 ·simp only[ζa,ζP] at h;rw[←h.1]
 ·split at h
  ·rename_i k hk
   simp only[ζa,ζP,ζA,ζX,beq_iff_eq,ζF] at h
   obtain⟨rfl,⟨h1,h2⟩,h3⟩:=h
   simp only[hk]
   rw[if_pos ⟨h1,h2,h3⟩]
  ·simp at h
 ·simp at h
def srcL(look:Nat→Option Blk)(size:Nat)(dst:Option Nat)(c:V):Option (Src×Bool):=
 match c with
 | .nilsl=>some (⟨none,0,size,true,[]⟩,true)
 | .sl _ s rows=>some (⟨none,0,size,true,rows.map (·.map V.strip)⟩,s==size)
 | .ref b off len=>match look b with
  | some k=>some ((if dst=some b then ⟨none,0,size,true,((k.rows.drop off).take len).map (·.map V.strip)⟩ else ⟨some b,off,size,true,(k.rows.drop off).take len⟩),k.size==size&&decide (off+len≤k.rows.length))
  | none=>none
 | _=>none
theorem srcL_spec{look:Nat→Option Blk}{size:Nat}{dst:Option Nat}{c:V}{d:Src}(h:srcL look size dst c=some (d,true)):srcV look size dst c=some d:=by
 unfold srcL at h
 unfold srcV
 split at h
 ·simp only[ζa,ζP] at h;rw[←h.1]
 ·simp only[ζa,ζP,beq_iff_eq] at h
  simp only
  rw[if_pos h.2,h.1]
 ·split at h
  ·rename_i k hk
   simp only[ζa,ζP,ζA,beq_iff_eq,ζF] at h
   obtain⟨h0,h1,h2⟩:=h
   simp only[hk]
   rw[if_pos ⟨h1,h2⟩,←h0]
   split<;>rfl
  ·simp at h
 ·simp at h
def appAt(P:Program)(G:Nat→Option (List V))(ops:Array Oper)(ex:List Nat)(i:Nat)(s:St):Option (Nat×Src×Src×Nat×Nat×Bool):=
  match opAt ops i s with
  | some o=>match o.op,o.dst with
    | .call { callee:=.builtin .append,args:=as,argTypes:=ts },some d=>if d < s.n∧s.u d=false then match as.toList,ts.toList with
        | [x,y],[t,t2]=>match s.evC G o x,s.evC G o y,P.underlying t,P.underlying t2 with
          | some cx,some cy,some (.slice e),some (.slice _)=>match P.info? e with
            | some ei=>if 0 < ei.bytes∧(zeroV P e).map List.length=some ei.size then match dstL (s.lookC o ex) ei.size cx with
                | some (ds,c1)=>match srcL (s.lookC o ex) ei.size ds.b cy with
                  | some (ss,c2)=>some (d,ds,ss,ei.size,ei.bytes,c1&&c2)
                  | none=>none
                | none=>none
              else none
            | none=>none
          | _,_,_,_=>none
        | _,_=>none
      else none
    | _,_=>none
  | none=>none
def delW(b:Option Nat):List Wr:=match b with|some i=>[.b i none]|none=>[]
theorem app_delW(s:St)(b:Option Nat)(ws:List Wr):s.app (delW b++ws)=(s.delO b).app ws:=by cases b<;>rfl
theorem dstV_mono{l1 l2:Nat→Option Blk}(h:F3 l1 l2){size:Nat}{c:V}{d:Src}(he:dstV l1 size c=some d):dstV l2 size c=some d:=by
 unfold dstV at he ⊢
 split at he<;>try exact he
 rename_i b off len
 cases hb:l1 b with
 | none=>rw[hb] at he;simp at he
 | some k=>rw[hb] at he;simp only[h b k hb];exact he
theorem srcV_mono{l1 l2:Nat→Option Blk}(h:F3 l1 l2){size:Nat}{dst:Option Nat}{c:V}{d:Src}(he:srcV l1 size dst c=some d):srcV l2 size dst c=some d:=by
 unfold srcV at he ⊢
 split at he<;>try exact he
 rename_i b off len
 cases hb:l1 b with
 | none=>rw[hb] at he;simp at he
 | some k=>rw[hb] at he;simp only[h b k hb];exact he
theorem told_appendE{d size bytes m:Nat}{ds ss:Src}{c:Bool}{rows:List (List V)}(h1:appAt P G ops ex i s=some (d,ds,ss,size,bytes,c))(hc:c=true)(hb:(ds.rows.length+ss.rows.length) * bytes≤140737488355328)
  (hr:ds.rows++ss.rows=rows) (hm:ds.rows.length+ss.rows.length=m):∃o,opAt ops i s=some o∧EffL P G o s ex (delW ds.b++(delW ss.b++[.b d (some ⟨size,ds.excl,rows⟩),.t d (.ref d 0 m)])):=(by
 subst hc hr hm
 simp only[appAt] at h1
 split at h1
 ·rename_i o ho
  refine⟨o,ho,?_⟩
  split at h1
  ·rename_i as ts d' hop hdst
   split at h1
   ·rename_i hd
    split at h1
    ·rename_i x y t t2 hxs hts
     split at h1
     ·rename_i cx cy e e2 hx hy ht ht2
      split at h1
      ·rename_i ei hi
       split at h1
       ·rename_i hz
        split at h1
        ·rename_i ds' c1 hds
         split at h1
         ·rename_i ss' c2 hss
          simp only[ζa,ζP,ζA] at h1
          obtain⟨rfl,rfl,rfl,rfl,rfl,rfl,rfl⟩:=h1
          intro s2 hn htm hbm hum
          have hax:as=#[x,y]:=Array.toList_inj.1 (by rw[hxs])
          have hat:ts=#[t,t2]:=Array.toList_inj.1 (by rw[hts])
          subst hax hat
          have le:F3 (s.lookC o ex) s2.b:=by rw[←P8 hbm];exact cutB_le _ _
          have k1:=dstV_mono le (dstL_spec hds)
          have k2:=srcV_mono le (srcL_spec hss)
          have ex1:s2.ev G x=some cx:=by
           rcases ev_cut (ts:=Y5 o) (s:=s2) (by rw[P1 htm];exact hx) with rfl|h
           ·simp[dstL] at hds
           ·exact h
          have ex2:s2.ev G y=some cy:=by
           rcases ev_cut (ts:=Y5 o) (s:=s2) (by rw[P1 htm];exact hy) with rfl|h
           ·simp[srcL] at hss
           ·exact h
          have:=effO_append (P:=P) (G:=G) (st:=s2) (ds0:=ds') (ss0:=ss') (k0:=⟨ei.size,ds'.excl,ds'.rows++ss'.rows⟩) hop hdst (by rw[hn];exact hd.1) (by rw[(hum d' hdst).2];exact hd.2) ex1 ex2 (by
           unfold appendV
           simp only[ht,ht2,hi,k1,k2]
           rw[if_pos ⟨hb,hz.1,hz.2⟩])
          rw[app_delW,app_delW]
          exact this
         ·simp at h1
        ·simp at h1
       ·simp at h1
      ·simp at h1
     ·simp at h1
    ·simp at h1
   ·simp at h1
  ·simp at h1
 ·simp at h1)
def callAt(P:Program)(G:Nat→Option (List V))(ops:Array Oper)(i:Nat)(s:St):Option (Oper×FuncId×List V):=
 match opAt ops i s with
 | some o=>match o.op with
  | .call { callee:=.value x,args:=xs,argTypes:=_ }=>if H2 s.n o.dst then match S4 G (s.cutT (Y5 o)) x xs.toList with
    | some (f,cs)=>match P.funcs[f]? with
     | some fn=>if (fn.name== "runtime.NumGoroutine")=false∧fn.body.isNone=false then some (o,f,cs) else none
     | none=>none
    | none=>none
   else none
  | _=>none
 | none=>none
theorem callArgs_cut{s s2:St}{o:Oper}(h:∀t,t∈Y5 o→s2.t t=s.t t)(x:Operand)(xs:List Operand):S4 G (s2.cutT (Y5 o)) x xs=S4 G (s.cutT (Y5 o)) x xs:=by
 unfold S4
 rw[show (s2.cutT (Y5 o)).ev G=(s.cutT (Y5 o)).ev G from P1 h]
theorem callAt_spec{s:St}{o:Oper}{f:FuncId}{cs:List V}(h:callAt P G ops i s=some (o,f,cs)) :
  opAt ops i s=some o∧H2 s.n o.dst=true∧∃x xs ts fn,o.op=.call { callee:=.value x,args:=xs,argTypes:=ts }∧S4 G (s.cutT (Y5 o)) x xs.toList=some (f,cs)∧
   P.funcs[f]?=some fn∧(fn.name== "runtime.NumGoroutine")=false∧fn.body.isNone=false:=by
 unfold callAt at h
 split at h
 ·rename_i o' ho
  split at h
  ·rename_i x xs ts hop
   split at h
   ·rename_i hd
    split at h
    ·rename_i f' cs' hca
     split at h
     ·rename_i fn hfn
      split at h<;>simp at h
      rename_i hc
      obtain⟨rfl,rfl,rfl⟩:=h
      exact⟨ho,hd,x,xs,ts,fn,hop,hca,hfn,hc.1,hc.2⟩
     ·simp at h
    ·simp at h
   ·simp at h
  ·simp at h
 ·simp at h
def viewAt(P:Program)(G:Nat→Option (List V))(ops:Array Oper)(ex:List Nat)(M1 i:Nat)(s:St):Option (Option Nat×FuncId×List V):=
 match callAt P G ops i s with
 | some (o,f,cs)=>(K7 (M9 (s.lookC o ex) M1) cs).map fun ds=>(o.dst,f,ds)
 | none=>none
theorem told_view(M1:Nat){dst:Option Nat}{f:FuncId}{ds:List V}{r:V}(h1:viewAt P G ops ex M1 i s=some (dst,f,ds))(hc:PureC P G f ds r)(hr:O1 r=true):A3 P G ops i s (opR ops i s ex) (dstW dst r):=P5 (by
 simp only[viewAt] at h1
 split at h1
 ·rename_i o f' cs hca
  obtain⟨ds',hm,he⟩:=ζb.1 h1
  simp only[ζP] at he
  obtain⟨rfl,rfl,rfl⟩:=he
  obtain⟨ho,hd,x,xs,ts,fn,hop,hcs,hfn,hna,hbo⟩:=callAt_spec hca
  refine⟨o,ho,fun s2 hn ht hb _=>?_⟩
  rw[app_dstW]
  have le:F3 (s.lookC o ex) s2.b:=by rw[←P8 hb];exact cutB_le _ _
  exact effO_call_view (Y5 o) hop (by rw[callArgs_cut ht];exact hcs) hfn hna hbo (A5 hm fun x y hx=>viewV_mono le M1 x y hx) hc hr (by rw[hn];exact hd)
 ·simp at h1)
end
theorem dcell_data{d:V}(hd:U5 d=true){γ:Gh}{w:World}{bs:Nat→Option Blk}{u:Nat→Bool}{v:Value}(hr:Rep γ w bs u d v):W2 γ.lim w d v:=by
 cases hr with
 | data h=>exact h
 | undef=>simp[U5] at hd
 | ref=>simp[U5] at hd
 | refE=>simp[U5] at hd
 | refN=>simp[U5] at hd
 | deadRef=>simp[U5] at hd
 | ptr=>simp[U5] at hd
 | deadPtr=>simp[U5] at hd
 | mp=>simp[U5] at hd
 | deadMp=>simp[U5] at hd
 | fn f first captured fs cs h1 h2 _ _=>
  simp only[U5,ζA,List.isEmpty_iff] at hd
  obtain⟨rfl,rfl⟩:=hd
  exact .fn f [] [] fs cs h1 h2 (fun i c v hc=>by simp at hc) (fun i c v hc=>by simp at hc)
 | agg=>simp[U5] at hd
 | tup=>simp[U5] at hd
def shV(b:Nat)(k:Blk)(c:V):V:=
 match c with
 | .ref b' off len=>if b'=b then .sl false k.size ((k.rows.drop off).take len) else c
 | c=>c
theorem Sim.shareL{G:Nat→Option (List V)}{γ:Gh}{st:St}{tmps:Array Value}{w:World}(h:Sim G γ st tmps w){b:Nat}{k:Blk}(hb:st.b b=some k)(hd:∀r,r∈k.rows→∀c,c∈r→U5 c=true) :
  ∃γ',Sim G γ' (st.delB b) tmps w∧Grow γ w γ' w∧Pin γ st.b st.u γ' (st.delB b).b (st.delB b).u∧γ'.loc=γ.loc∧∀c v,Rep γ w st.b st.u c v→Rep γ' w (st.delB b).b (st.delB b).u (shV b k c) v:=by
 let γ':Gh:={ loc:=γ.loc,own:=γ.own,lim:=fun B=>match γ.loc b with|some (B0,o)=>if B=B0 then max (γ.lim B) (o+k.rows.length * k.size) else γ.lim B|none=>γ.lim B }
 have hlim:∀B,γ.lim B≤γ'.lim B∧(γ.own B≠some (.blk b)→γ'.lim B=γ.lim B):=fun B=>by
  simp only[γ']
  rcases L2.at (h.b b k hb) with h0|⟨B0,o,a1,a2⟩
  ·rw[h0];exact⟨ζK _,fun _=>rfl⟩
  ·rw[a1]
   simp only
   by_cases hB:B=B0
   ·subst hB;rw[if_pos rfl];exact⟨Nat.le_max_left _ _,fun hx=>absurd a2 hx⟩
   ·rw[if_neg hB];exact⟨ζK _,fun _=>rfl⟩
 have g:Grow γ w γ' w:=⟨rfl,rfl,rfl,ζK _,fun _ _ _ _ h=>h,fun B _=>(hlim B).1,fun B _ ho=>⟨rfl,ho,(hlim B).2 (by rw[ho];simp)⟩,fun _ cs _ fz h=>⟨cs,fz,h,rfl,.inl rfl⟩⟩
 have bl:L1 γ st.b st.u γ' (st.delB b).b (st.delB b).u:=by
  refine⟨fun x hx=>by simp only[St.delB];split<;>simp_all,fun x _ hn=>by simp only[St.delB];split<;>simp_all,fun x q hq=>⟨by simp only[St.delB];split;rfl;exact h.u x q hq,?_⟩⟩
  by_cases hx:x=b
  ·exact .inl (by simp[St.delB,hx])
  ·exact .inr ⟨q,by simp[St.delB,hx,hq],rfl,fun _=>rfl,rfl⟩
 refine⟨γ',⟨h.n,fun i=>(h.t i).mono g bl,fun x q hq=>?_,fun x q hq=>?_,h.g.grow g,h.o⟩,g,bl.pin,rfl,fun c v hr=>?_⟩
 ·have hne:x≠b:=fun e=>by subst e;simp[St.delB] at hq
  have hq':st.b x=some q:=by simpa[St.delB,hne] using hq
  rcases h.b x q hq' with h0|hm|⟨hM,B,o,cs,e,a1,a2,a3,a4,a5,a6,a7,a8⟩
  ·exact .inl h0
  ·exact .inr (.inl (hm.same rfl (fun B _ hB=>⟨hB,rfl⟩) fun c v hr=>hr.mono g bl))
  have hl:γ'.lim B=γ.lim B:=(hlim B).2 (by rw[a2];simp[hne])
  refine .inr (.inr ⟨hM,B,o,cs,e,a1,a2,a3,a4,a5,fun i c hc=>?_,fun hx=>hl.trans (a7 hx),by rw[hl];exact a8⟩)
  obtain⟨v,b1,b2,b3,b4⟩:=a6 i c hc
  exact⟨v,b1,b2.mono g bl,b3,b4.mono fun B' hB'=>⟨hB',by rw[(hlim B').2 (by rw[hB'];simp)];exact ζK _⟩⟩
 ·simp only[St.delB] at hq ⊢
  split
  ·rfl
  ·rename_i hx;rw[if_neg hx] at hq;exact h.u x q hq
 ·cases c with
  | ref b' off len=>
   simp only[shV]
   split
   rotate_left
   ·exact hr.mono g bl
   rename_i e
   subst e
   rcases hr.ref_inv hb with⟨B,o,cap,rfl,hl,hlen,hcap,_,hM,_⟩|⟨B,rfl,rfl,_⟩|⟨rfl,rfl,_⟩
   ·rcases h.b b' k hb with⟨h0,_⟩|hm|⟨_,B',o',cs,e,g1,_,g3,g4,g5,g6,_,_⟩
    ·rw[hl] at h0;simp at h0
    ·exact(hm.small hM).elim
    rw[hl] at g1;simp only[ζa,ζP] at g1
    obtain⟨rfl,rfl⟩:=g1
    have hrl:((k.rows.drop off).take len).length=len:=by simp;omega
    have hat:∀(j:Nat) (c:V),((k.rows.drop off).take len).flatten[j]?=some c→∃x,(o+off * k.size+j < γ'.lim B∧cellAt w B (o+off * k.size+j)=some x)∧W2 γ'.lim w c x:=fun j c hc=>by
     obtain⟨q1,_⟩:=flatten_cut k.rows g4 off len j c hc
     obtain⟨x,x1,x2,_⟩:=g6 _ c q1
     obtain⟨r,r1,r2⟩:=ξm.1 (ζi q1)
     have hjl:off * k.size+j < k.rows.length * k.size:=by
      have e1:=(ζe.1 q1).1
      have e2:k.rows.flatten.length=k.rows.length * k.size:=by
       rw[List.length_flatten]
       have:k.rows.map List.length=List.replicate k.rows.length k.size:=List.eq_replicate_iff.2 ⟨by simp,fun n hn=>by obtain⟨r,hr,rfl⟩:=ζt.1 hn;exact g4 r hr⟩
       rw[this,List.sum_replicate_nat]
      omega
     refine⟨x,⟨?_,?_⟩,(dcell_data (hd r r1 c r2) x2).mono fun B o v h1 h2=>⟨ζM h1 (hlim B).1,h2⟩⟩
     ·simp only[γ',hl,if_true];omega
     ·rw[g3.cellAt]
      simpa[Nat.add_assoc] using x1
    have:=W2.sl (lim:=γ'.lim) (w:=w) false k.size ((k.rows.drop off).take len) B (o+off * k.size) cap (fun j=>(cellAt w B (o+off * k.size+j)).getD default) (by omega) (fun r hr=>g4 r (ξu (ξt hr)))
     (fun j c hc=>by obtain⟨x,x1,x2⟩:=hat j c hc;rw[x1.2];exact⟨x1.1,rfl⟩) (fun j c hc=>by obtain⟨x,x1,x2⟩:=hat j c hc;rw[x1.2];exact x2)
    rw[hrl] at this
    exact .data this
   ·exact .data (by rw[List.take_zero];exact .slNil false k.size (some B))
   ·exact .data (by rw[List.take_zero];exact .slNil false k.size)
  | _=>exact hr.mono g bl
theorem Sim.share{G:Nat→Option (List V)}{γ:Gh}{st:St}{tmps:Array Value}{w:World}(h:Sim G γ st tmps w){b:Nat}{k:Blk}(hb:st.b b=some k)(hd:∀r,r∈k.rows→∀c,c∈r→U5 c=true) :
  ∃γ',Sim G γ' (st.delB b) tmps w∧Grow γ w γ' w∧Pin γ st.b st.u γ' (st.delB b).b (st.delB b).u∧∀c v,Rep γ w st.b st.u c v→Rep γ' w (st.delB b).b (st.delB b).u (shV b k c) v:=by
 obtain⟨γ',h1,h2,h3,_,h4⟩:=h.shareL hb hd
 exact⟨γ',h1,h2,h3,h4⟩
def shAll(l:List (Nat×Blk))(c:V):V:=l.foldl (fun c x=>shV x.1 x.2 c) c
def St.delAll(st:St)(l:List (Nat×Blk)):St:=l.foldl (fun s x=>s.delB x.1) st
theorem Sim.shares{G:Nat→Option (List V)}{tmps:Array Value}{w:World}:∀(l:List (Nat×Blk)) {γ:Gh} {st:St},Sim G γ st tmps w→(∀x,x∈l→st.b x.1=some x.2)→(l.map (·.1)).Nodup→
  (∀x,x∈l→∀r,r∈x.2.rows→∀c,c∈r→U5 c=true)→
  ∃γ',Sim G γ' (st.delAll l) tmps w∧Grow γ w γ' w∧Pin γ st.b st.u γ' (st.delAll l).b (st.delAll l).u∧∀c v,Rep γ w st.b st.u c v→Rep γ' w (st.delAll l).b (st.delAll l).u (shAll l c) v
 | [],γ,st,h,_,_,_=>⟨γ,h,.refl γ w,.refl h.u,fun _ _ h=>h⟩
 | x :: l,γ,st,h,hb,hn,hd=>by
  obtain⟨γ1,h1,g1,p1,r1⟩:=h.share (hb x (by simp)) (hd x (by simp))
  simp only[ξf,List.nodup_cons] at hn
  obtain⟨γ2,h2,g2,p2,r2⟩:=Sim.shares l h1 (fun y hy=>by
   have hne:y.1≠x.1:=fun e=>hn.1 (ζt.2 ⟨y,hy,e⟩)
   show (if y.1=x.1 then none else st.b y.1)=_
   rw[if_neg hne];exact hb y (by simp[hy])) hn.2 (fun y hy=>hd y (by simp[hy]))
  exact⟨γ2,h2,g1.trans g2,p1.trans p2,fun c v hc=>r2 _ _ (r1 c v hc)⟩
theorem delAll_n:∀(l:List (Nat×Blk)) (st:St),(st.delAll l).n=st.n∧(st.delAll l).t=st.t
 | [],_=>⟨rfl,rfl⟩
 | x :: l,st=>delAll_n l (st.delB x.1)
theorem delAll_in:∀(l:List (Nat×Blk)) (st:St) (j:Nat),(∃x,x∈l∧x.1=j)→(st.delAll l).b j=none∧(st.delAll l).u j=true
 | [],st,j,h=>by obtain⟨x,hx,_⟩:=h;simp at hx
 | x :: l,st,j,h=>by
  by_cases hl:∃y,y∈l∧y.1=j
  ·exact delAll_in l (st.delB x.1) j hl
  ·have hx:x.1=j:=by
    obtain⟨y,hy,e⟩:=h
    rcases ζv.1 hy with rfl|hy
    ·exact e
    ·exact absurd ⟨y,hy,e⟩ hl
   have key:∀(l:List (Nat×Blk)) (st:St),(¬∃y,y∈l∧y.1=j)→(st.delAll l).b j=st.b j∧(st.delAll l).u j=st.u j:=by
    intro l
    induction l with
    | nil=>intro st _;exact⟨rfl,rfl⟩
    | cons y l ih=>
     intro st hn
     have:=ih (st.delB y.1) (fun⟨z,hz,e⟩=>hn ⟨z,by simp[hz],e⟩)
     have hne:j≠y.1:=fun e=>hn ⟨y,by simp,e.symm⟩
     refine⟨this.1.trans ?_,this.2.trans ?_⟩
     ·show (if j=y.1 then none else st.b j)=_;rw[if_neg hne]
     ·show (if j=y.1 then true else st.u j)=_;rw[if_neg hne]
   have:=key l (st.delB x.1) hl
   refine⟨this.1.trans ?_,this.2.trans ?_⟩
   ·show (if j=x.1 then none else st.b j)=none;rw[if_pos hx.symm]
   ·show (if j=x.1 then true else st.u j)=true;rw[if_pos hx.symm]
theorem delAll_out:∀(l:List (Nat×Blk)) (st:St) (j:Nat),(¬∃x,x∈l∧x.1=j)→(st.delAll l).b j=st.b j∧(st.delAll l).u j=st.u j
 | [],st,j,_=>⟨rfl,rfl⟩
 | y :: l,st,j,hn=>by
  have:=delAll_out l (st.delB y.1) j (fun⟨z,hz,e⟩=>hn ⟨z,by simp[hz],e⟩)
  have hne:j≠y.1:=fun e=>hn ⟨y,by simp,e.symm⟩
  refine⟨this.1.trans ?_,this.2.trans ?_⟩
  ·show (if j=y.1 then none else st.b j)=_;rw[if_neg hne]
  ·show (if j=y.1 then true else st.u j)=_;rw[if_neg hne]
theorem app_b_out(W:List (Nat×Option Blk))(st:St)(j:Nat)(h:¬∃x,x∈W∧x.1=j):(st.app (W.map fun x=>.b x.1 x.2)).b j=st.b j∧(st.app (W.map fun x=>.b x.1 x.2)).u j=st.u j:=
 L8 (l:=.b j) _ st fun x hx e=>by
  obtain⟨y,hy,rfl⟩:=ζt.1 hx
  simp only[Wr.loc,Loc.b.injEq] at e
  exact h ⟨y,hy,e⟩
theorem app_b_in(v:Option Blk):∀(W:List (Nat×Option Blk)) (st:St) (j:Nat),(∀x,x∈W→x.1=j→x.2=v)→(∃x,x∈W∧x.1=j)→(st.app (W.map fun x=>.b x.1 x.2)).b j=v∧(st.app (W.map fun x=>.b x.1 x.2)).u j=true
 | [],_,_,_,h=>by obtain⟨x,hx,_⟩:=h;simp at hx
 | x :: W,st,j,hv,h=>by
  by_cases hl:∃y,y∈W∧y.1=j
  ·exact app_b_in v W (st.wr (.b x.1 x.2)) j (fun y hy=>hv y (by simp[hy])) hl
  ·have hx:x.1=j:=by
    obtain⟨y,hy,e⟩:=h
    rcases ζv.1 hy with rfl|hy
    ·exact e
    ·exact absurd ⟨y,hy,e⟩ hl
   have k:=app_b_out W (st.wr (.b x.1 x.2)) j hl
   have hx2:=hv x (by simp) hx
   obtain⟨xa,xb⟩:=x
   simp only at hx hx2
   subst hx hx2
   refine⟨k.1.trans ?_,k.2.trans ?_⟩
   ·cases xb with
    | none=>show (if xa=xa then none else st.b xa)=none;simp
    | some q=>show (if xa=xa then some q else st.b xa)=some q;simp
   ·cases xb with
    | none=>show (if xa=xa then true else st.u xa)=true;simp
    | some q=>show (if xa=xa then true else st.u xa)=true;simp
theorem app_b_nt(W:List (Nat×Option Blk))(st:St):(st.app (W.map fun x=>.b x.1 x.2)).n=st.n∧(st.app (W.map fun x=>.b x.1 x.2)).t=st.t:=
 ⟨app_n _ _,funext fun i=>L8 (l:=.t i) _ st fun x hx e=>by
  obtain⟨y,_,rfl⟩:=ζt.1 hx
  simp[Wr.loc] at e⟩
def Y8(L:List (Nat×Nat))(c:Nat):Nat:=match L.find? (fun x=>x.1==c) with|some x=>x.2|none=>0
def Y1(L:List (Nat×Nat))(j:Nat):Nat:=match L.find? (fun x=>x.2==j) with|some x=>x.1|none=>0
def ofL(l:List (Nat×Blk))(i:Nat):Option Blk:=match l.find? (fun x=>x.1==i) with|some x=>some x.2|none=>none
abbrev outW(L:List (Nat×Nat))(O:List (Nat×Blk))(sh:List Nat):List (Nat×Option Blk):=(L.map fun(x:Nat×Nat)=>(x.2,(ofL O x.1).map (Blk.ren (Y8 L))))++(sh.map fun(b:Nat)=>(b,none))
def idsOk(Li Lo:List (Nat×Nat))(sh:List Nat):Bool:=
 (Li++Lo).all (fun x=>Y8 (Li++Lo) x.1==x.2&&Y1 (Li++Lo) x.2==x.1&&!sh.contains x.2)&&Li.all (fun x=>R4 x.1)&&Lo.all (fun x=>!(Li.any fun y=>y.1==x.1))&&decide sh.Nodup
section
variable {P:Program} {G:Nat→Option (List V)} {ops:Array Oper} {s:St} {i:Nat} {ex:List Nat}
def callG(P:Program)(G:Nat→Option (List V))(ops:Array Oper)(ex:List Nat)(Li Lo:List (Nat×Nat))(sh:List Nat)(i:Nat)(s:St):Option (Option Nat×FuncId×List V×List (Nat×Blk)×List (Nat×Blk)):=
 match callAt P G ops i s with
 | some (o,f,cs)=>match K7 (fun b=>(s.lookC o ex b).map fun k=>(b,k)) sh,K7 (fun x=>(s.lookC o ex x.2).map fun k=>(x.1,k)) Li with
  | some shl,some bl=>if (H7 (cs.map (shAll shl))).all (fun b=>Li.any fun x=>x.2==b)=true∧Lo.all (fun x=>ex.contains x.2&&!s.u x.2)=true then some (o.dst,f,F0 (Y1 (Li++Lo)) (cs.map (shAll shl)),bl,shl) else none
  | _,_=>none
 | none=>none
theorem O8{l:List (Nat×Blk)}{c:Nat}{k:Blk}(h:ofL l c=some k):(c,k)∈l:=by
 unfold ofL at h
 split at h
 ·rename_i x hx
  simp only[ζa] at h
  have h1:=ξh hx
  have h2:x.1=c:=by simpa using List.find?_some hx
  rw[←h2,←h];exact h1
 ·simp at h
theorem told_callG(Li Lo:List (Nat×Nat))(sh:List Nat){dst:Option Nat}{f:FuncId}{as:List V}{bl shl I O:List (Nat×Blk)}{res:V}{E:Value→Ending}(hids:idsOk Li Lo sh=true)
  (h1:callG P G ops ex Li Lo sh i s=some (dst,f,as,bl,shl)) (hc:CallG P G f as (ofL I) E res (ofL O))
  (hI:bl.map (fun x=>(x.1,x.2.ren (Y1 (Li++Lo))))=I) (hsd:∀x,x∈shl→∀r,r∈x.2.rows→∀c,c∈r→U5 c=true)
  (hbr:∀x,x∈bl→∀b,b∈H7 x.2.rows.flatten→(Li.any fun x=>x.2==b)=true)
  (hO:∀x,x∈O→((Li++Lo).any fun y=>y.1==x.1)=true∧∀b,b∈H7 x.2.rows.flatten→((Li++Lo).any fun y=>y.1==b)=true)
  (hres:(U2 res).all (fun b=>(Li++Lo).any fun y=>y.1==b)=true) :
  ∃o,opAt ops i s=some o∧(∀c,o.op≠.defer c)∧o.dst=dst∧H2 s.n o.dst=true∧∀s2:St,s2.n=s.n→(∀t,t∈Y5 o→s2.t t=s.t t)→(∀b,b∈opBs s o++ex→s2.b b=s.b b∧s2.u b=s.u b)→
   CallEff P G o s2 f E (W5 (Y8 (Li++Lo)) res) (s2.app ((outW (Li++Lo) O sh).map fun x=>Wr.b x.1 x.2)):=by
 subst hI
 simp only[callG] at h1
 split at h1
 ·rename_i o f' cs hca
  split at h1
  ·rename_i shl' bl' hshl hbl
   split at h1<;>simp at h1
   rename_i hcond
   obtain⟨rfl,rfl,rfl,rfl,rfl⟩:=h1
   obtain⟨ho,hd,x,xs,ts,fn,hop,hcs,hfn,hna,hbo⟩:=callAt_spec hca
   refine⟨o,ho,(fun c hc=>by rw[hop] at hc;cases hc),rfl,hd,fun s2 hn ht hb=>?_⟩
   simp only[idsOk,ζA,ζE,beq_iff_eq,ζF,ζB] at hids
   obtain⟨⟨⟨i1,i2⟩,i3⟩,i4⟩:=hids
   have memAny:∀{l:List (Nat×Nat)} {c:Nat},(l.any fun y=>y.1==c)=true→∃y,y∈l∧y.1=c:=fun h=>by
    obtain⟨y,hy,e⟩:=List.any_eq_true.1 h;exact⟨y,hy,by simpa using e⟩
   have memAny2:∀{l:List (Nat×Nat)} {c:Nat},(l.any fun y=>y.2==c)=true→∃y,y∈l∧y.2=c:=fun h=>by
    obtain⟨y,hy,e⟩:=List.any_eq_true.1 h;exact⟨y,hy,by simpa using e⟩
   have anyMem:∀{l:List (Nat×Nat)} {y:Nat×Nat},y∈l→(l.any fun z=>z.1==y.1)=true:=fun h=>List.any_eq_true.2 ⟨_,h,by simp⟩
   have cr:∀y,y∈Li++Lo→Y8 (Li++Lo) y.1=y.2:=fun y hy=>(i1 y hy).1.1
   have ce:∀y,y∈Li++Lo→Y1 (Li++Lo) y.2=y.1:=fun y hy=>(i1 y hy).1.2
   have nsh:∀y,y∈Li++Lo→¬y.2∈sh:=fun y hy hm=>by have:=(i1 y hy).2;simp[hm] at this
   have inL:∀{y},y∈Li→y∈Li++Lo:=fun h=>ξd _ h
   have shfst:shl'.map (·.1)=sh:=by
    have:∀(l:List Nat) (r:List (Nat×Blk)),K7 (fun b=>(s.lookC o ex b).map fun k=>(b,k)) l=some r→r.map (·.1)=l:=by
     intro l
     induction l with
     | nil=>intro r h;simp[K7] at h;subst h;rfl
     | cons b l ih=>
      intro r h
      simp only[K7] at h
      split at h
      ·rename_i y r' e1 e2
       simp only[ζa] at h;subst h
       obtain⟨k,_,rfl⟩:=ζb.1 e1
       simp[ih r' e2]
      ·simp at h
    exact this sh shl' hshl
   have le:∀b k,s.lookC o ex b=some k→s2.b b=some k:=fun b k h=>by rw[←P8 hb] at h;exact cutB_le _ _ b k h
   have shb:∀y,y∈shl'→s2.b y.1=some y.2:=fun y hy=>by
    obtain⟨j,hj⟩:=ζh.1 hy
    obtain⟨b,_,e⟩:=F8 hshl j y hj
    obtain⟨k,e1,rfl⟩:=ζb.1 e
    exact le _ _ e1
   have shIn:∀j,(∃y,y∈shl'∧y.1=j)↔j∈sh:=fun j=>by rw[←shfst,ζt]
   have blk:∀y,y∈Li→∃k,s.lookC o ex y.2=some k∧(y.1,k)∈bl':=fun y hy=>by
    obtain⟨j,hj⟩:=ζh.1 hy
    have hlen:=mapO_len hbl
    have hjl:j < bl'.length:=by rw[hlen];exact(ζe.1 hj).1
    obtain⟨y',e0,e⟩:=F8 hbl j _ (ζd hjl)
    rw[hj] at e0;simp only[ζa] at e0;subst e0
    obtain⟨k,e1,e2⟩:=ζb.1 e
    exact⟨k,e1,by rw[e2];exact List.getElem_mem _⟩
   have blFrom:∀z,z∈bl'→∃y,y∈Li∧y.1=z.1∧s.lookC o ex y.2=some z.2:=fun z hz=>by
    obtain⟨j,hj⟩:=ζh.1 hz
    obtain⟨y,e0,e⟩:=F8 hbl j z hj
    obtain⟨k,e1,rfl⟩:=ζb.1 e
    exact⟨y,ζi e0,rfl,e1⟩
   let st1:=s2.delAll shl'
   have key:=callS_core (P:=P) (G:=G) (o:=o) (E:=E) (st0:=s2) (st:=st1) (cs:=cs.map (shAll shl')) (K:=fun c=>(Li++Lo).any fun y=>y.1==c) (Kin:=fun c=>Li.any fun y=>y.1==c) (Y8 (Li++Lo)) (Y1 (Li++Lo))
    (fun γ a w hsim=>by
     obtain⟨γ1,q1,q2,q3,q4⟩:=hsim.shares shl' shb (by rw[shfst];exact i4) hsd
     obtain⟨as,hrun,hargs⟩:=callArgs_spec (P:=P) (hsim.cutT (Y5 o)) hop (by rw[callArgs_cut ht];exact hcs) hfn hna hbo
     refine⟨γ1,as,q1,q2,q3,hrun,by rw[ζs];exact hargs.1,fun j c v hc hv=>?_⟩
     rw[ζo,ζb] at hc
     obtain⟨c0,k1,rfl⟩:=hc
     exact q4 c0 v (hargs.2 j c0 v k1 hv))
    (fun c hK=>by obtain⟨y,hy,rfl⟩:=memAny hK;rw[cr y hy,ce y hy])
    (fun c hK=>by
     obtain⟨y,hy,rfl⟩:=memAny hK
     exact⟨anyMem (inL hy),i2 y hy⟩)
    (ins:=ofL (bl'.map fun x=>(x.1,x.2.ren (Y1 (Li++Lo)))))
    (fun c hK=>by
     obtain⟨y,hy,rfl⟩:=memAny hK
     obtain⟨k,e1,e2⟩:=blk y hy
     refine⟨k,?_,?_,fun b hbk=>?_⟩
     ·rw[cr y (inL hy)]
      exact(delAll_out shl' s2 y.2 (by rw[shIn];exact nsh y (inL hy))).1.trans (le _ _ e1)
     ·unfold ofL
      cases hf:(bl'.map fun x=>(x.1,x.2.ren (Y1 (Li++Lo)))).find? (fun x=>x.1==y.1) with
      | none=>
       have:=List.find?_eq_none.1 hf (y.1,k.ren (Y1 (Li++Lo))) (ζt.2 ⟨_,e2,rfl⟩)
       simp at this
      | some z=>
       obtain⟨z0,z1,rfl⟩:=ζt.1 (ξh hf)
       have z2:z0.1=y.1:=by simpa using List.find?_some hf
       obtain⟨y',y1,y2,y3⟩:=blFrom z0 z1
       have:y'.2=y.2:=by rw[←cr y' (inL y1),←cr y (inL hy),y2,z2]
       rw[this,e1] at y3
       simp only[ζa] at y3
       simp only[y3]
     ·obtain⟨z,hz,rfl⟩:=memAny2 (hbr _ e2 b hbk)
      rw[ce z (inL hz),cr z (inL hz)]
      exact⟨anyMem hz,rfl⟩)
    (fun c hK=>by
     cases hf:ofL (bl'.map fun x=>(x.1,x.2.ren (Y1 (Li++Lo)))) c with
     | none=>rfl
     | some k=>
      obtain⟨z0,z1,e⟩:=ζt.1 (O8 hf)
      obtain⟨y,y1,y2,_⟩:=blFrom z0 z1
      simp only[ζP] at e
      have:=anyMem y1
      rw[y2,e.1,hK] at this;simp at this)
    (fun c hK hKi=>by
     obtain⟨y,hy,rfl⟩:=memAny hK
     rw[cr y hy]
     have hyo:y∈Lo:=by
      rcases ζr.1 hy with h|h
      ·have:=anyMem h;rw[hKi] at this;simp at this
      ·exact h
     have:=ζE.1 hcond.2 y hyo
     simp only[ζA,ζB] at this
     have e:s2.u y.2=s.u y.2:=(hb y.2 (by have h:=this.1;simp at h;simp[h])).2
     exact(delAll_out shl' s2 y.2 (by rw[shIn];exact nsh y hy)).2.trans (e.trans this.2))
    (outs:=ofL O)
    (fun c k hk=>by
     have:=hO _ (O8 hk)
     exact this)
    (fun b hbr=>ζE.1 hres b hbr)
    (fun b hbr=>by
     obtain⟨z,hz,rfl⟩:=memAny2 (ζE.1 hcond.1 b hbr)
     rw[ce z (inL hz),cr z (inL hz)]
     exact⟨anyMem hz,rfl⟩)
    hc
   have hst:st1.after (fun j=>((Li++Lo).any fun y=>y.1==Y1 (Li++Lo) j)&&(Y8 (Li++Lo) (Y1 (Li++Lo) j)==j)) (Y1 (Li++Lo)) (Y8 (Li++Lo)) (ofL O) =
     s2.app ((outW (Li++Lo) O sh).map fun x=>Wr.b x.1 x.2):=by
    have nt:=app_b_nt (outW (Li++Lo) O sh) s2
    refine St.ext' ((delAll_n shl' s2).1.trans nt.1.symm) fun l=>?_
    cases l with
    | t q=>exact congrFun ((delAll_n shl' s2).2.trans nt.2.symm) q
    | b j=>
     by_cases hj:∃y,y∈Li++Lo∧y.2=j
     ·obtain⟨y,hy,rfl⟩:=hj
      have hJ:(((Li++Lo).any fun z=>z.1==Y1 (Li++Lo) y.2)&&(Y8 (Li++Lo) (Y1 (Li++Lo) y.2)==y.2))=true:=by
       rw[ce y hy,cr y hy,anyMem hy];simp
      obtain⟨k1,k2⟩:=app_b_in ((ofL O y.1).map (Blk.ren (Y8 (Li++Lo)))) (outW (Li++Lo) O sh) s2 y.2 (fun z hz e=>by
       rcases ζr.1 hz with hz|hz
       ·obtain⟨z0,hz0,rfl⟩:=ζt.1 hz
        simp only at e ⊢
        rw[←ce z0 hz0,e,ce y hy]
       ·obtain⟨b,hb0,rfl⟩:=ζt.1 hz
        simp only at e
        exact absurd (e▸hb0) (nsh y hy)) ⟨_,ξd _ (ζt.2 ⟨y,hy,rfl⟩),rfl⟩
      refine⟨Eq.trans ?_ k1.symm,Eq.trans ?_ k2.symm⟩
      ·show (if _ then _ else _)=_
       rw[if_pos hJ,ce y hy]
      ·simp only[St.after,hJ,Bool.true_or]
     ·have hJ:(((Li++Lo).any fun z=>z.1==Y1 (Li++Lo) j)&&(Y8 (Li++Lo) (Y1 (Li++Lo) j)==j))=false:=by
       cases h:(((Li++Lo).any fun z=>z.1==Y1 (Li++Lo) j)&&(Y8 (Li++Lo) (Y1 (Li++Lo) j)==j)) with
       | false=>rfl
       | true=>
        simp only[ζA,beq_iff_eq] at h
        obtain⟨z,hz,e⟩:=memAny h.1
        exact absurd ⟨z,hz,by rw[←cr z hz,e];exact h.2⟩ hj
      have ha:(st1.after (fun j=>((Li++Lo).any fun y=>y.1==Y1 (Li++Lo) j)&&(Y8 (Li++Lo) (Y1 (Li++Lo) j)==j)) (Y1 (Li++Lo)) (Y8 (Li++Lo)) (ofL O)).b j=st1.b j∧
        (st1.after (fun j=>((Li++Lo).any fun y=>y.1==Y1 (Li++Lo) j)&&(Y8 (Li++Lo) (Y1 (Li++Lo) j)==j)) (Y1 (Li++Lo)) (Y8 (Li++Lo)) (ofL O)).u j=st1.u j:=by
       simp only[St.after,hJ];exact⟨rfl,rfl⟩
      by_cases hs':j∈sh
      ·obtain⟨k1,k2⟩:=app_b_in none (outW (Li++Lo) O sh) s2 j (fun z hz e=>by
        rcases ζr.1 hz with hz|hz
        ·obtain⟨z0,hz0,rfl⟩:=ζt.1 hz
         exact absurd ⟨z0,hz0,e⟩ hj
        ·obtain⟨b,_,rfl⟩:=ζt.1 hz
         rfl) ⟨_,List.mem_append_right _ (ζt.2 ⟨j,hs',rfl⟩),rfl⟩
       obtain⟨d1,d2⟩:=delAll_in shl' s2 j ((shIn j).2 hs')
       exact⟨(ha.1.trans d1).trans k1.symm,(ha.2.trans d2).trans k2.symm⟩
      ·obtain⟨k1,k2⟩:=app_b_out (outW (Li++Lo) O sh) s2 j (fun⟨z,hz,e⟩=>by
        rcases ζr.1 hz with hz|hz
        ·obtain⟨z0,hz0,rfl⟩:=ζt.1 hz
         exact hj ⟨z0,hz0,e⟩
        ·obtain⟨b,hb0,rfl⟩:=ζt.1 hz
         exact hs' (e▸hb0))
       obtain⟨d1,d2⟩:=delAll_out shl' s2 j (by rw[shIn];exact hs')
       exact⟨(ha.1.trans d1).trans k1.symm,(ha.2.trans d2).trans k2.symm⟩
   rw[←hst]
   exact key
  ·simp at h1
 ·simp at h1
theorem told_call(Li Lo:List (Nat×Nat))(sh:List Nat){dst:Option Nat}{f:FuncId}{as:List V}{bl shl I O:List (Nat×Blk)}{res:V}{ws:List Wr}(hids:idsOk Li Lo sh=true)
  (h1:callG P G ops ex Li Lo sh i s=some (dst,f,as,bl,shl)) (hc:CallC P G f as (ofL I) res (ofL O))
  (hI:bl.map (fun x=>(x.1,x.2.ren (Y1 (Li++Lo))))=I) (hsd:∀x,x∈shl→∀r,r∈x.2.rows→∀c,c∈r→U5 c=true)
  (hbr:∀x,x∈bl→∀b,b∈H7 x.2.rows.flatten→(Li.any fun x=>x.2==b)=true)
  (hO:∀x,x∈O→((Li++Lo).any fun y=>y.1==x.1)=true∧∀b,b∈H7 x.2.rows.flatten→((Li++Lo).any fun y=>y.1==b)=true)
  (hres:(U2 res).all (fun b=>(Li++Lo).any fun y=>y.1==b)=true)
  (hws:((outW (Li++Lo) O sh).map fun x=>Wr.b x.1 x.2)++dstW dst (W5 (Y8 (Li++Lo)) res)=ws) :
  A3 P G ops i s (opR ops i s ex) (ws):=P5 (by
 subst hws
 obtain⟨o,ho,_,rfl,hd,key⟩:=told_callG Li Lo sh hids h1 hc hI hsd hbr hO hres
 refine⟨o,ho,fun s2 hn ht hb _=>?_⟩
 rw[show ∀(A B:List Wr),s2.app (A++B)=(s2.app A).app B from fun A B=>List.foldl_append ..,app_dstW]
 exact(key s2 hn ht hb).effO (by rw[app_n,hn];exact hd))
end
def Gst(G:Nat→Option (List V))(st st':St):Prop:=
 ∀(γ:Gh) (tmps:Array Value) (w:World),Sim G γ st tmps w→∃γ',Sim G γ' st' tmps w∧Grow γ w γ' w∧Pin γ st.b st.u γ' st'.b st'.u
theorem TV.ghost{P:Program}{G:Nat→Option (List V)}{c:Code}{st st':St}{Q:Exit→St→Prop}(g:Gst G st st')(h:TV P G c st' Q):TV P G c st Q:=fun fx γ a w hs hd=>by
 obtain⟨γ',h1,h2,h3⟩:=g γ a.tmps w hs
 exact wpIn_mono (h fx γ' a w h1 (hd.grow h2 hd.1)) fun _ _ _ hl=>hl.grow ⟨h2,h3⟩
theorem Gst.trans{G:Nat→Option (List V)}{a b c:St}(h:Gst G a b)(k:Gst G b c):Gst G a c:=fun γ tmps w hs=>by
 obtain⟨γ1,h1,h2,h3⟩:=h γ tmps w hs
 obtain⟨γ2,k1,k2,k3⟩:=k γ1 tmps w h1
 exact⟨γ2,k1,h2.trans k2,h3.trans k3⟩
theorem Gst.forget{G:Nat→Option (List V)}{st st':St}(f:G3 st st'):Gst G st st':=fun γ _ w hs=>⟨γ,f.sim hs,.refl γ w,f.pin hs⟩
theorem Sim.virt{G:Nat→Option (List V)}{γ:Gh}{st:St}{tmps:Array Value}{w:World}(h:Sim G γ st tmps w){d size:Nat}(hu:st.u d=false) :
  ∃γ',Sim G γ' (st.setB d ⟨size,true,[]⟩) tmps w∧Grow γ w γ' w∧L1 γ st.b st.u γ' (st.setB d ⟨size,true,[]⟩).b (st.setB d ⟨size,true,[]⟩).u:=by
 let γ':Gh:={ loc:=fun b=>if b=d then none else γ.loc b,own:=γ.own,lim:=γ.lim }
 have g:Grow γ w γ' w:=⟨rfl,rfl,rfl,ζK _,fun _ _ _ _ h=>h,fun _ _=>ζK _,fun _ _ h=>⟨rfl,h,rfl⟩,fun _ cs _ fz h=>⟨cs,fz,h,rfl,.inl rfl⟩⟩
 have bl:L1 γ st.b st.u γ' (st.setB d ⟨size,true,[]⟩).b (st.setB d ⟨size,true,[]⟩).u:=h.bsLe_new hu fun b hb=>by simp only[γ'];rw[if_neg hb]
 refine⟨γ',⟨h.n,fun i=>(h.t i).mono g bl,fun b k hk=>?_,fun b k hk=>?_,h.g.grow g,h.o⟩,g,bl⟩
 ·simp only[St.setB] at hk
  by_cases hb:b=d
  ·subst hb
   rw[if_pos rfl] at hk
   simp only[ζa] at hk;subst hk
   exact .inl ⟨by simp[γ'],rfl⟩
  ·rw[if_neg hb] at hk
   rcases h.b b k hk with⟨v1,v2⟩|hm|⟨hM,B,o,cs',e',h1,h2,h3,h4,h5,h6,h7,h8⟩
   ·exact .inl ⟨by simp only[γ'];rw[if_neg hb];exact v1,v2⟩
   ·exact .inr (.inl (hm.same (by simp only[γ'];rw[if_neg hb]) (fun B _ hB=>⟨hB,rfl⟩) fun c v hr=>hr.mono g bl))
   ·refine .inr (.inr ⟨hM,B,o,cs',e',by simp only[γ'];rw[if_neg hb];exact h1,h2,h3,h4,h5,fun i c hc=>?_,h7,h8⟩)
    obtain⟨v,a1,a2,a3,a4⟩:=h6 i c hc
    exact⟨v,a1,a2.mono g bl,a3,a4⟩
 ·simp only[St.setB] at hk ⊢
  by_cases hb:b=d
  ·subst hb;simp
  ·rw[if_neg hb] at hk;rw[if_neg hb];exact h.u b k hk
theorem Gst.virtT{G:Nat→Option (List V)}{st:St}{d t:Nat}(size:Nat)(hM:size < W9)(hu:st.u d=false)(ht:st.t t=.nilsl):Gst G st ((st.setB d ⟨size,true,[]⟩).setT t (.ref d 0 0)):=fun γ tmps w hs=>by
 obtain⟨γ',h1,h2,h3⟩:=hs.virt (size:=size) hu
 refine⟨γ',⟨h1.n,fun i=>?_,h1.b,h1.u,h1.g,h1.o⟩,h2,h3.pin⟩
 show Rep γ' w _ _ (if i=t then _ else st.t i) _
 by_cases hi:i=t
 ·subst hi
  rw[if_pos rfl]
  have inv:∀v:Value,Rep γ w st.b st.u .nilsl v→v=.slice none 0 0:=fun v hv=>by
   cases hv with
   | data h=>cases h;rfl
  have hv:tmps.getD i undef=.slice none 0 0:=inv _ (by rw[←ht];exact hs.t i)
  rw[hv]
  exact .refN d 0 ⟨size,true,[]⟩ (by simp[St.setB,St.setT]) hM rfl
 ·rw[if_neg hi];exact h1.t i
def isAggT(P:Program)(t:TypeId):Bool:=match P.underlying t with
 | some (.struct _)=>true
 | some (.array _ _)=>true
 | some _=>false
 | none=>true
def Wk(bs:Nat→Option Blk)(u:Nat→Bool)(c c':V):Prop:=∀(γ:Gh) (w:World) (v:Value),Rep γ w bs u c v→Rep γ w bs u c' v
theorem Wk.refl{bs:Nat→Option Blk}{u:Nat→Bool}(c:V):Wk bs u c c:=fun _ _ _ h=>h
def W4(R:V→V→Prop)(rows rows':List (List V)):Prop:=
 rows'.length=rows.length∧∀(i:Nat) (r':List V),rows'[i]?=some r'→∃r,rows[i]?=some r∧r'.length=r.length∧∀(j:Nat) (c':V),r'[j]?=some c'→∃c,r[j]?=some c∧R c c'
theorem W4.sizes{R:V→V→Prop}{rows rows':List (List V)}(h:W4 R rows rows'){s:Nat}(hs:∀r,r∈rows→r.length=s):∀r,r∈rows'→r.length=s:=fun r' hr=>by
 obtain⟨i,hi⟩:=ζh.1 hr
 obtain⟨r,h1,h2,_⟩:=h.2 i r' hi
 rw[h2];exact hs r (ζi h1)
theorem W4.flat{R:V→V→Prop}{rows rows':List (List V)}(h:W4 R rows rows'){s:Nat}(hs:∀r,r∈rows→r.length=s){i:Nat}{c':V}(hc:rows'.flatten[i]?=some c'):∃c,rows.flatten[i]?=some c∧R c c':=by
 have hs':=h.sizes hs
 rcases ξq s with h0|hpos
 ·subst h0
  have:rows'.flatten=[]:=by
   rw[List.flatten_eq_nil_iff];exact fun r hr=>ζS.1 (hs' r hr)
  rw[this] at hc;simp at hc
 ·have e:i=(i / s) * s+i % s:=by rw[ξw];exact(Nat.div_add_mod i s).symm
  have hm:=Nat.mod_lt i hpos
  have hget:=J7 rows' hs' (i / s) (i % s) hm
  rw[←e,hc] at hget
  cases hr:rows'[i / s]? with
  | none=>rw[hr] at hget;simp at hget
  | some r'=>
   rw[hr] at hget
   simp only[ξa] at hget
   obtain⟨r,h1,_,h3⟩:=h.2 _ r' hr
   obtain⟨c,h4,h5⟩:=h3 _ c' hget.symm
   exact⟨c,by rw[e,J7 rows hs _ _ hm,h1];exact h4,h5⟩
theorem Gst.cells{G:Nat→Option (List V)}{st st':St}(hn:st'.n=st.n)(hu:st'.u=st.u)(ht:∀i,Wk st'.b st'.u (st.t i) (st'.t i))
  (hb:∀b,(st.b b=none∧st'.b b=none)∨∃k k',st.b b=some k∧st'.b b=some k'∧k'.size=k.size∧k'.excl=k.excl∧W4 (fun c c'=>Wk st'.b st'.u c c'∧(c'.isOwn=true→c'=c∨c=.nilsl)) k.rows k'.rows):Gst G st st':=fun γ tmps w h=>by
 have bl:L1 γ st.b st.u γ st'.b st'.u:=by
  refine⟨fun b x=>by rw[hu];exact x,fun b _ hbn=>?_,fun b k hk=>⟨by rw[hu];exact h.u b k hk,?_⟩⟩
  ·rcases hb b with⟨_,h2⟩|⟨k,k',h1,_⟩
   ·exact h2
   ·rw[h1] at hbn;simp at hbn
  ·rcases hb b with⟨h1,_⟩|⟨k0,k',h1,h2,h3,_,h5⟩
   ·rw[h1] at hk;simp at hk
   ·rw[h1] at hk;simp only[ζa] at hk;subst hk
    exact .inr ⟨k',h2,h3,fun _=>h5.1,rfl⟩
 refine⟨γ,⟨by rw[hn];exact h.n,fun i=>ht i _ _ _ ((h.t i).mono (.refl _ _) bl),fun b k hk=>?_,fun b k hk=>?_,h.g,h.o⟩,.refl γ w,bl.pin⟩
 ·rcases hb b with⟨_,h2⟩|⟨k0,k',h1,h2,h3,h4,h5⟩
  ·rw[h2] at hk;simp at hk
  rw[h2] at hk;simp only[ζa] at hk;subst hk
  rcases h.b b k0 h1 with⟨z0,z1⟩|hm|⟨hM,B,o,cs,e,a1,a2,a3,a4,a5,a6,a7,a8⟩
  ·refine .inl ⟨z0,ζS.1 ?_⟩
   rw[h5.1,z1];rfl
  ·have hw:∀r,r∈k0.rows→r.length=mwd k0.size:=by obtain⟨_,_,_,_,_,_,_,_,q,_⟩:=hm;exact q
   refine .inr (.inl (hm.keep rfl (fun B _ hB=>⟨hB,rfl⟩) h3 h5.1 (h5.sizes hw) fun i c' hc=>?_))
   obtain⟨c,c1,c2,c3⟩:=h5.flat hw hc
   exact⟨c,c1,fun v hv=>c2 _ _ _ (hv.mono (.refl _ _) bl)⟩
  refine .inr (.inr ⟨by rw[h3];exact hM,B,o,cs,e,a1,a2,a3,by rw[h3];exact h5.sizes a4,by rw[h3,h5.1];exact a5,fun i c' hc=>?_,fun hx=>a7 (by rw[←h4];exact hx),by rw[h3,h5.1];exact a8⟩)
  obtain⟨c,c1,c2,c3⟩:=h5.flat a4 hc
  obtain⟨v,v1,v2,v3,v4⟩:=a6 i c c1
  refine⟨v,v1,c2 _ _ _ (v2.mono (.refl _ _) bl),v3,?_⟩
  rw[h3]
  cases ho:c'.isOwn with
  | false=>exact .of_not_own ho
  | true=>
   rcases c3 ho with e|e
   ·rw[e];exact v4
   ·subst e
    have:=v2.nilsl_inv;subst this
    unfold E5;cases c'<;>simp
 ·rw[hu]
  rcases hb b with⟨_,h2⟩|⟨k0,k',h1,h2,_⟩
  ·rw[h2] at hk;simp at hk
  ·exact h.u b k0 h1
theorem Gst.addB{G:Nat→Option (List V)}{st:St}{d:Nat}(size:Nat)(hu:st.u d=false):Gst G st (st.setB d ⟨size,true,[]⟩):=fun γ tmps w hs=>by
 obtain⟨γ',h1,h2,h3⟩:=hs.virt (size:=size) hu
 exact⟨γ',h1,h2,h3.pin⟩
def W3(a b:Nat):Nat→Nat:=fun c=>if c=a then b else c
def St.renm(st:St)(a b:Nat):St where
 n:=st.n
 t:=fun i=>W5 (W3 a b) (st.t i)
 b:=fun c=>if c=b then (st.b a).map (Blk.ren (W3 a b)) else if c=a then none else (st.b c).map (Blk.ren (W3 a b))
 u:=fun c=>if c=b then true else st.u c
theorem Gst.renm{G:Nat→Option (List V)}{st:St}{a b:Nat}(hab:a≠b)(hub:st.u b=false):Gst G st (st.renm a b):=fun γ tmps w h=>by
 let f:=W3 a b
 let γ' : Gh := { loc := fun c => if c = b then γ.loc a else γ.loc c, own := fun B => match γ.own B with
  | some (.blk x)=>some (.blk (f x))
  | some (.nest x i j)=>some (.nest (f x) i j)
  | none => none, lim := γ.lim }
 have hbn:st.b b=none:=by
  cases hb:st.b b with
  | none=>rfl
  | some k=>rw[h.u b k hb] at hub;simp at hub
 have g:Grow γ w γ' w:=⟨rfl,rfl,rfl,ζK _,fun _ _ _ _ h=>h,fun _ _=>ζK _,fun B _ ho=>⟨rfl,by simp only[γ',ho],rfl⟩,fun _ cs _ fz h=>⟨cs,fz,h,rfl,.inl rfl⟩⟩
 have tr:∀c,Tr γ st.b st.u γ' (st.renm a b).b (st.renm a b).u f c:=fun c=>by
  refine⟨fun k hk=>?_,fun hn hu=>?_⟩
  ·have hcb:c≠b:=fun e=>by subst e;rw[hbn] at hk;simp at hk
   by_cases hca:c=a
   ·subst hca
    refine⟨k.ren f,by simp[St.renm,f,W3,hk],rfl,by simp[Blk.ren],by simp[γ',f,W3]⟩
   ·refine⟨k.ren f,by simp[St.renm,f,W3,hca,hcb,hk],rfl,by simp[Blk.ren],by simp[γ',f,W3,hca,hcb]⟩
  ·by_cases hca:c=a
   ·subst hca
    simp[St.renm,f,W3,hn]
   ·by_cases hcb:c=b
    ·subst hcb;rw[hub] at hu;simp at hu
    ·simp[St.renm,f,W3,hca,hcb,hn,hu]
 have tmp:∀i,Rep γ' w (st.renm a b).b (st.renm a b).u (W5 f (st.t i)) (tmps.getD i undef):=fun i=>
  Rep.ren (γ1:=γ) (γ2:=γ') (w:=w) (w':=w) (bs1:=st.b) (u1:=st.u) (s:=f) (fun B o v h1 h2=>⟨h1,h2⟩) (fun _ _ h=>h) (h.t i) (fun b _=>tr b)
 refine⟨γ',⟨h.n,tmp,fun c k hk=>?_,fun c k hk=>?_,h.g.grow g,fun B x hx=>?_⟩,g,fun c hc=>?_⟩
 ·have ob:∀x B,γ.own B=some (.blk x)→γ'.own B=some (.blk (f x)):=fun x B hB=>by simp only[γ',hB]
  have on:∀x B i j,γ.own B=some (.nest x i j)→γ'.own B=some (.nest (f x) i j):=fun x B i j hB=>by simp only[γ',hB]
  simp only[St.renm] at hk
  by_cases hcb:c=b
  ·subst hcb
   rw[if_pos rfl] at hk
   obtain⟨k0,h0,rfl⟩:=ζb.1 hk
   have:=(h.b a k0 h0).ren (γ2:=γ') (bs2:=(st.renm a c).b) (u2:=(st.renm a c).u) (s:=f) (by simp[γ',f,W3]) (fun _=>rfl) (fun B hB=>ob a B hB) (fun B i j hB=>on a B i j hB) (fun b' _=>tr b')
   have e:f a=c:=by simp[f,W3]
   rw[e] at this
   exact this
  ·rw[if_neg hcb] at hk
   by_cases hca:c=a
   ·rw[if_pos hca] at hk;simp at hk
   ·rw[if_neg hca] at hk
    obtain⟨k0,h0,rfl⟩:=ζb.1 hk
    have e:f c=c:=by simp[f,W3,hca]
    have:=(h.b c k0 h0).ren (γ2:=γ') (bs2:=(st.renm a b).b) (u2:=(st.renm a b).u) (s:=f) (by rw[e];simp[γ',hcb]) (fun _=>rfl) (fun B hB=>ob c B hB) (fun B i j hB=>on c B i j hB) (fun b' _=>tr b')
    rw[e] at this
    exact this
 ·simp only[St.renm] at hk ⊢
  split
  ·rfl
  ·rename_i hcb
   rw[if_neg hcb] at hk
   split at hk
   ·simp at hk
   ·obtain⟨k0,h0,_⟩:=ζb.1 hk
    exact h.u c k0 h0
 ·simp only[γ'] at hx
  cases ho:γ.own B with
  | none=>rw[ho] at hx;simp at hx
  | some y=>exact h.o B y ho
 ·refine⟨fun hu=>?_,fun hu hn=>?_,fun k hk=>?_⟩
  ·simp only[St.renm];split;rfl;exact hu
  ·have hcb:c≠b:=fun e=>by subst e;rw[hub] at hu;simp at hu
   simp only[St.renm,if_neg hcb]
   split
   ·rfl
   ·rw[hn];rfl
  ·have hcb:c≠b:=fun e=>by subst e;rw[hbn] at hk;simp at hk
   refine⟨by simp only[St.renm,if_neg hcb];exact h.u c k hk,?_⟩
   by_cases hca:c=a
   ·exact .inl (by simp[St.renm,hca,hab])
   ·exact .inr ⟨k.ren f,by simp[St.renm,hcb,hca,hk,f],rfl,by simp[Blk.ren],by simp[γ',hcb]⟩
def St.shr(st:St)(b:Nat)(g:V→V):St where
 n:=st.n
 t:=fun i=>g (st.t i)
 b:=fun c=>if c=b then none else (st.b c).map fun k=>{ k with rows:=k.rows.map (·.map g) }
 u:=fun c=>if c=b then true else st.u c
def ShGood(st:St)(b:Nat)(k:Blk)(g:V→V)(c:V):Prop:=
 ∀(γ γ':Gh) (w:World) (bs':Nat→Option Blk) (u':Nat→Bool),bs' b=none→u' b=true→(∀c v,Rep γ w st.b st.u c v→Rep γ' w bs' u' (shV b k c) v)→∀v,Rep γ w st.b st.u c v→Rep γ' w bs' u' (g c) v
theorem Gst.shr{G:Nat→Option (List V)}{st:St}{b:Nat}{k:Blk}(hb:st.b b=some k)(hd:∀r,r∈k.rows→∀c,c∈r→U5 c=true){g:V→V}
  (hgt:∀i,ShGood st b k g (st.t i)) (hgb:∀x q,x≠b→st.b x=some q→∀r,r∈q.rows→∀c,c∈r→ShGood st b k g c) (hown:∀c,(g c).isOwn=true→g c=c):Gst G st (st.shr b g):=fun γ tmps w h=>by
 obtain⟨γ',h1,h2,h3,hloc,h4⟩:=h.shareL hb hd
 have bl:L1 γ' (st.delB b).b (st.delB b).u γ' (st.shr b g).b (st.shr b g).u:=by
  refine⟨fun c hc=>hc,fun c hc hn=>?_,fun c q hq=>⟨h1.u c q hq,?_⟩⟩
  ·simp only[St.delB,St.shr] at hn ⊢
   split
   ·rfl
   ·rename_i hcb;rw[if_neg hcb] at hn;rw[hn];rfl
  ·simp only[St.delB] at hq
   split at hq
   ·simp at hq
   ·rename_i hcb
    exact .inr ⟨{ q with rows:=q.rows.map (·.map g) },by simp[St.shr,hcb,hq],rfl,by simp,rfl⟩
 have map:∀c v,Rep γ w st.b st.u c v→Rep γ' w (st.shr b g).b (st.shr b g).u (shV b k c) v:=fun c v hr=>(h4 c v hr).mono (.refl _ _) bl
 have key:∀c v,ShGood st b k g c→Rep γ w st.b st.u c v→Rep γ' w (st.shr b g).b (st.shr b g).u (g c) v:=fun c v hc hr=>
  hc γ γ' w _ _ (by simp[St.shr]) (by simp[St.shr]) map v hr
 refine⟨γ',⟨h.n,fun i=>key _ _ (hgt i) (h.t i),fun c q hq=>?_,fun c q hq=>?_,h1.g,h1.o⟩,h2,h3.trans bl.pin⟩
 ·simp only[St.shr] at hq
  split at hq
  ·simp at hq
  rename_i hcb
  obtain⟨q0,hq0,rfl⟩:=ζb.1 hq
  have hq1:(st.delB b).b c=some q0:=by simp[St.delB,hcb,hq0]
  rcases h1.b c q0 hq1 with⟨z0,z1⟩|hm|⟨hM,B,o,cs,e,a1,a2,a3,a4,a5,a6,a7,a8⟩
  ·exact .inl ⟨z0,by simp[z1]⟩
  ·obtain⟨hM,B,es,clock,g1,g2,g3,g4,g5,g6,g7⟩:=hm
   refine .inr (.inl ⟨hM,B,es,clock,g1,g2,g3,by simpa using g4,fun r hr=>?_,g6,fun i c' hc'=>?_⟩)
   ·obtain⟨r0,hr0,rfl⟩:=ζt.1 hr
    simpa using g5 r0 hr0
   ·have hfl:(q0.rows.map (·.map g)).flatten=q0.rows.flatten.map g:=by rw[List.map_flatten]
    simp only at hc'
    rw[hfl,ζo,ζb] at hc'
    obtain⟨c0,k1,rfl⟩:=hc'
    obtain⟨v,v1,v2,v3⟩:=g7 i c0 k1
    have old:Rep γ w st.b st.u c0 v:=by
     rcases h.b c q0 hq0 with⟨z0,z1⟩|hm2|hb2
     ·rw[z1] at k1;simp at k1
     ·obtain⟨_,B2,es2,clock2,b1,b2,b3,b4,_,b6,b7⟩:=hm2
      obtain⟨x,x1,x2,x3⟩:=b7 i c0 k1
      rw[hloc,b1] at g1
      simp only[ζa,ζP,and_true] at g1
      subst g1
      rw[g3] at b3
      simp only[ζa,Obj.map.injEq] at b3
      obtain⟨rfl,rfl⟩:=b3
      rw[v1] at x1
      simp only[ζa] at x1
      subst x1;exact x2
     ·exact absurd hb2.1 (Nat.not_lt_of_le hM)
    obtain⟨r0,hr0,hc0⟩:=ξm.1 (ζi k1)
    exact⟨v,v1,key c0 v (hgb c q0 hcb hq0 r0 hr0 c0 hc0) old,v3⟩
  have hsz:∀r,r∈q0.rows.map (·.map g)→r.length=q0.size:=fun r hr=>by
   obtain⟨r0,hr0,rfl⟩:=ζt.1 hr
   simpa using a4 r0 hr0
  refine .inr (.inr ⟨hM,B,o,cs,e,a1,a2,a3,hsz,by simpa using a5,fun i c' hc'=>?_,a7,by simpa using a8⟩)
  have hfl:(q0.rows.map (·.map g)).flatten=q0.rows.flatten.map g:=by rw[List.map_flatten]
  simp only at hc'
  rw[hfl,ζo,ζb] at hc'
  obtain⟨c0,k1,rfl⟩:=hc'
  obtain⟨v,v1,v2,v3,v4⟩:=a6 i c0 k1
  have old:Rep γ w st.b st.u c0 v:=by
   rcases h.b c q0 hq0 with⟨z0,z1⟩|hm|⟨_,B2,o2,cs2,e2,b1,b2,b3,_,_,b6,_⟩
   ·rw[z1] at k1;simp at k1
   ·exact(hm.small hM).elim
   ·obtain⟨x,x1,x2,_⟩:=b6 i c0 k1
    rw[hloc,b1] at a1
    simp only[ζa,ζP] at a1
    obtain⟨rfl,rfl⟩:=a1
    obtain⟨rfl,rfl⟩:=a3.unique b3
    rw[v1] at x1
    simp only[ζa] at x1
    subst x1;exact x2
  obtain⟨r0,hr0,hc0⟩:=ξm.1 (ζi k1)
  refine⟨v,v1,key c0 v (hgb c q0 hcb hq0 r0 hr0 c0 hc0) old,v3,?_⟩
  show E5 γ' w (.nest c (i / q0.size) (i % q0.size)) (g c0) v
  cases ho:(g c0).isOwn with
  | false=>exact .of_not_own ho
  | true=>rw[hown c0 ho];exact v4
 ·simp only[St.shr] at hq ⊢
  split
  ·rfl
  ·rename_i hcb
   rw[if_neg hcb] at hq
   obtain⟨q0,hq0,_⟩:=ζb.1 hq
   exact h.u c q0 hq0
end Go.EV
