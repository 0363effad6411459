/- The value-level logic: operations that make or write local blocks: new variables, stores, slice literals. The value-level logic: new variables and sl ..; no conditions. -/
import Derived.Test.YtjpahkpfkohfkaaGreatDoorF1
import Derived.OrdersIn
import Derived.Scope
import Derived.KernelRfl
set_option linter.unusedVariables false
set_option linter.unusedSimpArgs false
namespace Go.EV
open Go
theorem W2.oneCell{lim:Nat→Nat}{w:World}{c:V}{v:Value}(h:W2 lim w c v):v.oneCell'=true:=by cases h<;>first|rfl|(rename_i h;cases v<;>first|rfl|simp[isIfc] at h)
def V.isCell:V→Bool
 | .agg _|.tup _|.undef=>false
 | _=>true
def V.strip:V→V
 | .sl _ size rows=>.sl false size rows
 | c=>c
def V.isOwn:V→Bool
 | .sl true _ _=>true
 | _=>false
theorem strip_own(c:V):c.strip.isOwn=false:=by cases c<;>rfl
theorem Rep.strip{γ:Gh}{w:World}{bs:Nat→Option Blk}{u:Nat→Bool}{c:V}{v:Value}(h:Rep γ w bs u c v):Rep γ w bs u c.strip v:=by
 cases c<;>try exact h
 rename_i own size rows
 obtain⟨a,rfl,rfl⟩|⟨B,o,cap,vs,rfl,h1,h2,h3,h4⟩:=h.sl_inv
 ·exact .data (.slNil false size a)
 ·exact .data (.sl false size rows B o cap vs h1 h2 h3 h4)
theorem E5.of_not_own{γ:Gh}{w:World}{t:H4}{c:V}{v:Value}(h:c.isOwn=false):E5 γ w t c v:=by
 unfold E5
 split
 ·simp[V.isOwn] at h
 ·trivial
theorem Rep.isCell_one{γ:Gh}{w:World}{bs:Nat→Option Blk}{u:Nat→Bool}{c:V}{v:Value}(h:Rep γ w bs u c v)(hc:c.isCell=true):v.oneCell'=true:=
 h.oneCell (fun e=>by subst e;simp[V.isCell] at hc) (fun l e=>by subst e;simp[V.isCell] at hc) (fun l e=>by subst e;simp[V.isCell] at hc)
def Gh.add(γ:Gh)(d B:Nat):Gh where
 loc:=fun b=>if b=d then some (B,0) else γ.loc b
 own:=fun b=>if b=B then some (.blk d) else γ.own b
 lim:=fun b=>if b=B then 0 else γ.lim b
theorem D7{w w1:World}{o:Obj}(hh:w1.heap=w.heap.push o){B:Nat}(hB:B < w.heap.size):w1.heap[B]?=w.heap[B]?:=by
 rw[hh,Array.getElem?_push,if_neg (by omega)]
theorem cellAt_push{w w1:World}{o:Obj}(hh:w1.heap=w.heap.push o){B x:Nat}{v:Value}(h:cellAt w B x=some v):cellAt w1 B x=some v:=by
 have hB:=cellAt_lt h
 unfold cellAt World.cell? at h ⊢
 simp only[D7 hh hB];exact h
structure SameBut(w w1:World):Prop where
 os:w1.os=w.os
 tape:w1.tape=w.tape
 output:w1.output=w.output
theorem Grow.push{γ:Gh}{w w1:World}{o:Obj}(hh:w1.heap=w.heap.push o)(hs:SameBut w w1)(d:Nat):Grow γ w (γ.add d w.heap.size) w1 where
 os:=hs.os
 tape:=hs.tape
 output:=hs.output
 size:=by rw[hh];simp
 imm:=fun B x v _ h=>cellAt_push hh h
 lim:=fun B hB=>by simp only[Gh.add];rw[if_neg (by omega)];exact ζK _
 free:=fun B hB ho=>⟨D7 hh hB,by simp only[Gh.add];rw[if_neg (by omega)];exact ho,by simp only[Gh.add];rw[if_neg (by omega)]⟩
 room:=fun B cs e fz h=>⟨cs,fz,by
  have hB:B < w.heap.size:=by
   rcases ζN B w.heap.size with hb|hb
   ·exact hb
   ·rw[Array.getElem?_eq_none hb] at h;simp at h
  rw[D7 hh hB];exact h,rfl,.inl rfl⟩
theorem Sim.fresh_b{G:Nat→Option (List V)}{γ:Gh}{st:St}{tmps:Array Value}{w:World}(h:Sim G γ st tmps w){d:Nat}(hu:st.u d=false):st.b d=none:=by
 cases hb:st.b d with
 | none=>rfl
 | some k=>have:=h.u d k hb;rw[hu] at this;simp at this
theorem Sim.bsLe_new{G:Nat→Option (List V)}{γ γ':Gh}{st:St}{tmps:Array Value}{w:World}(h:Sim G γ st tmps w){d:Nat}{k:Blk}(hu:st.u d=false)(hl:∀b,b≠d→γ'.loc b=γ.loc b) :
  L1 γ st.b st.u γ' (st.setB d k).b (st.setB d k).u where
 used:=fun b hb=>by simp only[St.setB];split<;>simp_all
 gone:=fun b hb hn=>by
  have:b≠d:=fun e=>by subst e;rw[hu] at hb;simp at hb
  simp only[St.setB];rw[if_neg this];exact hn
 kept:=fun b k' hk=>by
  have:b≠d:=fun e=>by subst e;rw[h.fresh_b hu] at hk;simp at hk
  simp only[St.setB]
  rw[if_neg this,if_neg this]
  exact⟨h.u b k' hk,.inr ⟨k',hk,rfl,fun _=>rfl,hl b this⟩⟩
theorem E5.mono{γ γ':Gh}{w:World}{t:H4}{c:V}{v:Value}(h:E5 γ w t c v)(ho:∀B,γ.own B=some t→γ'.own B=some t∧γ'.lim B≤γ.lim B):E5 γ' w t c v:=by
 unfold E5 at h ⊢
 split at h
 ·rename_i size rows a l cp
  rcases h with h|h
  ·exact .inl h
  exact .inr ⟨⟨(ho _ h.1.1).1,Nat.le_trans (ho _ h.1.1).2 h.1.2⟩,h.2⟩
 ·trivial
theorem S9.grow{G:Nat→Option (List V)}{γ γ':Gh}{w w':World}(h:S9 G γ w)(g:Grow γ w γ' w'):S9 G γ' w':=fun i cells hc=>g.data (h i cells hc)
theorem Sim.newBlkF{G:Nat→Option (List V)}{γ:Gh}{st:St}{tmps:Array Value}{w w1:World}(h:Sim G γ st tmps w){d size:Nat}{rows:List (List V)}{cs:Array Value}{e:TypeId}{fz:Nat×Nat}
  (hM:size < W9) (hu:st.u d=false) (hh:w1.heap=w.heap.push (.cells cs e fz)) (hfz:∀i,i < cs.size→¬(fz.1≤i∧i < fz.2)) (hs:SameBut w w1) (hrows:∀r,r∈rows→r.length=size) (hlen:rows.length * size≤cs.size)
  (hcells:∀(i:Nat) (c:V),rows.flatten[i]?=some c→∃v,cs[i]?=some v∧Rep γ w st.b st.u c v∧v.oneCell'=true∧c.isOwn=false) :
  Sim G (γ.add d w.heap.size) (st.setB d ⟨size,true,rows⟩) tmps w1∧Grow γ w (γ.add d w.heap.size) w1∧L1 γ st.b st.u (γ.add d w.heap.size) (st.setB d ⟨size,true,rows⟩).b (st.setB d ⟨size,true,rows⟩).u:=by
 have g:=Grow.push (γ:=γ) hh hs d
 have bl:L1 γ st.b st.u (γ.add d w.heap.size) (st.setB d ⟨size,true,rows⟩).b (st.setB d ⟨size,true,rows⟩).u:=
  h.bsLe_new hu fun b hb=>by simp only[Gh.add];rw[if_neg hb]
 refine⟨⟨h.n,fun i=>(h.t i).mono g bl,fun b k hk=>?_,fun b k hk=>?_,h.g.grow g,fun B x hx=>?_⟩,g,bl⟩
 ·simp only[St.setB] at hk
  by_cases hb:b=d
  ·subst hb
   rw[if_pos rfl] at hk
   simp only[ζa] at hk;subst hk
   refine .inr (.inr ⟨hM,w.heap.size,0,cs,e,by simp[Gh.add],by simp[Gh.add],⟨fz,by rw[hh];simp,hfz⟩,hrows,by simpa using hlen,fun i c hc=>?_,fun _=>by simp[Gh.add],by simp[Gh.add]⟩)
   obtain⟨v,h1,h2,h3,h4⟩:=hcells i c hc
   exact⟨v,by simpa using h1,h2.mono g bl,h3,.of_not_own h4⟩
  ·rw[if_neg hb] at hk
   rcases h.b b k hk with⟨v1,v2⟩|hm|⟨hM,B,o,cs',e',h1,h2,h3,h4,h5,h6,h7,h8⟩
   ·exact .inl ⟨by simp only[Gh.add];rw[if_neg hb];exact v1,v2⟩
   ·exact .inr (.inl (hm.same (by simp only[Gh.add];rw[if_neg hb]) (fun B _ hB=>by
     have hlt:=h.o B _ hB
     exact⟨by simp only[Gh.add];rw[if_neg (by omega)];exact hB,D7 hh hlt⟩) fun c v hr=>hr.mono g bl))
   have hB:B < w.heap.size:=h3.lt
   have hne:B≠w.heap.size:=by omega
   refine .inr (.inr ⟨hM,B,o,cs',e',by simp only[Gh.add];rw[if_neg hb];exact h1,by simp only[Gh.add];rw[if_neg hne];exact h2,h3.of_eq (D7 hh hB),h4,h5,fun i c hc=>?_,
    by simp only[Gh.add];rw[if_neg hne];exact h7,by simp only[Gh.add];rw[if_neg hne];exact h8⟩)
   obtain⟨v,a1,a2,a3,a4⟩:=h6 i c hc
   refine⟨v,a1,a2.mono g bl,a3,?_⟩
   replace a4:=a4.grow g (fun B hB=>by
    have:=h.o _ _ hB
    simp only[Gh.add];rw[if_neg (by omega)];exact ζK _)
   unfold E5 at a4 ⊢
   split at a4
   ·rename_i size' rows' a l cp
    rcases a4 with a4|a4
    ·exact .inl a4
    refine .inr ?_
    have hab:a.block≠w.heap.size:=by have:=h.o _ _ a4.1.1;omega
    simp only[Gh.add];rw[if_neg hab,if_neg hab];exact a4
   ·trivial
 ·simp only[St.setB] at hk ⊢
  by_cases hb:b=d
  ·subst hb;simp
  ·rw[if_neg hb] at hk;rw[if_neg hb];exact h.u b k hk
 ·simp only[Gh.add] at hx
  rw[hh];simp only[Array.size_push]
  split at hx
  ·omega
  ·have:=h.o B x hx;omega
theorem Sim.newBlk{G:Nat→Option (List V)}{γ:Gh}{st:St}{tmps:Array Value}{w w1:World}(h:Sim G γ st tmps w){d size:Nat}{rows:List (List V)}{cs:Array Value}{e:TypeId}
  (hM:size < W9) (hu:st.u d=false) (hh:w1.heap=w.heap.push (.cells cs e)) (hs:SameBut w w1) (hrows:∀r,r∈rows→r.length=size) (hlen:rows.length * size≤cs.size)
  (hcells:∀(i:Nat) (c:V),rows.flatten[i]?=some c→∃v,cs[i]?=some v∧Rep γ w st.b st.u c v∧v.oneCell'=true∧c.isOwn=false) :
  Sim G (γ.add d w.heap.size) (st.setB d ⟨size,true,rows⟩) tmps w1∧Grow γ w (γ.add d w.heap.size) w1∧L1 γ st.b st.u (γ.add d w.heap.size) (st.setB d ⟨size,true,rows⟩).b (st.setB d ⟨size,true,rows⟩).u:=
 h.newBlkF hM hu hh (fun _ _=>by omega) hs hrows hlen hcells
theorem ofVal_isCell{v:Value}{c:V}(h:ofVal v=some c):c.isCell=true∧c.isOwn=false:=by
 unfold ofVal at h
 split at h<;>simp at h<;>subst h<;>exact⟨rfl,rfl⟩
theorem mapM_ofVal_isCell:∀{l:List Value} {cs:List V},l.mapM ofVal=some cs→∀c,c∈cs→c.isCell=true∧c.isOwn=false
 | [],cs,h,c,hc=>by simp at h;subst h;simp at hc
 | x :: l,cs,h,c,hc=>by
  simp only[List.mapM_cons,Option.bind_eq_bind,ζc,Option.pure_def,ζa] at h
  obtain⟨c',h1,cs',h2,rfl⟩:=h
  rcases ζv.1 hc with rfl|hc
  ·exact ofVal_isCell h1
  ·exact mapM_ofVal_isCell h2 c hc
theorem zeroV_isCell{P:Program}{t:TypeId}{cs:List V}(h:zeroV P t=some cs):∀c,c∈cs→c.isCell=true∧c.isOwn=false:=by
 replace h:=(A1 h).1
 unfold zeroV0 at h
 split at h
 ·split at h
  ·exact mapM_ofVal_isCell h
  ·simp at h
 ·simp at h
theorem Sim.newBox{G:Nat→Option (List V)}{γ:Gh}{st:St}{a:Act}{w:World}(h:Sim G γ st a.tmps w){d:Nat}{cells:List V}{vs:Array Value}{e:TypeId}(hM:cells.length < W9)(hu:st.u d=false)(hd:d < st.n)
  (hr:J8 γ w st.b st.u cells vs) (hc:∀c,c∈cells→c.isCell=true∧c.isOwn=false) :
  ∃γ',Grow γ w γ' { w with heap:=w.heap.push (.cells vs e) }∧Pin γ st.b st.u γ' (st.setB d ⟨cells.length,true,[cells]⟩).b (st.setB d ⟨cells.length,true,[cells]⟩).u∧
   Sim G γ' ((st.setB d ⟨cells.length,true,[cells]⟩).setT d (.ptr d 0 0)) (a.put (some d) (.pointer (some ⟨w.heap.size,0,none⟩))).tmps { w with heap:=w.heap.push (.cells vs e) }:=by
 have key:=h.newBlk (d:=d) (size:=cells.length) (rows:=[cells]) (cs:=vs) (e:=e) (w1:={ w with heap:=w.heap.push (.cells vs e) }) hM hu rfl ⟨rfl,rfl,rfl⟩ (by simp) (by simp[hr.1]) (fun i c hi=>by
  simp only[List.flatten_cons,List.flatten_nil,ξk] at hi
  have hlt:i < vs.size:=by rw[hr.1];exact(ζe.1 hi).1
  have hv:vs[i]?=some vs[i]:=ζg hlt
  obtain⟨c1,c2⟩:=hc c (ζi hi)
  exact⟨vs[i],hv,hr.2 i c _ hi hv,(hr.2 i c _ hi hv).isCell_one c1,c2⟩)
 refine⟨_,key.2.1,key.2.2.pin,?_⟩
 have hp:=key.1.put (a:=a) (dst:=some d) (c:=.ptr d 0 0) (v:=.pointer (some ⟨w.heap.size,0,none⟩)) (by simpa[H2,St.setB] using hd) (by
  have:=Rep.ptr (γ:=γ.add d w.heap.size) (w:={ w with heap:=w.heap.push (.cells vs e) }) (u:=(st.setB d ⟨cells.length,true,[cells]⟩).u) (bs:=(st.setB d ⟨cells.length,true,[cells]⟩).b) d 0 0 w.heap.size 0 ⟨cells.length,true,[cells]⟩ (by simp[St.setB]) (by simp[Gh.add]) hM
  simpa using this)
 exact hp
theorem effO_alloc{P:Program}{G:Nat→Option (List V)}{o:Oper}{st:St}{elem:TypeId}{d:Nat}{cs:List V}(ho:o.op=.alloc elem)(hd:o.dst=some d)(hn:d < st.n)(hu:st.u d=false)(hz:zeroV P elem=some cs) :
  N0 P G o st ((st.setB d ⟨cs.length,true,[cs]⟩).setT d (.ptr d 0 0)):=
 H6 fun γ a w hs=>by
  obtain⟨z,hz1,hz2⟩:=T3 (P:=P) (γ:=γ) (w:=w) (bs:=st.b) (u:=st.u) hz
  obtain⟨γ',g,pn,hs'⟩:=hs.newBox (e:=elem) (A1 hz).2 hu hn hz2 (zeroV_isCell hz)
  refine⟨_,_,γ',?_,g,pn,by rw[hd];exact hs'⟩
  simp[execOp,ho,Instr.alloc,hz1,newVar,newRow]
def boxV(c:V):Option (List V):=smallL <|
 match c.cellsOf with
 | some cs=>if cs.all V.isCell then some (cs.map V.strip) else none
 | none=>none
theorem strip_isCell{c:V}(h:c.isCell=true):c.strip.isCell=true:=by cases c<;>simp_all [V.isCell,V.strip]
theorem J8.strip{γ:Gh}{w:World}{bs:Nat→Option Blk}{u:Nat→Bool}{cs:List V}{vs:Array Value}(h:J8 γ w bs u cs vs):J8 γ w bs u (cs.map V.strip) vs:=by
 refine⟨by simpa using h.1,fun i c v hc hv=>?_⟩
 rw[ζo,ζb] at hc
 obtain⟨c',h1,rfl⟩:=hc
 exact(h.2 i c' v h1 hv).strip
theorem boxV_spec{c:V}{cs:List V}(h:boxV c=some cs){γ:Gh}{w:World}{bs:Nat→Option Blk}{u:Nat→Bool}{v:Value}(hr:Rep γ w bs u c v) :
  J8 γ w bs u cs v.cells∧∀c,c∈cs→c.isCell=true∧c.isOwn=false:=by
 replace h:=(A1 h).1
 split at h
 ·rename_i cs0 h0
  split at h<;>simp at h
  rename_i ha
  subst h
  refine⟨(hr.cellsR h0).strip,fun c hc=>?_⟩
  obtain⟨c',h1,rfl⟩:=ζt.1 hc
  exact⟨strip_isCell (by simpa using ζE.1 ha c' h1),strip_own c'⟩
 ·simp at h
theorem effO_box{P:Program}{G:Nat→Option (List V)}{o:Oper}{st:St}{elem:TypeId}{x:Operand}{d:Nat}{c:V}{cs:List V}(ho:o.op=.box elem x)(hd:o.dst=some d)(hn:d < st.n)(hu:st.u d=false)
  (hx:st.ev G x=some c) (hc:boxV c=some cs):N0 P G o st ((st.setB d ⟨cs.length,true,[cs]⟩).setT d (.ptr d 0 0)):=
 H6 fun γ a w hs=>by
  obtain⟨h1,h2⟩:=boxV_spec hc (hs.ev hx)
  obtain⟨γ',g,pn,hs'⟩:=hs.newBox (e:=elem) (A1 hc).2 hu hn h1 h2
  refine⟨_,_,γ',?_,g,pn,by rw[hd];exact hs'⟩
  simp[execOp,ho,Instr.box,newVar,newRow]
def chunk(s:Nat):Nat→List V→List (List V)
 | 0,_=>[]
 | n+1,l=>l.take s :: chunk s n (l.drop s)
theorem chunk_spec(s:Nat):∀(n:Nat) (l:List V),l.length=n * s→(chunk s n l).flatten=l∧(chunk s n l).length=n∧∀r,r∈chunk s n l→r.length=s
 | 0,l,h=>by
  have:l=[]:=ζS.1 (by simpa using h)
  subst this;exact⟨rfl,rfl,fun r hr=>by simp[chunk] at hr⟩
 | n+1,l,h=>by
  have hl:l.length=n * s+s:=by rw[h,ξp];omega
  obtain⟨h1,h2,h3⟩:=chunk_spec s n (l.drop s) (by simp[hl])
  refine⟨by simp[chunk,h1],by simp[chunk,h2],fun r hr=>?_⟩
  simp only[chunk,ζv] at hr
  rcases hr with rfl|hr
  ·simp;omega
  ·exact h3 r hr
def zerosV(z:List V)(n:Nat):List V:=(List.range n).map fun i=>z.getD (i % z.length) .undef
theorem zerosV_rep{γ:Gh}{w:World}{bs:Nat→Option Blk}{u:Nat→Bool}{z:List V}{zv:Array Value}(h:J8 γ w bs u z zv)(n:Nat) :
  J8 γ w bs u (zerosV z n) ((Array.range n).map (zv[· % zv.size]!)):=by
 refine⟨by simp[zerosV],fun i c v hc hv=>?_⟩
 simp only[zerosV,ζo,ζb] at hc
 obtain⟨j,hj,rfl⟩:=hc
 have hlt:i < n:=by
  have:=(ζe.1 hj).1;simpa using this
 have hji:j=i:=by
  rw[List.getElem?_range hlt] at hj;simpa using hj.symm
 subst hji
 simp only[Array.getElem?_map,ζb] at hv
 obtain⟨k,hk,rfl⟩:=hv
 have hkj:k=j:=by
  have:(Array.range n)[j]?=some j:=by simp[hlt]
  rw[this] at hk;simpa using hk.symm
 subst hkj
 rw[←h.1]
 by_cases hz:k % zv.size < zv.size
 ·have h1:z[k % zv.size]?=some (z[k % zv.size]'(by rw[←h.1];exact hz)):=ζd _
  have h2:zv[k % zv.size]?=some (zv[k % zv.size]):=ζg hz
  rw[getElem!_pos zv _ hz]
  have:z.getD (k % zv.size) .undef=z[k % zv.size]'(by rw[←h.1];exact hz):=by rw[ζV,h1];rfl
  rw[this]
  exact h.2 _ _ _ h1 h2
 ·have:z.getD (k % zv.size) .undef=.undef:=by
   rw[ζV,ξn (by rw[←h.1];omega)];rfl
  rw[this]
  exact .undef _
def S5(P:Program)(t:TypeId)(n:Nat)(parts:List (Nat×V)):Option Blk:=
 match P.underlying t with
 | some (.slice e)=>match P.info? e,zeroV P e with
  | some ei,some z=>if n * ei.size≤16777216∧ei.size < W9 then
    match fillV (fun i=>some (i * ei.size,ei.size)) (if n * ei.size=0 then [] else zerosV z (n * ei.size)) parts with
    | some out=>if out.all V.isCell&&out.length==n * ei.size then some ⟨ei.size,true,chunk ei.size n (out.map V.strip)⟩ else none
    | none=>none
   else none
  | _,_=>none
 | _=>none
theorem effO_buildSlice'{P:Program}{G:Nat→Option (List V)}{o:Oper}{st:St}{t:TypeId}{n:Nat}{ps:Array (Nat×Operand)}{d:Nat}{parts:List (Nat×V)}{k:Blk}(ho:o.op=.buildSlice t n ps)(hd:o.dst=some d)(hn:d < st.n)(hu:st.u d=false)
  (hx:∀(γ:Gh) (a:Act) (w:World),Sim G γ st a.tmps w→ps.toList.length=parts.length∧∀(j:Nat) (p:Nat×V) (x:Nat×Value),parts[j]?=some p→(ps.toList.map fun y=>(y.1,a.eval y.2))[j]?=some x→p.1=x.1∧Rep γ w st.b st.u p.2 x.2) (hk:S5 P t n parts=some k):N0 P G o st ((st.setB d k).setT d (.ref d 0 n)):=
 H6 fun γ a w hs=>by
  unfold S5 at hk
  split at hk
  ·rename_i e hut
   split at hk
   ·rename_i ei z hi hz
    split at hk
    ·rename_i hsmall
     obtain⟨hsmall,hM⟩:=hsmall
     split at hk
     ·rename_i out hf
      split at hk<;>simp at hk
      rename_i hall
      subst hk
      simp only[ζA,beq_iff_eq] at hall
      obtain⟨hall,hlen⟩:=hall
      obtain⟨zv,hz1,hz2⟩:=T3 (P:=P) (γ:=γ) (w:=w) (bs:=st.b) (u:=st.u) hz
      obtain⟨l,hp⟩:=hx γ a w hs
      have hp':∀(j:Nat) (p:Nat×V) (x:Nat×Value),parts[j]?=some p→(ps.map fun(i,x)=>(i,a.eval x)).toList[j]?=some x→p.1=x.1∧Rep γ w st.b st.u p.2 x.2:=by
       intro j p x h1 h2
       have:ps.toList.map (fun y=>(y.1,a.eval y.2))=(ps.map fun(i,x)=>(i,a.eval x)).toList:=by simp
       rw[←this] at h2
       exact hp j p x h1 h2
      have hcr:J8 γ w st.b st.u (if n * ei.size=0 then [] else zerosV z (n * ei.size)) ((Array.range (n * ei.size)).map ((if n * ei.size=0 then #[] else zv.cells)[· % (if n * ei.size=0 then #[] else zv.cells).size]!)):=by
       by_cases h0:n * ei.size=0
       ·simp only[h0,if_true];exact⟨by simp,fun i c v hc=>by simp at hc⟩
       ·simp only[h0,if_false];exact zerosV_rep hz2 _
      obtain⟨r,hr1,hr2⟩:=fill_rep (γ:=γ) (w:=w) (bs:=st.b) (u:=st.u) _ parts (ps.map fun(i,x)=>(i,a.eval x)).toList _ out _ hf hcr (by simpa using l) hp'
      obtain⟨c1,c2,c3⟩:=chunk_spec ei.size n (out.map V.strip) (by simpa using hlen)
      have hr3:=hr2.strip
      have key:=hs.newBlk (d:=d) (size:=ei.size) (rows:=chunk ei.size n (out.map V.strip)) (cs:=r) (e:=e) (w1:={ w with heap:=w.heap.push (.cells r e) }) hM hu rfl ⟨rfl,rfl,rfl⟩ c3 (by rw[c2,hr2.1,hlen];exact ζK _) (fun i c hc=>by
       rw[c1] at hc
       have hlt:i < r.size:=by rw[hr3.1];exact(ζe.1 hc).1
       have hv:r[i]?=some r[i]:=ζg hlt
       obtain⟨c',h1,rfl⟩:=ζt.1 (ζi hc)
       exact⟨r[i],hv,hr3.2 i _ _ hc hv,(hr3.2 i _ _ hc hv).isCell_one (strip_isCell (by simpa using ζE.1 hall c' h1)),strip_own c'⟩)
      refine⟨.slice (some ⟨w.heap.size,0,none⟩) n n,_,γ.add d w.heap.size,?_,key.2.1,key.2.2.pin,?_⟩
      ·have hns:¬(n * ei.size > 2 ^ 24):=by omega
       by_cases h0:n * ei.size=0
       ·simp only[h0,if_true] at hr1
        simp[execOp,ho,Instr.buildSlice,ζO hut,sizeOf,typeInfo,hi,h0,newRow]
        simp at hr1
        rw[hr1];simp
       ·simp only[h0,if_false] at hr1
        have hr1':Instr.fill (fun i=>some (i * ei.size,ei.size)) (Array.map (fun x=>zv.cells[x % zv.cells.size]!) (Array.range (n * ei.size))) (ps.map fun(i,x)=>(i,a.eval x)).toList=some r:=hr1
        have hzr : (do let v ← zeroValue e; pure v.cells : Sem (Array Value)).run P w = .ok zv.cells w := by simp [hz1]
        simp only[execOp,ho,Instr.buildSlice,ζT,ζO hut,ζQ,sizeOf,typeInfo,run_program,hi,ζU,hns,h0,if_false,Sem.run_ite,hz1,hr1',newRow,run_newObj]
      ·have hb:=key.1.put (a:=a) (dst:=some d) (c:=.ref d 0 n) (v:=.slice (some ⟨w.heap.size,0,none⟩) n n) (by simpa[H2,St.setB] using hn) (by
        have:=Rep.ref (γ:=γ.add d w.heap.size) (w:={ w with heap:=w.heap.push (.cells r e) }) (bs:=(st.setB d ⟨ei.size,true,chunk ei.size n (out.map V.strip)⟩).b) (u:=(st.setB d ⟨ei.size,true,chunk ei.size n (out.map V.strip)⟩).u)
         d 0 n w.heap.size 0 n ⟨ei.size,true,chunk ei.size n (out.map V.strip)⟩ (by simp[St.setB]) (by simp[Gh.add]) (by simp[c2]) (ζK _) ⟨r,e,(0,0),by simp,by rw[hr2.1,hlen];simp⟩ hM (by simp[c2])
        simpa using this)
       rw[hd]
       exact hb
     ·simp at hk
    ·simp at hk
   ·simp at hk
  ·simp at hk
theorem effO_buildSlice{P:Program}{G:Nat→Option (List V)}{o:Oper}{st:St}{t:TypeId}{n:Nat}{ps:Array (Nat×Operand)}{d:Nat}{parts:List (Nat×V)}{k:Blk}(ho:o.op=.buildSlice t n ps)(hd:o.dst=some d)(hn:d < st.n)(hu:st.u d=false)
  (hx:evParts (st.ev G) ps.toList=some parts) (hk:S5 P t n parts=some k):N0 P G o st ((st.setB d k).setT d (.ref d 0 n)):=
 effO_buildSlice' ho hd hn hu (fun _ _ _ hs=>evParts_rep hs hx) hk
def K6(cs:Array Value)(o:Nat):List Value→Array Value
 | []=>cs
 | v :: vs=>K6 (cs.setIfInBounds o v) (o+1) vs
theorem F6:∀(vs:List Value) (o:Nat) (cs:Array Value),o+vs.length≤cs.size→
  (K6 cs o vs).size=cs.size∧∀j:Nat,(K6 cs o vs)[j]?=if o≤j∧j < o+vs.length then vs[j - o]? else cs[j]?
 | [],o,cs,_=>⟨rfl,fun j=>by rw[if_neg (by simp)];rfl⟩
 | v :: vs,o,cs,h=>by
  simp only[ξj] at h
  obtain⟨h1,h2⟩:=F6 vs (o+1) (cs.setIfInBounds o v) (by simp;omega)
  refine⟨by rw[K6,h1];simp,fun j=>?_⟩
  rw[K6,h2]
  simp only[ξj]
  by_cases hj:j=o
  ·subst hj
   rw[if_neg (by omega),if_pos (by omega)]
   have:j < cs.size:=by omega
   simp[this]
  ·by_cases hin:o≤j∧j < o+(vs.length+1)
   ·rw[if_pos (by omega),if_pos hin,show j - o=(j - (o+1))+1 by omega];simp
   ·rw[if_neg (by omega),if_neg hin,Array.getElem?_setIfInBounds,if_neg (fun e=>hj e.symm)]
theorem M6.unique{w:World}{B:Nat}{cs cs':Array Value}{e e':TypeId}(h:M6 w B cs e)(h':M6 w B cs' e'):cs=cs'∧e=e':=by
 obtain⟨fz,h,_⟩:=h
 obtain⟨fz',h',_⟩:=h'
 rw[h] at h'
 simp only[ζa,Obj.cells.injEq] at h'
 exact⟨h'.1,h'.2.1⟩
def fzOf(w:World)(B:Nat):Nat×Nat:=match w.heap[B]? with|some (.cells _ _ fz)=>fz|_=>(0,0)
def World.setBlk(w:World)(B:Nat)(cs:Array Value)(e:TypeId):World:={ w with heap:=w.heap.setIfInBounds B (.cells cs e (fzOf w B)) }
theorem fzOf_eq{w:World}{B:Nat}{cs:Array Value}{e:TypeId}{fz:Nat×Nat}(h:w.heap[B]?=some (.cells cs e fz)):fzOf w B=fz:=by
 unfold fzOf;rw[h]
theorem setCell_eq{w:World}{B o:Nat}{cs:Array Value}{e:TypeId}(h:M6 w B cs e)(v:Value) :
  w.setCell ⟨B,o,none⟩ v=World.setBlk w B (cs.setIfInBounds o v) e:=by
 obtain⟨fz,h,_⟩:=h
 unfold World.setCell World.setBlk
 rw[fzOf_eq h]
 congr 1
 apply Array.ext_getElem?
 intro i
 rw[Array.getElem?_modify,Array.getElem?_setIfInBounds]
 by_cases hi:B=i
 ·subst hi
  obtain⟨hB,hx⟩:=ζf.1 h
  simp[hB,hx]
 ·simp[hi]
theorem setBlk_get'{w:World}{B:Nat}{cs:Array Value}{e:TypeId}(hB:B < w.heap.size):(World.setBlk w B cs e).heap[B]?=some (.cells cs e (fzOf w B)):=by
 simp[World.setBlk,hB]
theorem M6.set{w:World}{B:Nat}{cs cs':Array Value}{e:TypeId}(h:M6 w B cs e)(hs:cs'.size=cs.size):M6 (World.setBlk w B cs' e) B cs' e:=by
 have hB:=h.lt
 obtain⟨fz,h,hf⟩:=h
 exact⟨fz,by rw[setBlk_get' hB,fzOf_eq h],fun i hi=>hf i (by omega)⟩
theorem T2{w:World}{B i:Nat}{cs:Array Value}{e:TypeId}(h:i≠B):(World.setBlk w B cs e).heap[i]?=w.heap[i]?:=by
 simp only[World.setBlk,Array.getElem?_setIfInBounds];rw[if_neg (fun x=>h x.symm)]
theorem fzOf_setBlk(w:World)(B:Nat)(cs:Array Value)(e:TypeId):fzOf (World.setBlk w B cs e) B=fzOf w B:=by
 rcases ζN B w.heap.size with hB|hB
 ·exact fzOf_eq (setBlk_get' hB)
 ·unfold fzOf World.setBlk
  rw[Array.getElem?_eq_none hB,Array.getElem?_eq_none (by simpa using hB)]
theorem setBlk_setBlk(w:World)(B:Nat)(cs cs':Array Value)(e:TypeId):World.setBlk (World.setBlk w B cs e) B cs' e=World.setBlk w B cs' e:=by
 have h:=fzOf_setBlk w B cs e
 show { World.setBlk w B cs e with heap:=(World.setBlk w B cs e).heap.setIfInBounds B (.cells cs' e (fzOf (World.setBlk w B cs e) B)) }=_
 rw[h]
 simp[World.setBlk,Array.setIfInBounds_setIfInBounds]
theorem X7{P:Program}{B o:Nat}{e:TypeId}:∀(vs:List Value) (i:Nat) (w:World) (cs:Array Value),M6 w B cs e→(∀v,v∈vs→v.oneCell'=true)→o+i+vs.length≤cs.size→
  (storeCells ⟨B,o,none⟩ vs i).run P w=.ok () (World.setBlk w B (K6 cs (o+i) vs) e)
 | [],i,w,cs,h,_,_=>by
  have:World.setBlk w B cs e=w:=by
   obtain⟨fz,h,_⟩:=h
   unfold World.setBlk
   rw[fzOf_eq h]
   have:w.heap.setIfInBounds B (.cells cs e fz)=w.heap:=by
    apply Array.ext_getElem?
    intro j
    rw[Array.getElem?_setIfInBounds]
    split
    ·rename_i hj;subst hj
     split
     ·exact h.symm
     ·rename_i hb;rw[Array.getElem?_eq_none (by omega)] at h;simp at h
    ·rfl
   rw[this]
  simp[storeCells,K6,this]
 | v :: vs,i,w,cs,h,h1,hl=>by
  simp only[ξj] at hl
  have hc:w.cell? ⟨B,o+i,none⟩=some (cs[o+i]'(by omega)):=by
   rw[h.cell];exact ζg (by omega)
  have hf:w.frozen? ⟨B,o+i,none⟩=false:=by
   obtain⟨fz,h,hf⟩:=h
   have:=hf (o+i) (by omega)
   unfold World.frozen?
   simp[h]
   omega
  have hst:(store ((⟨B,o,none⟩:Addr).add i) v).run P w=.ok () (World.setBlk w B (cs.setIfInBounds (o+i) v) e):=by
   rw[run_store P w _ v .plain (h1 v (by simp)),Addr.add_eq]
   simp only[hc,hf,Bool.false_eq_true,if_false,setCell_eq h]
  have ih:=X7 (P:=P) (B:=B) (o:=o) vs (i+1) (World.setBlk w B (cs.setIfInBounds (o+i) v) e) (cs.setIfInBounds (o+i) v) (h.set (by simp)) (fun x hx=>h1 x (by simp[hx])) (by simp;omega)
  rw[setBlk_setBlk] at ih
  rw[show storeCells ⟨B,o,none⟩ (v :: vs) i=(store ((⟨B,o,none⟩:Addr).add i) v >>= fun _=>storeCells ⟨B,o,none⟩ vs (i+1)) from rfl,ζT,hst,ζQ,ih]
  rfl
theorem cellAt_setBlk_ne{w:World}{B B' o:Nat}{cs:Array Value}{e:TypeId}(h:B'≠B):cellAt (World.setBlk w B cs e) B' o=cellAt w B' o:=by
 unfold cellAt World.cell?
 simp only[T2 h]
theorem Grow.setBlk{γ:Gh}{w:World}{B:Nat}{cs cs':Array Value}{e:TypeId}{x:H4}(h:M6 w B cs e)(hs:cs'.size=cs.size)(hl:∀o v,o < γ.lim B→cs[o]?=some v→cs'[o]?=some v)(hown:γ.own B=some x):Grow γ w γ (World.setBlk w B cs' e) where
 os:=rfl
 tape:=rfl
 output:=rfl
 size:=by simp[World.setBlk]
 imm:=fun B' o v ho hc=>by
  by_cases hb:B'=B
  ·subst hb
   rw[(h.set hs).cellAt]
   rw[h.cellAt] at hc
   exact hl o v ho hc
  ·rw[cellAt_setBlk_ne hb];exact hc
 lim:=fun _ _=>ζK _
 free:=fun B' hB ho=>⟨T2 (fun e=>by subst e;rw[hown] at ho;simp at ho),ho,rfl⟩
 room:=fun B' cs2 e2 fz hc=>by
  by_cases hb:B'=B
  ·subst hb
   have hB:=h.lt
   obtain⟨fz',h,_⟩:=h
   rw[h] at hc;simp only[ζa,Obj.cells.injEq] at hc
   obtain⟨rfl,rfl,rfl⟩:=hc
   exact⟨cs',_,by rw[setBlk_get' hB,fzOf_eq h],hs,.inl rfl⟩
  ·exact⟨cs2,fz,by rw[T2 hb];exact hc,rfl,.inl rfl⟩
theorem Sim.storeBlk{G:Nat→Option (List V)}{γ:Gh}{st:St}{tmps:Array Value}{w:World}(h:Sim G γ st tmps w){b:Nat}{k:Blk}(hk:st.b b=some k)(hM:k.size < W9){B o:Nat}{cs cs':Array Value}{e:TypeId}{rows':List (List V)}
  (hloc:γ.loc b=some (B,o)) (hown:γ.own B=some (.blk b)) (hheap:M6 w B cs e) (hsz:cs'.size=cs.size) (hlim:γ.lim B=0)
  (hrows:∀r,r∈rows'→r.length=k.size) (hlen:rows'.length=k.rows.length) (hroom:o+k.rows.length * k.size≤cs.size)
  (hcells:∀(i:Nat) (c:V),rows'.flatten[i]?=some c→∃v,cs'[o+i]?=some v∧Rep γ w st.b st.u c v∧v.oneCell'=true∧E5 γ w (.nest b (i / k.size) (i % k.size)) c v) :
  Sim G γ (st.setB b ⟨k.size,k.excl,rows'⟩) tmps (World.setBlk w B cs' e)∧Grow γ w γ (World.setBlk w B cs' e)∧L1 γ st.b st.u γ (st.setB b ⟨k.size,k.excl,rows'⟩).b (st.setB b ⟨k.size,k.excl,rows'⟩).u:=by
 have g:Grow γ w γ (World.setBlk w B cs' e):=Grow.setBlk hheap hsz (fun o v ho _=>by omega) hown
 have hu:=h.u b k hk
 have bl:L1 γ st.b st.u γ (st.setB b ⟨k.size,k.excl,rows'⟩).b (st.setB b ⟨k.size,k.excl,rows'⟩).u:=by
  refine⟨fun b' hb=>by simp only[St.setB];split<;>simp_all,fun b' hb hn=>?_,fun b' k' hk'=>?_⟩
  ·have:b'≠b:=fun e=>by subst e;rw[hk] at hn;simp at hn
   simp only[St.setB];rw[if_neg this];exact hn
  ·by_cases hb:b'=b
   ·subst hb
    rw[hk] at hk';simp only[ζa] at hk';subst hk'
    exact⟨by simp[St.setB],.inr ⟨⟨k.size,k.excl,rows'⟩,by simp[St.setB],rfl,fun _=>hlen,rfl⟩⟩
   ·exact⟨by simp only[St.setB];rw[if_neg hb];exact h.u b' k' hk',.inr ⟨k',by simp only[St.setB];rw[if_neg hb];exact hk',rfl,fun _=>rfl,rfl⟩⟩
 have hB:B < w.heap.size:=h.o B _ hown
 refine⟨⟨h.n,fun i=>(h.t i).mono g bl,fun b' k' hk'=>?_,fun b' k' hk'=>?_,h.g.grow g,fun B' x hx=>by simpa[World.setBlk] using h.o B' x hx⟩,g,bl⟩
 ·simp only[St.setB] at hk'
  by_cases hb:b'=b
  ·subst hb
   rw[if_pos rfl] at hk'
   simp only[ζa] at hk';subst hk'
   refine .inr (.inr ⟨hM,B,o,cs',e,hloc,hown,hheap.set hsz,hrows,by rw[hsz];simpa[hlen] using hroom,fun i c hc=>?_,fun _=>hlim,by rw[hlim];exact Nat.zero_le _⟩)
   obtain⟨v,h1,h2,h3,h4⟩:=hcells i c hc
   exact⟨v,h1,h2.mono g bl,h3,h4.grow g⟩
  ·rw[if_neg hb] at hk'
   rcases h.b b' k' hk' with⟨v1,v2⟩|hm|⟨hM2,B2,o2,cs2,e2,h1,h2,h3,h4,h5,h6,h7,h8⟩
   ·exact .inl ⟨v1,v2⟩
   ·exact .inr (.inl (hm.same rfl (fun B2 _ hB2=>⟨hB2,T2 fun e=>by subst e;rw[hown] at hB2;simp only[ζa,H4.blk.injEq] at hB2;exact hb hB2.symm⟩) fun c v hr=>hr.mono g bl))
   have hne:B2≠B:=fun e=>by subst e;rw[hown] at h2;simp only[ζa,H4.blk.injEq] at h2;exact hb h2.symm
   refine .inr (.inr ⟨hM2,B2,o2,cs2,e2,h1,h2,h3.of_eq (T2 hne),h4,h5,fun i c hc=>?_,h7,h8⟩)
   obtain⟨v,a1,a2,a3,a4⟩:=h6 i c hc
   exact⟨v,a1,a2.mono g bl,a3,a4.grow g⟩
 ·simp only[St.setB] at hk' ⊢
  by_cases hb:b'=b
  ·subst hb;simp
  ·rw[if_neg hb] at hk';rw[if_neg hb];exact h.u b' k' hk'
def R6(P:Program)(t:TypeId)(k:Blk)(i off:Nat)(c:V):Option Blk:=
 match P.info? t,boxV c,k.rows[i]? with
 | some ti,some cs,some r=>if ti.size=cs.length∧off+cs.length≤k.size∧k.excl=true then some ⟨k.size,k.excl,k.rows.set i (L4 r off cs)⟩ else none
 | _,_,_=>none
theorem splice_get(r:List V)(off:Nat)(cs:List V)(h:off+cs.length≤r.length)(j:Nat) :
  (L4 r off cs)[j]?=if off≤j∧j < off+cs.length then cs[j - off]? else r[j]?:=by
 unfold L4
 have lt:(r.take off).length=off:=by simp;omega
 by_cases h1:j < off
 ·rw[if_neg (by omega),ξe,ζl (by omega),ζx,if_pos h1]
 ·rw[ξe,ζm (by omega),lt]
  by_cases h2:j < off+cs.length
  ·rw[if_pos (by omega),ζl (by omega)]
  ·rw[if_neg (by omega),ζm (by omega),ζy]
   rw[show off+cs.length+(j - off - cs.length)=j by omega]
theorem splice_length(r:List V)(off:Nat)(cs:List V)(h:off+cs.length≤r.length):(L4 r off cs).length=r.length:=by
 simp[L4];omega
def Evs(G:Nat→Option (List V))(st:St)(x:Operand)(c:V):Prop:=∀(γ:Gh) (a:Act) (w:World),Sim G γ st a.tmps w→Rep γ w st.b st.u c (a.eval x)
theorem effO_store'{P:Program}{G:Nat→Option (List V)}{o:Oper}{st:St}{t:TypeId}{x y:Operand}{b i off:Nat}{c:V}{k k':Blk}(ho:o.op=.store t x y)(hd:o.dst=none)
    (hx:Evs G st x (.ptr b i off)) (hy:Evs G st y c) (hk:st.b b=some k) (hs:R6 P t k i off c=some k'):N0 P G o st (st.setB b k'):=
  effO_skip fun γ a w hsim=>by
    unfold R6 at hs
    split at hs
    · rename_i ti cs r hti hcs hrow
      split at hs<;>simp at hs
      rename_i hb
      subst hs
      obtain⟨hsz,hoff,hex⟩:=hb
      obtain⟨B,o',hv,hl⟩:=(hx γ a w hsim).ptr_inv hk
      have hM:=(hx γ a w hsim).ptr_small hk
      obtain⟨hcr,hcell⟩:=boxV_spec hcs (hy γ a w hsim)
      rcases hsim.b b k hk with⟨v1,_⟩|hm|⟨_,B2,o2,cs2,e2,h1,h2,h3,h4,h5,h6,h7,h8⟩
      · rw[hl] at v1;simp at v1
      · exact(hm.small hM).elim
      rw[hl] at h1;simp only[ζa,ζP] at h1
      obtain⟨rfl,rfl⟩:=h1
      have hi:i < k.rows.length:=(ζe.1 hrow).1
      have hrl:=h4 r (ζi hrow)
      have hin:(i+1) * k.size≤k.rows.length * k.size:=ξl _ hi
      rw[ξp] at hin
      have hvl:(a.eval y).cells.toList.length=cs.length:=by simpa using hcr.1
      have hone:∀v,v∈(a.eval y).cells.toList→v.oneCell'=true:=fun v hv=>by
        obtain⟨j,hj,rfl⟩:=List.getElem_of_mem hv
        have hjc:j < cs.length:=by rw[←hvl];exact hj
        have:=hcr.2 j cs[j] _ (ζd hjc) (by rw[ζg (by simpa using hj)])
        exact this.isCell_one (hcell cs[j] (List.getElem_mem hjc)).1
      have hrun:=X7 (P:=P) (B:=B) (o:=o'+(i * k.size+off)) (e:=e2) (a.eval y).cells.toList 0 w cs2 h3 hone (by rw[hvl];omega)
      obtain⟨r1,r2⟩:=F6 (a.eval y).cells.toList (o'+(i * k.size+off)+0) cs2 (by rw[hvl];omega)
      have key:=hsim.storeBlk (cs':=K6 cs2 (o'+(i * k.size+off)+0) (a.eval y).cells.toList) (rows':=k.rows.set i (L4 r off cs)) hk hM hl h2 h3 r1 (h7 hex)
        (fun q hq=>by
          rcases ξc hq with hq|rfl
          · exact h4 q hq
          · rw[splice_length r off cs (by omega),hrl])
        (by simp) h5 (fun idx c' hc'=>by
          rcases ξq k.size with hz|hpos
          · exfalso
            have:((k.rows.set i (L4 r off cs)).flatten)=[]:=by
              rw[List.flatten_eq_nil_iff]
              intro q hq
              have:q.length=k.size:=by
                rcases ξc hq with hq|rfl
                · exact h4 q hq
                · rw[splice_length r off cs (by omega),hrl]
              exact ζS.1 (by omega)
            rw[this] at hc';simp at hc'
          · have e:idx=(idx / k.size) * k.size+idx % k.size:=by rw[ξw];exact(Nat.div_add_mod idx k.size).symm
            have hm:=Nat.mod_lt idx hpos
            have hall:∀q,q∈k.rows.set i (L4 r off cs)→q.length=k.size:=fun q hq=>by
              rcases ξc hq with hq|rfl
              · exact h4 q hq
              · rw[splice_length r off cs (by omega),hrl]
            have hget:=J7 _ hall (idx / k.size) (idx % k.size) hm
            rw[←e,hc'] at hget
            rw[r2,hvl]
            by_cases hq:idx / k.size=i
            · rw[hq,ζj hi] at hget
              simp only[ξa] at hget
              rw[splice_get r off cs (by omega)] at hget
              rw[hq] at e
              by_cases hin2:off≤idx % k.size∧idx % k.size < off+cs.length
              · rw[if_pos hin2] at hget
                rw[if_pos (by omega)]
                have hj:idx % k.size - off < (a.eval y).cells.toList.length:=by rw[hvl];omega
                refine⟨(a.eval y).cells.toList[idx % k.size - off],?_,?_,hone _ (List.getElem_mem hj),.of_not_own (hcell c' (ζi hget.symm)).2⟩
                · rw[show o'+idx - (o'+(i * k.size+off)+0)=idx % k.size - off by omega]
                  exact ζd hj
                · exact hcr.2 (idx % k.size - off) c' _ hget.symm (by rw[ζg (by simpa using hj)];simp)
              · rw[if_neg hin2] at hget
                rw[if_neg (by omega)]
                exact h6 idx c' (by rw[e,J7 k.rows h4 i (idx % k.size) hm,hrow];exact hget.symm)
            · rw[ζk (fun x=>hq x.symm)] at hget
              have hno:¬(o'+(i * k.size+off)+0≤o'+idx∧o'+idx < o'+(i * k.size+off)+0+cs.length):=by
                intro hc
                apply hq
                have a1:i * k.size≤idx:=by omega
                have a2:idx < (i+1) * k.size:=by rw[ξp];omega
                exact Nat.div_eq_of_lt_le a1 a2
              rw[if_neg hno]
              exact h6 idx c' (by rw[e,J7 k.rows h4 _ (idx % k.size) hm];exact hget.symm))
      refine⟨_,γ,?_,key.2.1,key.2.2.pin,by rw[hd];exact key.1⟩
      have hsize:¬((a.eval y).cells.size≠ti.size):=by rw[hcr.1,hsz];simp
      simp only[execOp,ho,Instr.storeAt,hv,Instr.sureAddr,storeVar,sizeOf,typeInfo,hti,ζT,run_program,ζU,ζQ,Sem.run_ite,hsize,if_false,hrun]
    · simp at hs
theorem effO_store{P:Program}{G:Nat→Option (List V)}{o:Oper}{st:St}{t:TypeId}{x y:Operand}{b i off:Nat}{c:V}{k k':Blk}(ho:o.op=.store t x y)(hd:o.dst=none)
  (hx:st.ev G x=some (.ptr b i off)) (hy:st.ev G y=some c) (hk:st.b b=some k) (hs:R6 P t k i off c=some k'):N0 P G o st (st.setB b k'):=
 effO_store' ho hd (fun _ _ _ h=>h.ev hx) (fun _ _ _ h=>h.ev hy) hk hs
def RF(ro:Option Nat):Fence:={ Fence.wide with round:=ro }
theorem RF.room(ro:Option Nat)(n:Nat):(RF ro).room n:=fun _ h=>by simp[RF,Fence.wide] at h
theorem RF.fenced(ro:Option Nat)(P:Program)(m:Machine):m.fenced P (RF ro):=fenced_wide P m
abbrev CW(ro:Option Nat)(P:Program)(c:Code)(Q:Exit→Act→World→Prop)(a:Act)(w:World):Prop:=c.wpIn (RF ro) 0 P Q a w
theorem calls_in{ro:Option Nat}{P:Program}{f:FuncId}{args:Array Value}{w:World}{R:Ending→World→Prop}(h:Calls P f args w R):CallsIn (RF ro) 0 P f args w R:=(callsIn_wide (n:=0)).2 h
theorem rows_in{ro:Option Nat}{P:Program}{row:String}{args:Array Value}{w:World}{R:Value→World→Prop}(h:Rows P row args w R):RowsIn (RF ro) 0 P row args w R:=
 fun c cs _=>let ⟨v,w',r,s⟩:=h c cs;⟨v,w',r,stepsIn_wide.2 s⟩
theorem upon_in{ro:Option Nat}{P:Program}{o:Oper}{a:Act}{next:Act→World→Prop}{Q:Exit→Act→World→Prop}:∀{r:Result Next},o.upon P a next Q r→o.uponIn (RF ro) 0 P a next Q r
 | .ok (.value _) _,h=>h
 | .ok .skip _,h=>h
 | .ok (.defer _) _,h=>h
 | .ok (.enter _ _) _,h=>⟨fun h=>by simp[RF,Fence.wide] at h,calls_in h⟩
 | .ok (.row _ _) _,h=>⟨fun h=>by simp[RF,Fence.wide] at h,rows_in h⟩
 | .halt (.panic _) _,h=>h
theorem op_in{ro:Option Nat}{P:Program}{o:Oper}{a:Act}{w:World}{next:Act→World→Prop}{Q:Exit→Act→World→Prop}
  (h0:o.wp P a w (fun a' _=>a'.defers=a.defers) (fun _ _ _=>False)) (h:o.wp P a w next Q):o.wpIn (RF ro) 0 P a w next Q:=by
 refine⟨fun _ _=>trivial,?_⟩
 have hnd:∀c,o.op≠.defer c:=by
  intro c hc
  unfold Oper.wp at h0
  have e : execOp a.eval o = (do let d ← resolve a.eval c o.type; pure (Next.defer d)) := by
   unfold execOp;rw[hc]
  rw[e,ζT] at h0
  cases hr:(resolve a.eval c o.type).run P w with
  | ok d w'=>
   rw[hr,ζQ] at h0
   have h1:({ a with defers:=d :: a.defers }.put o.dst undef).defers=a.defers:=h0
   rw[U1] at h1
   simp at h1
  | halt x w'=>
   rw[hr] at h0
   cases x<;>first|exact h0|exact h0.elim
 rw[Oper.semAt_eq _ _ _ hnd]
 exact upon_in h
theorem op_inN{ro:Option Nat}{P:Program}{o:Oper}{a:Act}{w:World}{next:Act→World→Prop}{Q:Exit→Act→World→Prop}
  (hnd:∀c,o.op≠.defer c) (h:o.wp P a w next Q):o.wpIn (RF ro) 0 P a w next Q:=
 ⟨fun _ _=>trivial,by rw[Oper.semAt_eq _ _ _ hnd];exact upon_in h⟩
section
variable {ro:Option Nat} {P:Program} {Q:Exit→Act→World→Prop} {a:Act} {w:World}
theorem G4{b:Frame}{k:List Item}{cs:List Frame}{c:Code}:step P (lone (b.atR a (.code (.scope c) :: k)) cs w)=.next (lone (b.atR a (.code c :: .inScope c :: k)) cs w):=
 step_lone_go (by simp[stepG,stepG.exec,Frame.atR])
theorem stepR_inScope{b:Frame}{k:List Item}{cs:List Frame}{c:Code}:step P (lone (b.atR a (.inScope c :: k)) cs w)=.next (lone (b.atR a k) cs w):=
 step_lone_go (by simp[stepG,stepG.exec,Frame.atR])
theorem cw_scope_straight{c:Code}(h:CW ro P c (Exit.noGoto Q) a w):CW ro P (.scope c) Q a w:=by
 intro b k cs hro hb hr
 have h0:(lone (b.atR a (.code (.scope c) :: k)) cs w).fenced P (RF ro):=RF.fenced _ _ _
 obtain⟨e,a₁,w₁,hq,harr⟩:=h b (.inScope c :: k) cs hro hb hr
 cases e with
 | normal=>exact⟨.normal,a₁,w₁,hq,.head h0 G4 (StepsIn.trans harr (.one (RF.fenced _ _ _) stepR_inScope))⟩
 | exit id=>
  have hx:exitTo id (.inScope c :: k)=exitTo id k:=by simp[exitTo]
  exact⟨.exit id,a₁,w₁,hq,fun k' hk=>.head h0 G4 (harr.1 k' (by rw[hx];exact hk)),
   fun hr' hk=>let ⟨k₁,h1,h2⟩:=harr.2 hr' (by rw[hx];exact hk);⟨k₁,h1,.head h0 G4 h2⟩⟩
 | goto l=>exact hq.elim
 | ret=>exact⟨_,a₁,w₁,hq,.of_steps (.one h0 G4) harr⟩
 | panic ch=>exact⟨_,a₁,w₁,hq,.of_steps (.one h0 G4) harr⟩
 | outgrown=>exact⟨_,a₁,w₁,hq,.of_steps (.one h0 G4) harr⟩
def CWin(ro:Option Nat)(P:Program)(c:Code)(Q:Exit→Act→World→Prop)(a:Act)(w:World):Prop:=
 ∀(b:Frame) (k:List Item) (cs:List Frame),b.roundOf=ro→∃e a' w',Q e a' w'∧ArrivesIn (Machine.fenced P (RF ro)) P (lone (b.atR a (.inLoop c :: k)) cs w) b k cs e a' w'
theorem cw_loop_start{c:Code}{m:Frame→List Item→List Frame→Machine}
  (hm:∀b k cs,StepsIn (Machine.fenced P (RF ro)) P (m b k cs) (lone (b.atR a (.code c :: .inLoop c :: k)) cs w)) (h:CW ro P c (Exit.then (CWin ro P c Q) Q) a w) :
  ∀(b:Frame) (k:List Item) (cs:List Frame),b.roundOf=ro→∃e a' w',Q e a' w'∧ArrivesIn (Machine.fenced P (RF ro)) P (m b k cs) b k cs e a' w':=by
 intro b k cs hro
 obtain⟨e,a₁,w₁,hq,harr⟩:=h b (.inLoop c :: k) cs hro trivial (RF.room _ _)
 cases e with
 | normal=>
  obtain⟨e₂,a₂,w₂,hq₂,harr₂⟩:=hq b k cs hro
  exact⟨e₂,a₂,w₂,hq₂,.of_steps (StepsIn.trans (hm b k cs) harr) harr₂⟩
 | exit id=>exact⟨_,a₁,w₁,hq,.of_steps (hm b k cs) (.pass (x:=.inLoop c) rfl (fun _ _=>.inl (by simp)) harr)⟩
 | goto l=>exact⟨_,a₁,w₁,hq,.of_steps (hm b k cs) (.pass (x:=.inLoop c) rfl (fun _ _=>.inl (by simp)) harr)⟩
 | ret=>exact⟨_,a₁,w₁,hq,.of_steps (hm b k cs) (.pass (x:=.inLoop c) rfl (fun _ _=>.inl (by simp)) harr)⟩
 | panic ch=>exact⟨_,a₁,w₁,hq,.of_steps (hm b k cs) (.pass (x:=.inLoop c) rfl (fun _ _=>.inl (by simp)) harr)⟩
 | outgrown=>exact⟨_,a₁,w₁,hq,.of_steps (hm b k cs) (.pass (x:=.inLoop c) rfl (fun _ _=>.inl (by simp)) harr)⟩
theorem cw_loop_once{c:Code}(h:CW ro P c (Exit.then (CWin ro P c Q) Q) a w):CW ro P (.loop c) Q a w:=fun b k cs hro _ _=>
 cw_loop_start (m:=fun b k cs=>lone (b.atR a (.code (.loop c) :: k)) cs w) (fun _ _ _=>.one (RF.fenced _ _ _) stepR_loop) h b k cs hro
theorem cwIn_once{c:Code}(h:CW ro P c (Exit.then (CWin ro P c Q) Q) a w):CWin ro P c Q a w:=
 cw_loop_start (m:=fun b k cs=>lone (b.atR a (.inLoop c :: k)) cs w) (fun _ _ _=>.one (RF.fenced _ _ _) stepR_inLoop) h
theorem cwIn_mono{Q':Exit→Act→World→Prop}{c:Code}(h:CWin ro P c Q a w)(hq:∀e a w,Q e a w→Q' e a w):CWin ro P c Q' a w:=fun b k cs hro=>by
 obtain⟨e,a',w',h1,h2⟩:=h b k cs hro
 exact⟨e,a',w',hq _ _ _ h1,h2⟩
theorem cw_loopN{c:Code}(I:Nat→Act→World→Prop)
  (round:∀n a w,I n a w→CW ro P c (Exit.then (fun a' w'=>∃m,m < n∧I m a' w') Q) a w):∀(n:Nat) (a:Act) (w:World),I n a w→CW ro P (.loop c) Q a w:=by
 intro n
 induction n using Nat.strongRecOn with
 | _ n ih=>
  intro a w hI
  have key:∀n a w,I n a w→CWin ro P c Q a w:=by
   intro n
   induction n using Nat.strongRecOn with
   | _ n ih=>exact fun a w hI=>cwIn_once (wpIn_mono (round n a w hI) fun e a' w' hq=>by
     cases e with
     | normal=>obtain⟨m,hm,h⟩:=hq;exact ih m hm a' w' h
     | _=>exact hq)
  exact cw_loop_once (wpIn_mono (round n a w hI) fun e a' w' hq=>by
   cases e with
   | normal=>obtain⟨m,hm,h⟩:=hq;exact key m a' w' h
   | _=>exact hq)
theorem U9{F:Fence}{n:Nat}{ops:Array Oper}{Q Q':Exit→Act→World→Prop}(hq:∀e a w,Q e a w→Q' e a w):∀(l:List Nat) (a:Act) (w:World),wpOpsIn F n P ops Q l a w→wpOpsIn F n P ops Q' l a w
 | [],a,w,h=>hq _ _ _ h
 | i :: rest,a,w,h=>by
  simp only[wpOpsIn] at h ⊢
  split
  ·rename_i hi;rw[hi] at h;exact U9 hq rest a w h
  ·rename_i o hi
   rw[hi] at h
   simp only at h ⊢
   split
   ·rename_i hw
    rw[if_pos hw] at h
    refine⟨h.1,?_⟩
    have h:=h.2
    unfold Oper.uponIn at h ⊢
    split at h
    ·exact U9 hq rest _ _ h
    ·exact U9 hq rest _ _ h
    ·exact U9 hq rest _ _ h
    ·refine⟨h.1,CallsIn.mono h.2 fun e w' hr=>?_⟩
     cases e with
     | returned v=>exact U9 hq rest _ _ hr
     | panicked ch=>exact hq _ _ _ hr
     | outgrown=>obtain⟨a0,w0,h2⟩:=hr;exact⟨a0,w0,hq _ _ _ h2⟩
    ·exact⟨h.1,RowsIn.mono h.2 fun v w' hr=>U9 hq rest _ _ hr⟩
    ·refine⟨h.1,RoundIn.mono h.2 fun e w' hr=>?_⟩
     cases e with
     | returned v=>exact U9 hq rest _ _ hr
     | panicked ch=>exact hq _ _ _ hr
     | outgrown=>obtain⟨a0,w0,h2⟩:=hr;exact⟨a0,w0,hq _ _ _ h2⟩
    ·exact hq _ _ _ h
    ·exact h.elim
   ·rename_i hw;rw[if_neg hw] at h;exact⟨h.1,U9 hq rest _ _ h.2⟩
end
def markD(D:Nat):Deferred:={ target:=.collected D,args:=#[] }
def C0(mk:Bool)(w:World)(γ':Gh)(w':World)(ds ds':List Deferred):Prop:=
 ∃Ds:List Nat,(mk=false→Ds=[])∧ds'=Ds.map markD++ds∧Ds.Nodup∧∀D,D∈Ds→w.heap.size≤D∧w'.heap[D]?=some (.deferred (some []))∧γ'.own D=none
theorem C0.of{mk:Bool}{w w':World}{γ':Gh}{ds ds':List Deferred}(h:ds'=ds):C0 mk w γ' w' ds ds':=⟨[],fun _=>rfl,by simpa using h,by simp,fun D hD=>by simp at hD⟩
theorem C0.start{mk:Bool}{w w1 w':World}{γ':Gh}{ds ds':List Deferred}(h:C0 mk w1 γ' w' ds ds')(hw:w.heap.size≤w1.heap.size):C0 mk w γ' w' ds ds':=by
 obtain⟨Ds,h0,h1,h2,h3⟩:=h
 exact⟨Ds,h0,h1,h2,fun D hD=>⟨Nat.le_trans hw (h3 D hD).1,(h3 D hD).2⟩⟩
theorem C0.trans{mk:Bool}{w w1 w2:World}{γ1 γ2:Gh}{ds ds1 ds2:List Deferred}(h:C0 mk w γ1 w1 ds ds1)(g:Grow γ1 w1 γ2 w2)(k:C0 mk w1 γ2 w2 ds1 ds2)(hw:w.heap.size≤w1.heap.size):C0 mk w γ2 w2 ds ds2:=by
 obtain⟨Ds,h0,h1,h2,h3⟩:=h
 obtain⟨Es,k0,k1,k2,k3⟩:=k
 have lt:∀D,D∈Ds→D < w1.heap.size:=fun D hD=>(ζf.1 (h3 D hD).2.1).1
 refine⟨Es++Ds,fun h=>by rw[h0 h,k0 h];rfl,by rw[k1,h1];simp,List.nodup_append.2 ⟨k2,h2,fun x hx y hy e=>?_⟩,fun D hD=>?_⟩
 ·subst e
  have:=lt x hy
  have:=(k3 x hx).1
  omega
 ·rcases ζr.1 hD with hD|hD
  ·exact⟨Nat.le_trans hw (k3 D hD).1,(k3 D hD).2⟩
  ·obtain⟨a1,a2,a3⟩:=h3 D hD
   obtain⟨b1,b2,_⟩:=g.free D (lt D hD) a3
   exact⟨a1,b1.trans a2,b2⟩
def O3(G:Nat→Option (List V))(fx:Fx)(γ:Gh)(st:St)(w:World)(Q:Exit→St→Prop)(e:Exit)(a':Act)(w':World):Prop:=
 ∃st' γ',Sim G γ' st' a'.tmps w'∧(Grow γ w γ' w'∧Pin γ st.b st.u γ' st'.b st'.u)∧C0 fx.mx w γ' w' fx.ds a'.defers∧Q e st'
def FxOk(fx:Fx)(γ:Gh)(ds:List Deferred)(w:World):Prop:=
 ds=fx.ds∧fx.mx=true∧∀l,fx.ro=some l→(∃r,w.heap[l]?=some (.loop r))∧γ.own l=none
theorem FxOk.grow{fx:Fx}{γ γ':Gh}{ds ds':List Deferred}{w w':World}(h:FxOk fx γ ds w)(g:Grow γ w γ' w')(hd:ds'=fx.ds):FxOk fx γ' ds' w':=
 ⟨hd,h.2.1,fun l hl=>by
  obtain⟨⟨r,h1⟩,h2⟩:=h.2.2 l hl
  obtain⟨g1,g2,_⟩:=g.free l (ζf.1 h1).1 h2
  exact⟨⟨r,g1.trans h1⟩,g2⟩⟩
theorem FxOk.step{fx:Fx}{γ γ':Gh}{ds ds':List Deferred}{w w':World}(h:FxOk fx γ ds w)(g:Grow γ w γ' w'):FxOk ⟨fx.ro,ds',fx.mx⟩ γ' ds' w':=
 ⟨rfl,(h.grow g h.1).2⟩
theorem FxOk.free{ds:List Deferred}(γ:Gh)(w:World):FxOk ⟨none,ds,true⟩ γ ds w:=⟨rfl,rfl,fun _ h=>by simp at h⟩
def TV(P:Program)(G:Nat→Option (List V))(c:Code)(st:St)(Q:Exit→St→Prop):Prop:=
 ∀(fx:Fx) (γ:Gh) (a:Act) (w:World),Sim G γ st a.tmps w→FxOk fx γ a.defers w→CW fx.ro P c (O3 G fx γ st w Q) a w
def thenV(next:St→Prop)(Q:Exit→St→Prop):Exit→St→Prop
 | .normal,st=>next st
 | e,st=>Q e st
def S0(id:Nat)(Q:Exit→St→Prop):Exit→St→Prop
 | .exit id',st=>if id'=id then Q .normal st else Q (.exit id') st
 | e,st=>Q e st
section
variable {P:Program} {G:Nat→Option (List V)} {st:St} {Q:Exit→St→Prop}
theorem O3.mono{fx:Fx}{γ:Gh}{w:World}{Q Q':Exit→St→Prop}{e:Exit}{a:Act}{w':World}(h:O3 G fx γ st w Q e a w')(hq:∀e st,Q e st→Q' e st):O3 G fx γ st w Q' e a w':=
 let ⟨st',γ',h1,h2,h3,h4⟩:=h;⟨st',γ',h1,h2,h3,hq _ _ h4⟩
theorem O3.grow{fx:Fx}{γ γ1:Gh}{st1:St}{w w1:World}{e:Exit}{a:Act}{w':World}(g:Grow γ w γ1 w1∧Pin γ st.b st.u γ1 st1.b st1.u)(h:O3 G fx γ1 st1 w1 Q e a w'):O3 G fx γ st w Q e a w':=
 let ⟨st',γ',h1,h2,h3,h4⟩:=h;⟨st',γ',h1,⟨g.1.trans h2.1,g.2.trans h2.2⟩,h3.start g.1.size,h4⟩
theorem O3.grow2{fx:Fx}{ds1:List Deferred}{γ γ1:Gh}{st1:St}{w w1:World}{e:Exit}{a:Act}{w':World}(g:Grow γ w γ1 w1∧Pin γ st.b st.u γ1 st1.b st1.u)(hm:C0 fx.mx w γ1 w1 fx.ds ds1)(h:O3 G ⟨fx.ro,ds1,fx.mx⟩ γ1 st1 w1 Q e a w'):O3 G fx γ st w Q e a w':=
 let ⟨st',γ',h1,h2,h3,h4⟩:=h;⟨st',γ',h1,⟨g.1.trans h2.1,g.2.trans h2.2⟩,hm.trans h2.1 h3 g.1.size,h4⟩
theorem TV.mono{c:Code}{Q':Exit→St→Prop}(h:TV P G c st Q)(hq:∀e st,Q e st→Q' e st):TV P G c st Q':=
 fun fx γ a w hs hd=>wpIn_mono (h fx γ a w hs hd) fun _ _ _ hl=>hl.mono hq
theorem TV.skip(h:Q .normal st):TV P G .skip st Q:=fun _ γ _ w hs hd=>wpIn_skip ⟨st,γ,hs,⟨.refl γ w,.refl hs.u⟩,.of hd.1,h⟩
theorem TV.seq{x y:Code}(h:TV P G x st (thenV (fun st=>TV P G y st Q) Q)):TV P G (.seq x y) st Q:=fun fx γ a w hs hd=>by
 refine wpIn_seq (wpIn_mono (h fx γ a w hs hd) fun e a' w' hl=>?_)
 obtain⟨st',γ',h1,h2,h3,h4⟩:=hl
 cases e with
 | normal=>exact wpIn_mono (h4 ⟨fx.ro,a'.defers,fx.mx⟩ γ' a' w' h1 (hd.step h2.1)) fun _ _ _ hl=>hl.grow2 h2 h3
 | _=>exact⟨st',γ',h1,h2,h3,h4⟩
theorem TV.cond{c:Operand}{x y:Code}{t:Bool}(hc:st.ev G c=some (.bool t))(h:TV P G (if t then x else y) st Q):TV P G (.cond c x y) st Q:=fun fx γ a w hs hd=>
 wpIn_cond ((hs.ev hc).bool_inv) (h fx γ a w hs hd)
theorem TV.block{id:Nat}{c:Code}(h:TV P G c st (S0 id Q)):TV P G (.block id c) st Q:=fun fx γ a w hs hd=>by
 refine wpIn_block (wpIn_mono (h fx γ a w hs hd) fun e a' w' hl=>?_)
 obtain⟨st',γ',h1,h2,h3,h4⟩:=hl
 cases e with
 | exit id'=>
  simp only[S0] at h4
  simp only[Exit.inBlock]
  split
  ·rename_i he;rw[if_pos he] at h4;exact⟨st',γ',h1,h2,h3,h4⟩
  ·rename_i he;rw[if_neg he] at h4;exact⟨st',γ',h1,h2,h3,h4⟩
 | _=>exact⟨st',γ',h1,h2,h3,h4⟩
theorem TV.scope{c:Code}(h:TV P G c st Q)(hq:∀l st,¬Q (.goto l) st):TV P G (.scope c) st Q:=fun fx γ a w hs hd=>by
 refine cw_scope_straight (wpIn_mono (h fx γ a w hs hd) fun e a' w' hl=>?_)
 cases e with
 | goto l=>obtain⟨st',_,_,_,_,h4⟩:=hl;exact absurd h4 (hq l st')
 | _=>exact hl
end
theorem TV.loop{P:Program}{G:Nat→Option (List V)}{Q:Exit→St→Prop}{c:Code}(I:Nat→St→Prop)
  (round:∀n st,I n st→TV P G c st (thenV (fun st'=>∃m,m < n∧I m st') Q)) {n:Nat} {st:St} (h:I n st):TV P G (.loop c) st Q:=fun fx γ a w hs hd=>by
 refine cw_loopN (fun n a' w'=>∃st' γ',I n st'∧Sim G γ' st' a'.tmps w'∧(Grow γ w γ' w'∧Pin γ st.b st.u γ' st'.b st'.u)∧C0 fx.mx w γ' w' fx.ds a'.defers) (fun n a' w' hI=>?_) n a w ⟨st,γ,h,hs,⟨.refl γ w,.refl hs.u⟩,.of hd.1⟩
 obtain⟨st',γ',h1,h2,h3,h4⟩:=hI
 refine wpIn_mono (round n st' h1 ⟨fx.ro,a'.defers,fx.mx⟩ γ' a' w' h2 (hd.step h3.1)) fun e a2 w2 hl=>?_
 obtain⟨st2,γ2,k1,k2,k3,k4⟩:=hl
 cases e with
 | normal=>obtain⟨m,hm,hI⟩:=k4;exact⟨m,hm,st2,γ2,hI,k1,⟨h3.1.trans k2.1,h3.2.trans k2.2⟩,h4.trans k2.1 k3 h3.1.size⟩
 | _=>exact⟨st2,γ2,k1,⟨h3.1.trans k2.1,h3.2.trans k2.2⟩,h4.trans k2.1 k3 h3.1.size,k4⟩
def X0(ops:Array Oper)(st:St)(o:Oper):Option Bool:=
 match o.guard with
 | none=>some true
 | some (j,want)=>match (ops[j]?).bind (·.dst) with
  | some d=>if d < st.n then (match st.t d with|.bool b=>some (b==want)|.tup []=>some false|_=>none) else none
  | none=>none
theorem K9{G:Nat→Option (List V)}{γ:Gh}{st:St}{a:Act}{w:World}(hs:Sim G γ st a.tmps w){ops:Array Oper}{o:Oper}{r:Bool}(h:X0 ops st o=some r) :
  Region.wanted o (yielded ops a.tmps)=r:=by
 unfold X0 at h
 unfold Region.wanted
 split at h
 ·rename_i hg;rw[hg];simpa using h
 ·rename_i j want hg
  rw[hg]
  split at h
  ·rename_i d hj
   split at h
   ·rename_i hd
    split at h
    ·rename_i b hb
     simp only[ζa] at h;subst h
     have:=hs.t d
     rw[hb] at this
     have hv:=this.bool_inv
     have hsz:d < a.tmps.size:=by rw[hs.n];exact hd
     have hget:a.tmps[d]?=some (.bool b):=by
      rw[ζg hsz]
      simp only[Array.getD,hsz,dif_pos] at hv
      simpa using hv
     simp only[yielded,hj,ξa,hget]
     cases b<;>cases want<;>rfl
    ·rename_i hb
     simp only[ζa] at h;subst h
     have:=hs.t d
     rw[hb] at this
     obtain⟨vs,hv,hl,_⟩:=this.tup_inv
     have hv0:vs=[]:=ζS.1 hl
     subst hv0
     have hsz:d < a.tmps.size:=by rw[hs.n];exact hd
     have hget:a.tmps[d]?=some (.tuple #[]):=by
      rw[ζg hsz]
      simp only[Array.getD,hsz,dif_pos] at hv
      simpa using hv
     simp only[yielded,hj,ξa,hget]
     cases want<;>rfl
    ·simp at h
   ·simp at h
  ·simp at h
def StepV(P:Program)(G:Nat→Option (List V))(ops:Array Oper)(i:Nat)(st st':St):Prop:=
 match ops[i]? with
 | none=>st'=st
 | some o=>(X0 ops st o=some true∧N0 P G o st st')∨(X0 ops st o=some false∧H2 st.n o.dst=true∧st'=st.put o.dst (.tup []))
def H3(P:Program)(G:Nat→Option (List V))(ops:Array Oper)(l:List Nat)(st:St)(Q:Exit→St→Prop):Prop:=
 ∀(fx:Fx) (γ:Gh) (a:Act) (w:World),Sim G γ st a.tmps w→FxOk fx γ a.defers w→wpOpsIn (RF fx.ro) 0 P ops (O3 G fx γ st w Q) l a w
section
variable {P:Program} {G:Nat→Option (List V)} {ops:Array Oper} {st:St} {Q:Exit→St→Prop}
theorem H3.nil(h:Q .normal st):H3 P G ops [] st Q:=fun _ γ _ w hs hd=>⟨st,γ,hs,⟨.refl γ w,.refl hs.u⟩,.of hd.1,h⟩
theorem H3.cons{i:Nat}{rest:List Nat}{st':St}(h:StepV P G ops i st st')(hr:H3 P G ops rest st' Q):H3 P G ops (i :: rest) st Q:=fun fx γ a w hs hd=>by
 unfold StepV at h
 simp only[wpOpsIn]
 split at h
 ·rename_i hi;subst h;rw[hi];exact hr fx γ a w hs hd
 ·rename_i o hi
  rw[hi]
  simp only
  rcases h with⟨hg,he⟩|⟨hg,hdst,rfl⟩
  ·rw[if_pos (K9 hs hg)]
   refine op_in (he ⟨none,a.defers,false⟩ γ a w hs rfl _ _ fun a' w' γ' h1 h2 hp h3=>h3) (he fx γ a w hs hd.1 _ _ fun a' w' γ' h1 h2 hp h3=>?_)
   exact U9 (fun e a2 w2 hl=>hl.grow ⟨h2,hp⟩) rest a' w' (hr fx γ' a' w' h1 (hd.grow h2 h3))
  ·rw[if_neg (by rw[K9 hs hg];simp)]
   exact⟨fun _ _=>trivial,U9 (fun e a2 w2 hl=>hl.grow (st:=st) ⟨.refl γ w,by cases o.dst<;>exact Pin.refl hs.u⟩) rest _ w (hr fx γ _ w (hs.put hdst (v:=undef) (.tup [] [] rfl (fun i c v hc=>by simp at hc))) (by rw[U1];exact hd))⟩
def StepP(P:Program)(G:Nat→Option (List V))(ops:Array Oper)(i:Nat)(s:St)(ex:Exit)(s':St):Prop:=∃o,ops[i]?=some o∧(∀c,o.op≠.defer c)∧X0 ops s o=some true∧EffP P G o s ex s'
theorem H3.stop{i:Nat}{rest:List Nat}{ex:Exit}{st':St}(h:StepP P G ops i st ex st')(hq:Q ex st'):H3 P G ops (i :: rest) st Q:=fun fx γ a w hs hd=>by
 obtain⟨o,hi,hnd,hg,he⟩:=h
 simp only[wpOpsIn]
 rw[hi]
 simp only
 rw[if_pos (K9 hs hg)]
 exact op_inN hnd (he fx γ a w hs hd.1 _ _ fun a' w' γ' h1 h2 hp h3=>⟨st',γ',h1,⟨h2,hp⟩,.of h3,hq⟩)
theorem TV.region{id:Nat}(h:H3 P G ops (List.range ops.size) st Q):TV P G (.region id ops false) st Q:=fun fx γ a w hs hd=>wpIn_region (h fx γ a w hs hd)
end
def stepE(P:Program)(G:Nat→Option (List V))(o:Oper)(st:St):Option St:=
 match o.op,o.dst with
 | .alloc e,some d=>if d < st.n∧st.u d=false then (zeroV P e).map fun cs=>(st.setB d ⟨cs.length,true,[cs]⟩).setT d (.ptr d 0 0) else none
 | .box _ x,some d=>if d < st.n∧st.u d=false then ((st.ev G x).bind boxV).map fun cs=>(st.setB d ⟨cs.length,true,[cs]⟩).setT d (.ptr d 0 0) else none
 | .store t x y,none=>match st.ev G x,st.ev G y with
  | some (.ptr b i off),some c=>match st.b b with
   | some k=>(R6 P t k i off c).map (st.setB b)
   | none=>none
  | _,_=>none
 | .buildSlice t n ps,some d=>if d < st.n∧st.u d=false then ((evParts (st.ev G) ps.toList).bind (S5 P t n)).map fun k=>(st.setB d k).setT d (.ref d 0 n) else none
 | op,dst=>if H2 st.n dst then (B7 P (st.ev G) st.b op).map (st.put dst) else none
theorem stepE_spec{P:Program}{G:Nat→Option (List V)}{o:Oper}{st st':St}(h:stepE P G o st=some st'):N0 P G o st st':=by
 unfold stepE at h
 split at h
 ·rename_i e d ho hd
  split at h
  ·rename_i hc
   obtain⟨cs,hz,rfl⟩:=ζb.1 h
   exact effO_alloc ho hd hc.1 hc.2 hz
  ·simp at h
 ·rename_i e x d ho hd
  split at h
  ·rename_i hc
   obtain⟨cs,hz,rfl⟩:=ζb.1 h
   obtain⟨c,h1,h2⟩:=ζc.1 hz
   exact effO_box ho hd hc.1 hc.2 h1 h2
  ·simp at h
 ·rename_i t x y ho hd
  split at h
  ·rename_i b i off c hx hy
   split at h
   ·rename_i k hk
    obtain⟨k',hs,rfl⟩:=ζb.1 h
    exact effO_store ho hd hx hy hk hs
   ·simp at h
  ·simp at h
 ·rename_i t n ps d ho hd
  split at h
  ·rename_i hc
   obtain⟨k,hz,rfl⟩:=ζb.1 h
   obtain⟨parts,h1,h2⟩:=ζc.1 hz
   exact effO_buildSlice ho hd hc.1 hc.2 h1 h2
  ·simp at h
 ·rename_i op dst
  split at h
  ·rename_i hd
   obtain⟨c,hr,rfl⟩:=ζb.1 h
   exact effO_read hr hd
  ·simp at h
def stepG(P:Program)(G:Nat→Option (List V))(ops:Array Oper)(i:Nat)(st:St):Option St:=
 match ops[i]? with
 | none=>some st
 | some o=>match X0 ops st o with
  | some true=>stepE P G o st
  | some false=>if H2 st.n o.dst then some (st.put o.dst (.tup [])) else none
  | none=>none
theorem stepG_spec{P:Program}{G:Nat→Option (List V)}{ops:Array Oper}{i:Nat}{st st':St}(h:stepG P G ops i st=some st'):StepV P G ops i st st':=by
 unfold stepG at h
 unfold StepV
 split at h
 ·simp only[ζa] at h;exact h.symm
 ·rename_i o hi
  split at h
  ·rename_i hg;exact .inl ⟨hg,stepE_spec h⟩
  ·rename_i hg
   split at h<;>simp at h
   rename_i hd
   exact .inr ⟨hg,hd,h.symm⟩
  ·simp at h
def uTop:Nat→Bool:=fun b=>decide (1000000≤b)
theorem uPin_top{b:Nat}(h:R4 b=true):uTop b=true:=by unfold uTop;exact ξr (uPin_le h)
def CallG(P:Program)(G:Nat→Option (List V))(f:FuncId)(args:List V)(ins:Nat→Option Blk)(E:Value→Ending)(res:V)(outs:Nat→Option Blk):Prop:=
 ∀(γ:Gh) (w:World) (as:Array Value),S9 G γ w→(∀B x,γ.own B=some x→B < w.heap.size)→J8 γ w ins uTop args as→
  (∀b k,ins b=some k→uTop b=true∧L2 γ w ins uTop b k)→
  Calls P f as w fun e w'=>∃v γ',e=E v∧Grow γ w γ' w'∧Pin γ ins uTop γ' outs (fun _=>true)∧Rep γ' w' outs (fun _=>true) res v∧
   (∀b k,outs b=some k→L2 γ' w' outs (fun _=>true) b k)∧(∀B x,γ'.own B=some x→B < w'.heap.size)
def CallC(P:Program)(G:Nat→Option (List V))(f:FuncId)(args:List V)(ins:Nat→Option Blk)(res:V)(outs:Nat→Option Blk):Prop:=CallG P G f args ins .returned res outs
def thrown(v:Value):List PanicEntry:=[{ v:=v,recovered:=false }]
def noB:Nat→Option Blk:=fun _=>none
def PureC(P:Program)(G:Nat→Option (List V))(f:FuncId)(args:List V)(res:V):Prop:=CallC P G f args noB res noB
def entry(n:Nat)(args:List V)(ins:Nat→Option Blk):St:={ n,t:=fun i=>args.getD i .undef,b:=ins,u:=uTop }
def cellsAll(look:Nat→Option Blk)(c:V):Option (List V):=
 match c with
 | .ptr b 0 0=>(look b).map fun k=>k.rows.flatten
 | _=>none
theorem Sim.cellsAll{G:Nat→Option (List V)}{γ:Gh}{st:St}{tmps:Array Value}{w:World}(h:Sim G γ st tmps w){c:V}{cells:List V}(hc:cellsAll st.b c=some cells)
  {v:Value} (hr:Rep γ w st.b st.u c v):∃B o,v=.pointer (some ⟨B,o,none⟩)∧L9 γ w st.b st.u B o cells:=by
 unfold EV.cellsAll at hc
 split at hc
 ·rename_i b
  obtain⟨k,hk,rfl⟩:=ζb.1 hc
  obtain⟨B,o,rfl,hl⟩:=hr.ptr_inv hk
  refine⟨B,o+(0 * k.size+0),rfl,?_⟩
  rcases h.b b k hk with⟨v1,_⟩|hm|⟨_,B2,o2,cs2,e2,h1,h2,h3,h4,h5,h6,h7,h8⟩
  ·rw[hl] at v1;simp at v1
  ·exact(hm.small (hr.ptr_small hk)).elim
  rw[hl] at h1;simp only[ζa,ζP] at h1
  obtain⟨rfl,rfl⟩:=h1
  intro j c' hc'
  obtain⟨v,q1,q2,_⟩:=h6 j c' hc'
  refine⟨v,?_,q2⟩
  rw[h3.cellAt];simpa using q1
 ·simp at hc
def resV(P:Program)(st:St):ResultVar→Option V
 | .tmp t=>some (st.t t)
 | .cell a t=>match loadV P st.b t (st.t a) with
  | some c=>some c
  | none=>(cellsAll st.b (st.t a)).bind (O9 P t)
def F7(P:Program)(st:St)(rs:List ResultVar):Option V:=
 match rs.mapM (resV P st) with
 | some [c]=>some c
 | some cs=>some (.tup cs)
 | none=>none
def resRun(tmps:Array Value):ResultVar→Sem Value
 | .tmp t=>pure (tmps.getD t undef)
 | .cell a t => do loadVar t (← asAddr (tmps.getD a undef))
theorem results_eq(fn : Func)(tmps : Array Value) : results fn tmps = (do let vs ← fn.results.mapM (resRun tmps); pure (if h : vs.size = 1 then vs[0] else .tuple vs)) := by
 rfl
theorem run_resV{P:Program}{G:Nat→Option (List V)}{γ:Gh}{st:St}{tmps:Array Value}{w:World}(hs:Sim G γ st tmps w){r:ResultVar}{c:V}(h:resV P st r=some c) :
  ∃v,(resRun tmps r).run P w=.ok v w∧Rep γ w st.b st.u c v:=by
 cases r with
 | tmp t=>simp only[resV,ζa] at h;subst h;exact⟨_,rfl,hs.t t⟩
 | cell a t=>
  obtain⟨B,o,cells,hv,hc,h2⟩:∃B o cells,tmps.getD a undef=.pointer (some ⟨B,o,none⟩)∧L9 γ w st.b st.u B o cells∧O9 P t cells=some c:=by
   simp only[resV] at h
   split at h
   ·rename_i c' hl
    simp only[ζa] at h;subst h
    obtain⟨cells,h1,h2⟩:=ζc.1 hl
    obtain⟨B,o,hv,hc⟩:=hs.cellsV h1 (hs.t a)
    exact⟨B,o,cells,hv,hc,h2⟩
   ·obtain⟨cells,h1,h2⟩:=ζc.1 h
    obtain⟨B,o,hv,hc⟩:=hs.cellsAll h1 (hs.t a)
    exact⟨B,o,cells,hv,hc,h2⟩
  obtain⟨x,hx,hd⟩:=V1 (P:=P) h2 hc
  refine⟨x,?_,hd⟩
  show (do loadVar t (← asAddr (tmps.getD a undef)) : Sem Value).run P w = _
  rw[hv]
  simp only[asAddr,ζT,ζU,ζQ,hx]
theorem run_resList{P:Program}{G:Nat→Option (List V)}{γ:Gh}{st:St}{tmps:Array Value}{w:World}(hs:Sim G γ st tmps w):∀{rs:List ResultVar} {cs:List V},rs.mapM (resV P st)=some cs→
  ∃vs:List Value,(rs.mapM (resRun tmps)).run P w=.ok vs w∧J8 γ w st.b st.u cs vs.toArray
 | [],cs,h=>by simp at h;subst h;exact⟨[],rfl,rfl,fun i c v hc=>by simp at hc⟩
 | r :: rs,cs,h=>by
  simp only[List.mapM_cons,Option.bind_eq_bind,ζc,Option.pure_def,ζa] at h
  obtain⟨c,h1,cs',h2,rfl⟩:=h
  obtain⟨v,hv,hr⟩:=run_resV hs h1
  obtain⟨vs,hvs,hl,hp⟩:=run_resList hs h2
  refine⟨v :: vs,?_,?_,?_⟩
  ·rw[List.mapM_cons,ζT,hv,ζQ,ζT,hvs,ζQ];rfl
  ·simp at hl ⊢;exact hl
  ·intro i d x hd hx
   cases i with
   | zero=>simp at hd hx;subst hd;subst hx;exact hr
   | succ i=>exact hp i d x (by simpa using hd) (by simpa using hx)
theorem run_resultsV{P:Program}{G:Nat→Option (List V)}{γ:Gh}{st:St}{tmps:Array Value}{w:World}(hs:Sim G γ st tmps w){fn:Func}{c:V}(h:F7 P st fn.results.toList=some c) :
  ∃v,(results fn tmps).run P w=.ok v w∧Rep γ w st.b st.u c v:=by
 unfold F7 at h
 cases hm:fn.results.toList.mapM (resV P st) with
 | none=>simp[hm] at h
 | some cs=>
  obtain⟨vs,hvs,hl,hp⟩:=run_resList hs hm
  have hrun:(fn.results.mapM (resRun tmps)).run P w=.ok vs.toArray w:=by
   rw[Array.mapM_eq_mapM_toList,Sem.run_map,hvs,ζQ]
  have hres:(results fn tmps).run P w=.ok (if h:vs.toArray.size=1 then vs.toArray[0] else .tuple vs.toArray) w:=by
   rw[results_eq,ζT,hrun,ζQ];rfl
  rw[hm] at h
  have hlen:vs.length=cs.length:=by simpa using hl
  rcases cs with _|⟨c1,_|⟨c2,cs'⟩⟩
  ·obtain rfl:vs=[]:=ζS.1 hlen
   obtain rfl:V.tup []=c:=ζR h
   exact⟨.tuple #[],by rw[hres];rfl,.tup [] [] rfl (fun i c v hc=>by simp at hc)⟩
  ·rcases vs with _|⟨v1,_|⟨v2,vs'⟩⟩
   ·simp at hlen
   ·obtain rfl:c1=c:=ζR h
    exact⟨v1,by rw[hres];rfl,hp 0 _ _ rfl rfl⟩
   ·simp at hlen
  ·rcases vs with _|⟨v1,_|⟨v2,vs'⟩⟩
   ·simp at hlen
   ·simp at hlen
   ·obtain rfl:V.tup (c1 :: c2 :: cs')=c:=ζR h
    exact⟨.tuple (v1 :: v2 :: vs').toArray,by rw[hres];simp,.tup _ _ hlen fun i c v hc hv=>hp i c v hc (by simpa using hv)⟩
def Done(P:Program)(rs:List ResultVar)(res:V)(outs:Nat→Option Blk)(e:Exit)(st:St):Prop:=
 (e=.normal∨e=.ret)∧F7 P st rs=some res∧∀b k,outs b=some k→st.b b=some k
mutual
def V6:V→Bool
 | .int _ _=>true|.bool _=>true|.str _=>true|.nilp=>true|.nilf=>true|.nilsl=>true|.yld _=>true
 | .sl _ _ _=>true|.snap _=>true|.ifc _=>true
 | .fn _ a b=>dataL a&&dataL b
 | .agg l=>dataL l
 | .tup l=>dataL l
 | .ref _ _ _=>false|.ptr _ _ _=>false|.undef=>false|.mp _=>false
def dataL:List V→Bool
 | []=>true
 | c :: l=>V6 c&&dataL l
end
mutual
def O1:V→Bool
 | .int _ _=>true|.bool _=>true|.str _=>true|.nilp=>true|.nilf=>true|.nilsl=>true|.yld _=>true
 | .agg l=>flatL l
 | .tup l=>flatL l
 | .fn _ a b=>flatL a&&flatL b
 | .sl _ _ _=>false|.snap _=>false|.ref _ _ _=>false|.ptr _ _ _=>false|.undef=>false|.mp _=>false|.ifc _=>true
def flatL:List V→Bool
 | []=>true
 | c :: l=>O1 c&&flatL l
end
theorem T7:∀{l:List V},dataL l=true→∀{i:Nat} {c:V},l[i]?=some c→V6 c=true
 | [],_,i,c,h=>by simp at h
 | x :: l,hl,i,c,h=>by
  simp only[dataL,ζA] at hl
  cases i with
  | zero=>simp at h;subst h;exact hl.1
  | succ i=>exact T7 hl.2 (by simpa using h)
theorem R9:∀{l:List V},flatL l=true→∀{i:Nat} {c:V},l[i]?=some c→O1 c=true
 | [],_,i,c,h=>by simp at h
 | x :: l,hl,i,c,h=>by
  simp only[flatL,ζA] at hl
  cases i with
  | zero=>simp at h;subst h;exact hl.1
  | succ i=>exact R9 hl.2 (by simpa using h)
theorem W2.flat{lim lim':Nat→Nat}{w w':World}{c:V}{v:Value}(h:W2 lim w c v):O1 c=true→W2 lim' w' c v:=by
 induction h with
 | int k n=>exact fun _=>.int k n
 | bool b=>exact fun _=>.bool b
 | str s=>exact fun _=>.str s
 | nilp=>exact fun _=>.nilp
 | nilf=>exact fun _=>.nilf
 | yld l=>exact fun _=>.yld l
 | nilsl=>exact fun _=>.nilsl
 | ifc x hx=>exact fun _=>.ifc x hx
 | sl=>intro h;simp[O1] at h
 | slNil=>intro h;simp[O1] at h
 | snap=>intro h;simp[O1] at h
 | fn f first captured fs cs h1 h2 _ _ ih1 ih2=>
  intro h
  simp only[O1,ζA] at h
  exact .fn f first captured fs cs h1 h2 (fun i c v hc hv=>ih1 i c v hc hv (R9 h.1 hc)) (fun i c v hc hv=>ih2 i c v hc hv (R9 h.2 hc))
theorem Rep.flat{γ γ':Gh}{w w':World}{bs bs':Nat→Option Blk}{u u':Nat→Bool}{c:V}{v:Value}(h:Rep γ w bs u c v):O1 c=true→Rep γ' w' bs' u' c v:=by
 induction h with
 | data h=>exact fun hf=>.data (h.flat hf)
 | undef=>intro h;simp[O1] at h
 | ref=>intro h;simp[O1] at h
 | refE=>intro h;simp[O1] at h
 | refN=>intro h;simp[O1] at h
 | deadRef=>intro h;simp[O1] at h
 | ptr=>intro h;simp[O1] at h
 | deadPtr=>intro h;simp[O1] at h
 | mp=>intro h;simp[O1] at h
 | deadMp=>intro h;simp[O1] at h
 | fn f first captured fs cs h1 h2 _ _ ih1 ih2=>
  intro h
  simp only[O1,ζA] at h
  exact .fn f first captured fs cs h1 h2 (fun i c v hc hv=>ih1 i c v hc hv (R9 h.1 hc)) (fun i c v hc hv=>ih2 i c v hc hv (R9 h.2 hc))
 | agg cells vs h1 _ ih=>intro h;exact .agg cells vs h1 fun i c v hc hv=>ih i c v hc hv (R9 (by simpa[O1] using h) hc)
 | tup cells vs h1 _ ih=>intro h;exact .tup cells vs h1 fun i c v hc hv=>ih i c v hc hv (R9 (by simpa[O1] using h) hc)
theorem Rep.dataMono{γ γ':Gh}{w w':World}{bs bs':Nat→Option Blk}{u u':Nat→Bool}(hm:∀B o v,o < γ.lim B→cellAt w B o=some v→o < γ'.lim B∧cellAt w' B o=some v){c:V}{v:Value}(h:Rep γ w bs u c v) :
  V6 c=true→Rep γ' w' bs' u' c v:=by
 induction h with
 | data h=>exact fun _=>.data (h.mono hm)
 | undef=>intro h;simp[V6] at h
 | ref=>intro h;simp[V6] at h
 | refE=>intro h;simp[V6] at h
 | refN=>intro h;simp[V6] at h
 | deadRef=>intro h;simp[V6] at h
 | ptr=>intro h;simp[V6] at h
 | deadPtr=>intro h;simp[V6] at h
 | mp=>intro h;simp[V6] at h
 | deadMp=>intro h;simp[V6] at h
 | fn f first captured fs cs h1 h2 _ _ ih1 ih2=>
  intro h
  simp only[V6,ζA] at h
  exact .fn f first captured fs cs h1 h2 (fun i c v hc hv=>ih1 i c v hc hv (T7 h.1 hc)) (fun i c v hc hv=>ih2 i c v hc hv (T7 h.2 hc))
 | agg cells vs h1 _ ih=>intro h;exact .agg cells vs h1 fun i c v hc hv=>ih i c v hc hv (T7 (by simpa[V6] using h) hc)
 | tup cells vs h1 _ ih=>intro h;exact .tup cells vs h1 fun i c v hc hv=>ih i c v hc hv (T7 (by simpa[V6] using h) hc)
theorem run_call{P:Program}{w:World}{a:Act}{o:Oper}{x:Operand}{xs:Array Operand}{ts:Array TypeId}{f:FuncId}{fn:Func}{fs cs:Array Value}(ho:o.op=.call { callee:=.value x,args:=xs,argTypes:=ts })
  (hx:a.eval x=.func (.func f) fs cs) (hfn:P.funcs[f]?=some fn) (hname:(fn.name== "runtime.NumGoroutine")=false) (hbody:fn.body.isNone=false) :
  (execOp a.eval o).run P w=.ok (.enter f (fs++xs.map a.eval++cs)) w:=by
 have e : execOp a.eval o = (do let d ← Deferred.ofValue (a.eval x) (xs.map a.eval); invoke d.target d.args) := by
  unfold execOp;rw[ho];rfl
 rw[e,hx]
 have hname':¬fn.name= "runtime.NumGoroutine":=by simpa using hname
 have hbody':¬fn.body=none:=by intro h;rw[h] at hbody;simp at hbody
 simp[Deferred.ofValue,invoke,callFunc,hfn,hname',hbody']
theorem J8.append{γ:Gh}{w:World}{bs:Nat→Option Blk}{u:Nat→Bool}{c1 c2:List V}{v1 v2:Array Value}(h1:J8 γ w bs u c1 v1)(h2:J8 γ w bs u c2 v2):J8 γ w bs u (c1++c2) (v1++v2):=by
 refine⟨by simp[h1.1,h2.1],fun i c v hc hv=>?_⟩
 by_cases hi:i < c1.length
 ·rw[ζl hi] at hc
  rw[Array.getElem?_append_left (by rw[h1.1];exact hi)] at hv
  exact h1.2 i c v hc hv
 ·rw[ζm (by omega)] at hc
  rw[Array.getElem?_append_right (by rw[h1.1];omega),h1.1] at hv
  exact h2.2 _ c v hc hv
def S4(G:Nat→Option (List V))(st:St)(x:Operand)(xs:List Operand):Option (FuncId×List V):=
 match st.ev G x,evs (st.ev G) xs with
 | some (.fn f first captured),some cs=>some (f,first++cs++captured)
 | _,_=>none
theorem callArgs_spec{P:Program}{G:Nat→Option (List V)}{γ:Gh}{st:St}{a:Act}{w:World}(hs:Sim G γ st a.tmps w){o:Oper}{x:Operand}{xs:Array Operand}{ts:Array TypeId}{f:FuncId}{cs:List V}{fn:Func}
  (ho:o.op=.call { callee:=.value x,args:=xs,argTypes:=ts }) (h:S4 G st x xs.toList=some (f,cs)) (hfn:P.funcs[f]?=some fn) (hname:(fn.name== "runtime.NumGoroutine")=false) (hbody:fn.body.isNone=false) :
  ∃as:Array Value,(execOp a.eval o).run P w=.ok (.enter f as) w∧J8 γ w st.b st.u cs as:=by
 unfold S4 at h
 split at h
 ·rename_i f' first captured cs' hx hcs
  simp only[ζa,ζP] at h
  obtain⟨rfl,rfl⟩:=h
  obtain⟨fs,caps,hv,l1,l2,p1,p2⟩:=(hs.ev hx).fn_inv
  have hm:=evs_rep hs hcs
  have k:(xs.toList.map a.eval).toArray=xs.map a.eval:=Array.ext' (by rw[Array.toList_map])
  rw[k] at hm
  refine⟨_,run_call ho hv hfn hname hbody,?_⟩
  exact(J8.append (J8.append ⟨by simpa using l1,fun i c v hc hx=>p1 i c v hc (by simpa using hx)⟩ hm) ⟨by simpa using l2,fun i c v hc hx=>p2 i c v hc (by simpa using hx)⟩)
 ·simp at h
end Go.EV
namespace Go.EV
open Go
structure Src where
 b:Option Nat
 off:Nat
 size:Nat
 excl:Bool
 rows:List (List V)
def St.delO(st:St)(b:Option Nat):St:=match b with|some i=>st.delB i|none=>st
theorem delO_b(st:St)(x:Option Nat)(b:Nat):(st.delO x).b b=if x=some b then none else st.b b:=by
 cases x with
 | none=>simp[St.delO]
 | some i=>
  simp only[St.delO,St.delB,ζa]
  by_cases h:b=i
  ·rw[if_pos h,if_pos h.symm]
  ·rw[if_neg h,if_neg (fun e=>h e.symm)]
def dstV(look:Nat→Option Blk)(size:Nat)(c:V):Option Src:=
 match c with
 | .nilsl=>some ⟨none,0,size,true,[]⟩
 | .ref b off len=>match look b with
  | some k=>if k.size=size∧off+len≤k.rows.length∧(k.excl=true∨off+len=k.rows.length) then some ⟨some b,off,size,k.excl,(k.rows.drop off).take len⟩ else none
  | none=>none
 | _=>none
def srcV(look:Nat→Option Blk)(size:Nat)(dst:Option Nat)(c:V):Option Src:=
 match c with
 | .nilsl=>some ⟨none,0,size,true,[]⟩
 | .sl _ s rows=>if s=size then some ⟨none,0,size,true,rows.map (·.map V.strip)⟩ else none
 | .ref b off len=>match look b with
  | some k=>if k.size=size∧off+len≤k.rows.length then
    (if dst=some b then some ⟨none,0,size,true,((k.rows.drop off).take len).map (·.map V.strip)⟩ else some ⟨some b,off,size,true,(k.rows.drop off).take len⟩) else none
  | none=>none
 | _=>none
def appendV(P:Program)(look:Nat→Option Blk)(t t2:TypeId)(x y:V):Option (Src×Src×Blk):=
 match P.underlying t,P.underlying t2 with
 | some (.slice e),some (.slice _)=>match P.info? e with
  | some ei=>match dstV look ei.size x with
   | some ds=>match srcV look ei.size ds.b y with
    | some ss=>if (ds.rows.length+ss.rows.length) * ei.bytes≤140737488355328∧0 < ei.bytes∧(zeroV P e).map List.length=some ei.size then some (ds,ss,⟨ei.size,ds.excl,ds.rows++ss.rows⟩) else none
    | none=>none
   | none=>none
  | none=>none
 | _,_=>none
def moveOwn(ds ss:Src)(d:Nat)(x:Option H4):Option H4:=
 match x with
 | some (.nest b i j)=>
  if ds.b=some b then (if ds.off≤i∧i < ds.off+ds.rows.length then some (.nest d (i - ds.off) j) else none)
  else if ss.b=some b then (if ss.off≤i∧i < ss.off+ss.rows.length then some (.nest d (ds.rows.length+(i - ss.off)) j) else none)
  else some (.nest b i j)
 | x=>x
def Gh.move(γ:Gh)(ds ss:Src)(d B o:Nat)(lim:Nat):Gh where
 loc:=fun b=>if b=d then some (B,o) else γ.loc b
 own:=fun X=>if X=B then some (.blk d) else moveOwn ds ss d (γ.own X)
 lim:=fun X=>if X=B then lim else γ.lim X
theorem moveOwn_other{ds ss:Src}{d b i j:Nat}(h1:ds.b≠some b)(h2:ss.b≠some b):moveOwn ds ss d (some (.nest b i j))=some (.nest b i j):=by
 simp only[moveOwn,if_neg h1,if_neg h2]
def RowsRd(γ:Gh)(w:World)(bs:Nat→Option Blk)(u:Nat→Bool)(s:Src)(vs:List Value):Prop:=
 (∀r,r∈s.rows→r.length=s.size)∧vs.length=s.rows.length * s.size∧
  ∀(i:Nat) (c:V),s.rows.flatten[i]?=some c→∃v,vs[i]?=some v∧Rep γ w bs u c v∧v.oneCell'=true∧
   (match s.b with|some b=>E5 γ w (.nest b (s.off+i / s.size) (i % s.size)) c v|none=>c.isOwn=false)
theorem flatten_cut{s:Nat}(rows:List (List V))(hs:∀r,r∈rows→r.length=s)(off len i:Nat)(c:V)(h:((rows.drop off).take len).flatten[i]?=some c) :
  rows.flatten[off * s+i]?=some c∧i < len * s:=by
 have hs':∀r,r∈(rows.drop off).take len→r.length=s:=fun r hr=>hs r (ξu (ξt hr))
 rcases ξq s with h0|hpos
 ·subst h0
  have e:((rows.drop off).take len).flatten=[]:=by
   rw[List.flatten_eq_nil_iff];exact fun r hr=>ζS.1 (hs' r hr)
  rw[e] at h;simp at h
 ·have e:i=(i / s) * s+i % s:=by rw[ξw];exact(Nat.div_add_mod i s).symm
  have hm:=Nat.mod_lt i hpos
  rw[e,J7 _ hs' _ _ hm] at h
  obtain⟨r,hr,hc⟩:=ζc.1 h
  rw[ζx] at hr
  split at hr
  ·rename_i hlt
   rw[ζy] at hr
   refine⟨?_,?_⟩
   ·rw[e,show off * s+(i / s * s+i % s)=(off+i / s) * s+i % s by rw[ξp];omega,J7 _ hs _ _ hm,hr];exact hc
   ·have:(i / s+1) * s≤len * s:=ξl _ hlt
    rw[ξp] at this;omega
  ·simp at hr
theorem BlkAt.rd{γ:Gh}{w:World}{bs:Nat→Option Blk}{u:Nat→Bool}{b:Nat}{k:Blk}{o:Nat}{cs:Array Value}{off len:Nat}(excl:Bool)
  (h4:∀r,r∈k.rows→r.length=k.size) (h5:o+k.rows.length * k.size≤cs.size)
  (h6:∀(i:Nat) (c:V),k.rows.flatten[i]?=some c→∃v,cs[o+i]?=some v∧Rep γ w bs u c v∧v.oneCell'=true∧E5 γ w (.nest b (i / k.size) (i % k.size)) c v)
  (hlen:off+len≤k.rows.length) :
  RowsRd γ w bs u ⟨some b,off,k.size,excl,(k.rows.drop off).take len⟩ ((cs.toList.drop (o+off * k.size)).take (len * k.size)):=by
 have hl:((k.rows.drop off).take len).length=len:=by simp;omega
 refine⟨fun r hr=>h4 r (ξu (ξt hr)),?_,fun i c hc=>?_⟩
 ·simp only[List.length_take,List.length_drop,hl,Array.length_toList]
  have:(off+len) * k.size≤k.rows.length * k.size:=ξl _ hlen
  rw[ξp] at this;omega
 ·obtain⟨hc',hi⟩:=flatten_cut k.rows h4 off len i c hc
  obtain⟨v,a1,a2,a3,a4⟩:=h6 _ c hc'
  refine⟨v,?_,a2,a3,?_⟩
  ·rw[ζx,if_pos hi,ζy,show o+off * k.size+i=o+(off * k.size+i) by omega]
   simpa using a1
  ·show E5 γ w (.nest b (off+i / k.size) (i % k.size)) c v
   rcases ξq k.size with h0|hpos
   ·rw[h0] at hi;omega
   ·rw[ξw off,Nat.mul_add_div hpos,Nat.mul_add_mod] at a4;exact a4
theorem Sim.appendTo{G:Nat→Option (List V)}{γ:Gh}{st:St}{tmps:Array Value}{w w1:World}(h:Sim G γ st tmps w){d:Nat}{ds ss:Src}{vd vsr:List Value}{B o lim:Nat}{cs:Array Value}{e:TypeId}
  (hM:ds.size < W9) (hu:st.u d=false) (hd:RowsRd γ w st.b st.u ds vd) (hss:RowsRd γ w st.b st.u ss vsr) (hsz:ds.size=ss.size) (hne:∀b,ds.b=some b→ss.b≠some b)
  (hw1:M6 w1 B cs e) (hroom:o+(ds.rows.length+ss.rows.length) * ds.size≤cs.size)
  (hcells:∀j,j < vd.length+vsr.length→cs[o+j]?=(vd++vsr)[j]?)
  (g:Grow γ w (γ.move ds ss d B o lim) w1) (hkeep:∀b k X o',st.b b=some k→ds.b≠some b→ss.b≠some b→γ.loc b=some (X,o')→γ.own X=some (.blk b)→X≠B∧w1.heap[X]?=w.heap[X]?)
  (hB:B < w1.heap.size) (hold:∀X t,γ.own X=some t→X < w1.heap.size)
  (hlim:ds.excl=true→lim=0) (hlim2:lim≤o+(ds.rows.length+ss.rows.length) * ds.size)
  (hnest:∀X b i j,γ.own X=some (.nest b i j)→X≠B) :
  Sim G (γ.move ds ss d B o lim) (((st.delO ds.b).delO ss.b).setB d ⟨ds.size,ds.excl,ds.rows++ss.rows⟩) tmps w1∧
   L1 γ st.b st.u (γ.move ds ss d B o lim) (((st.delO ds.b).delO ss.b).setB d ⟨ds.size,ds.excl,ds.rows++ss.rows⟩).b (((st.delO ds.b).delO ss.b).setB d ⟨ds.size,ds.excl,ds.rows++ss.rows⟩).u:=by
 have hb2:∀b,b≠d→(((st.delO ds.b).delO ss.b).setB d ⟨ds.size,ds.excl,ds.rows++ss.rows⟩).b b=if ds.b=some b∨ss.b=some b then none else st.b b:=by
  intro b hb
  simp only[St.setB]
  rw[if_neg hb,delO_b,delO_b]
  by_cases h1:ss.b=some b
  ·rw[if_pos h1,if_pos (.inr h1)]
  ·rw[if_neg h1]
   by_cases h2:ds.b=some b
   ·rw[if_pos h2,if_pos (.inl h2)]
   ·rw[if_neg h2,if_neg (by simp[h1,h2])]
 have hu2:∀b,st.u b=true→(((st.delO ds.b).delO ss.b).setB d ⟨ds.size,ds.excl,ds.rows++ss.rows⟩).u b=true:=by
  intro b hb
  simp only[St.setB]
  split
  ·rfl
  ·cases ds.b<;>cases ss.b<;>simp only[St.delO,St.delB]<;>(try split)<;>(try split)<;>first|rfl|exact hb
 have bl:L1 γ st.b st.u (γ.move ds ss d B o lim) (((st.delO ds.b).delO ss.b).setB d ⟨ds.size,ds.excl,ds.rows++ss.rows⟩).b (((st.delO ds.b).delO ss.b).setB d ⟨ds.size,ds.excl,ds.rows++ss.rows⟩).u:=by
  refine⟨hu2,fun b hb hn=>?_,fun b k hk=>⟨hu2 b (h.u b k hk),?_⟩⟩
  ·have:b≠d:=fun e=>by subst e;rw[hu] at hb;simp at hb
   rw[hb2 b this];split
   ·rfl
   ·exact hn
  ·have:b≠d:=fun e=>by subst e;rw[h.fresh_b hu] at hk;simp at hk
   rw[hb2 b this]
   split
   ·exact .inl rfl
   ·exact .inr ⟨k,hk,rfl,fun _=>rfl,by simp only[Gh.move];rw[if_neg this]⟩
 refine⟨⟨?_,fun i=>?_,fun b k hk=>?_,fun b k hk=>?_,h.g.grow g,fun X t hX=>?_⟩,bl⟩
 ·have:(((st.delO ds.b).delO ss.b).setB d ⟨ds.size,ds.excl,ds.rows++ss.rows⟩).n=st.n:=by cases ds.b<;>cases ss.b<;>rfl
  rw[this];exact h.n
 ·have:(((st.delO ds.b).delO ss.b).setB d ⟨ds.size,ds.excl,ds.rows++ss.rows⟩).t=st.t:=by cases ds.b<;>cases ss.b<;>rfl
  rw[this];exact(h.t i).mono g bl
 ·by_cases hbd:b=d
  ·subst hbd
   simp only[St.setB,if_pos] at hk
   simp only[ζa] at hk;subst hk
   refine .inr (.inr ⟨hM,B,o,cs,e,by simp[Gh.move],by simp[Gh.move],hw1,fun r hr=>?_,by simpa using hroom,fun i c hc=>?_,fun hx=>by simp[Gh.move,hlim hx],by simpa[Gh.move] using hlim2⟩)
   ·rcases ζr.1 hr with hr|hr
    ·exact hd.1 r hr
    ·rw[hsz];exact hss.1 r hr
   ·simp only[List.flatten_append] at hc
    have dl:ds.rows.flatten.length=ds.rows.length * ds.size:=by
     rw[List.length_flatten]
     have:ds.rows.map List.length=List.replicate ds.rows.length ds.size:=List.eq_replicate_iff.2 ⟨by simp,fun x hx=>by obtain⟨r,hr,rfl⟩:=ζt.1 hx;exact hd.1 r hr⟩
     rw[this];simp
    by_cases hi:i < ds.rows.flatten.length
    ·rw[ζl hi] at hc
     obtain⟨v,a1,a2,a3,a4⟩:=hd.2.2 i c hc
     refine⟨v,?_,a2.mono g bl,a3,?_⟩
     ·rw[hcells i (by rw[hd.2.1];omega),ζl (by rw[hd.2.1];omega)];exact a1
     ·cases hdb:ds.b with
      | none=>rw[hdb] at a4;exact .of_not_own a4
      | some b0=>
       rw[hdb] at a4
       simp only at a4
       replace a4:=a4.grow g (fun X hX=>by
        simp only[Gh.move];rw[if_neg (hnest X _ _ _ hX)];exact ζK _)
       unfold E5 at a4 ⊢
       split at a4
       ·rename_i size' rows' a l cp
        rcases a4 with a4|a4
        ·exact .inl a4
        refine .inr ?_
        have hne':a.block≠B:=hnest _ _ _ _ a4.1.1
        have hpos:0 < ds.size:=by
         rcases ξq ds.size with h0|h0
         ·rw[dl,h0] at hi;omega
         ·exact h0
        have hq:i / ds.size < ds.rows.length:=by rw[Nat.div_lt_iff_lt_mul hpos];omega
        simp only[Gh.move]
        rw[if_neg hne',if_neg hne',a4.1.1]
        refine⟨⟨?_,a4.1.2⟩,a4.2⟩
        simp only[moveOwn,hdb,if_true]
        generalize i / ds.size=q at hq
        rw[if_pos (by omega),show ds.off+q - ds.off=q by omega]
       ·trivial
    ·rw[ζm (by omega)] at hc
     obtain⟨v,a1,a2,a3,a4⟩:=hss.2.2 _ c hc
     have hsl:i - ds.rows.flatten.length < vsr.length:=(ζe.1 a1).1
     refine⟨v,?_,a2.mono g bl,a3,?_⟩
     ·rw[hcells i (by rw[hd.2.1];omega),ζm (by rw[hd.2.1];omega),hd.2.1,←dl];exact a1
     ·cases hsb:ss.b with
      | none=>rw[hsb] at a4;exact .of_not_own a4
      | some b0=>
       rw[hsb] at a4
       simp only at a4
       replace a4:=a4.grow g (fun X hX=>by
        simp only[Gh.move];rw[if_neg (hnest X _ _ _ hX)];exact ζK _)
       unfold E5 at a4 ⊢
       split at a4
       ·rename_i size' rows' a l cp
        rcases a4 with a4|a4
        ·exact .inl a4
        refine .inr ?_
        have hne':a.block≠B:=hnest _ _ _ _ a4.1.1
        have hpos:0 < ss.size:=by
         rcases ξq ss.size with h0|h0
         ·rw[hss.2.1,h0] at hsl;omega
         ·exact h0
        have hdsb:ds.b≠some b0:=fun hx=>hne b0 hx hsb
        have hq:(i - ds.rows.length * ds.size) / ss.size < ss.rows.length:=by rw[Nat.div_lt_iff_lt_mul hpos];rw[dl,hss.2.1] at hsl;exact hsl
        simp only[Gh.move]
        rw[if_neg hne',if_neg hne',a4.1.1]
        refine⟨⟨?_,a4.1.2⟩,a4.2⟩
        simp only[moveOwn,hsb,if_true]
        rw[if_neg hdsb,dl]
        have hin:ss.off≤ss.off+(i - ds.rows.length * ds.size) / ss.size∧ss.off+(i - ds.rows.length * ds.size) / ss.size < ss.off+ss.rows.length:=⟨Nat.le_add_right _ _,Nat.add_lt_add_left hq _⟩
        rw[if_pos hin,Nat.add_sub_cancel_left]
        have hge:ds.rows.length * ss.size≤i:=by rw[←hsz];omega
        have e1:i / ds.size=ds.rows.length+(i - ds.rows.length * ds.size) / ss.size:=by
         rw[hsz]
         conv=>lhs;rw[show i=ss.size * ds.rows.length+(i - ds.rows.length * ss.size) by rw[ξw];omega]
         rw[Nat.mul_add_div hpos]
        have e2:i % ds.size=(i - ds.rows.length * ds.size) % ss.size:=by
         rw[hsz]
         conv=>lhs;rw[show i=ss.size * ds.rows.length+(i - ds.rows.length * ss.size) by rw[ξw];omega]
         rw[Nat.mul_add_mod]
        rw[e1,e2]
       ·trivial
  ·rw[hb2 b hbd] at hk
   split at hk
   ·simp at hk
   ·rename_i hno
    simp only[not_or] at hno
    rcases h.b b k hk with⟨v1,v2⟩|hm|⟨hM2,X,o',cs',e',a1,a2,a3,a4,a5,a6,a7,a8⟩
    ·exact .inl ⟨by simp only[Gh.move];rw[if_neg hbd];exact v1,v2⟩
    ·refine .inr (.inl (hm.same (by simp only[Gh.move];rw[if_neg hbd]) (fun X q1 q2=>?_) fun c v hr=>hr.mono g bl))
     obtain⟨hXB,hX⟩:=hkeep b k X 0 hk hno.1 hno.2 q1 q2
     exact⟨by simp only[Gh.move];rw[if_neg hXB,q2];rfl,hX⟩
    ·obtain⟨hXB,hX⟩:=hkeep b k X o' hk hno.1 hno.2 a1 a2
     refine .inr (.inr ⟨hM2,X,o',cs',e',by simp only[Gh.move];rw[if_neg hbd];exact a1,by simp only[Gh.move];rw[if_neg hXB,a2];rfl,a3.of_eq hX,a4,a5,fun i c hc=>?_,
      by simp only[Gh.move];rw[if_neg hXB];exact a7,by simp only[Gh.move];rw[if_neg hXB];exact a8⟩)
     obtain⟨v,b1,b2,b3,b4⟩:=a6 i c hc
     refine⟨v,b1,b2.mono g bl,b3,(b4.grow g (fun X hX=>by
      simp only[Gh.move];rw[if_neg (hnest X _ _ _ hX)];exact ζK _)).mono fun Y hY=>?_⟩
     have hYB:=hnest _ _ _ _ hY
     simp only[Gh.move]
     rw[if_neg hYB,if_neg hYB,hY]
     exact⟨moveOwn_other hno.1 hno.2,ζK _⟩
 ·by_cases hbd:b=d
  ·subst hbd;simp[St.setB]
  ·rw[hb2 b hbd] at hk
   split at hk
   ·simp at hk
   ·exact hu2 b (h.u b k hk)
 ·simp only[Gh.move] at hX
  split at hX
  ·rename_i hXB;rw[hXB];exact hB
  ·cases ho:γ.own X with
   | none=>rw[ho] at hX;simp[moveOwn] at hX
   | some t'=>exact hold X t' ho
section
variable {P:Program}
theorem run_append_grow_any{w:World}(t t2 ty e e2:TypeId)(i:TypeInfo)(z:Value)(ht:P.underlying t=some (.slice e))(ht2:P.underlying t2=some (.slice e2))(hi:P.info? e=some i)(hz:i.zero=some z)
  (base:Option Addr) (n cap m:Nat) (y:Value) (olds news:List Value) (hlen:∀w1,(Builtin.lenOf y).run P w1=.ok m w1)
  (hold:∀w1:World,w1.heap=w.heap→(Builtin.firstCells i.size n (.slice base n cap)).run P w1=.ok olds.toArray w1)
  (hnew:∀w1:World,w1.heap=w.heap→(Builtin.firstCells i.size m y).run P w1=.ok news.toArray w1)
  (hg:cap < n+m) (h63:((n+m:Nat):Int)≤9223372036854775807) (hfit:Builtin.nextslicecap (n+m) cap * i.bytes≤281474976710656) :
  (Builtin.append_ #[t,t2] ty #[.slice base n cap,y]).run P w =
   .ok (.slice (some ⟨w.heap.size,0,none⟩) (n+m) (grownCap w (n+m) cap e)) (w.drew.alloc (.cells (olds.toArray++news.toArray++Builtin.zeroCells z.cells (grownCap w (n+m) cap e - (n+m))) e)):=by
 have hn:¬(n+m≤cap):=by omega
 have h63':¬(9223372036854775807 < ((n:Int)+(m:Int))):=by omega
 have h48':¬(281474976710656 < Builtin.nextslicecap (n+m) cap * i.bytes):=by omega
 have hf:=hnew w.drew rfl
 have hfo:=hold w.drew rfl
 simp[Builtin.append_,ζO ht,ζO ht2,sizeOf,typeInfo,zeroValue,hi,hz,hlen,hn,h63',h48',Question.forced,hf,hfo,newRow,grownCap]
 congr 2
 apply Array.ext'
 simp[ξe]
theorem run_append_in_any{w:World}(t t2 ty e e2:TypeId)(i:TypeInfo)(ht:P.underlying t=some (.slice e))(ht2:P.underlying t2=some (.slice e2))(hi:P.info? e=some i)
  (B o n cap m:Nat) (y:Value) (news:List Value) (cs:Array Value) (ce:TypeId) (hlen:∀w1,(Builtin.lenOf y).run P w1=.ok m w1)
  (hnew:∀w1:World,w1.heap=w.heap→(Builtin.firstCells i.size m y).run P w1=.ok news.toArray w1)
  (hg:n+m≤cap) (hh:M6 w B cs ce) (h1:∀v,v∈news→v.oneCell'=true) (hroom:o+n * i.size+news.length≤cs.size) :
  (Builtin.append_ #[t,t2] ty #[.slice (some ⟨B,o,none⟩) n cap,y]).run P w=.ok (.slice (some ⟨B,o,none⟩) (n+m) cap) (World.setBlk w B (K6 cs (o+n * i.size) news) ce):=by
 have hs:=X7 (P:=P) (B:=B) (o:=o+n * i.size) (e:=ce) news 0 w cs hh h1 (by omega)
 have hf:=hnew w rfl
 simp[Builtin.append_,ζO ht,ζO ht2,sizeOf,typeInfo,hi,hlen,hg,hf,Addr.add_eq,hs]
theorem run_append_none{w:World}(t t2 ty e e2:TypeId)(i:TypeInfo)(ht:P.underlying t=some (.slice e))(ht2:P.underlying t2=some (.slice e2))(hi:P.info? e=some i)
  (base:Option Addr) (y:Value) (cap:Nat) (hlen:∀w1,(Builtin.lenOf y).run P w1=.ok 0 w1) (hnew:∀w1:World,w1.heap=w.heap→(Builtin.firstCells i.size 0 y).run P w1=.ok #[] w1) :
  (Builtin.append_ #[t,t2] ty #[.slice base 0 cap,y]).run P w=.ok (.slice base 0 cap) w:=by
 have hf:=hnew w rfl
 cases base<;>simp[Builtin.append_,ζO ht,ζO ht2,sizeOf,typeInfo,hi,hlen,hf,storeCells]
end
theorem firstCells_at{P:Program}{w:World}{B o n size l cap:Nat}{vs:List Value}(hl:vs.length=n * size)(hv:∀(j:Nat) (v:Value),vs[j]?=some v→cellAt w B (o+j)=some v) :
  ∀w1:World,w1.heap=w.heap→(Builtin.firstCells size n (.slice (some ⟨B,o,none⟩) l cap)).run P w1=.ok vs.toArray w1:=fun w1 hh=>
 run_firstCells_some w1 size n ⟨B,o,none⟩ l cap vs hl fun j v h=>by
  rw[Addr.add_eq]
  have:=hv j v h
  unfold cellAt World.cell? at this
  unfold World.cell?
  rw[hh];exact this
structure SrcOk(P:Program)(γ:Gh)(w:World)(bs:Nat→Option Blk)(u:Nat→Bool)(s:Src)(v:Value)(vs:List Value):Prop where
 rd:RowsRd γ w bs u s vs
 len:∀w1,(Builtin.lenOf v).run P w1=.ok s.rows.length w1
 first:∀w1:World,w1.heap=w.heap→(Builtin.firstCells s.size s.rows.length v).run P w1=.ok vs.toArray w1
theorem T1{P:Program}{γ:Gh}{w:World}{bs:Nat→Option Blk}{u:Nat→Bool}(b:Option Nat)(off size:Nat)(excl:Bool){v:Value}(h:v=.slice none 0 0∨∃a,v=.slice (some a) 0 0) :
  SrcOk P γ w bs u ⟨b,off,size,excl,[]⟩ v [] where
 rd:=⟨fun r hr=>by simp at hr,by simp,fun i c hc=>by simp at hc⟩
 len:=by rcases h with rfl|⟨a,rfl⟩<;>exact fun _=>rfl
 first:=by
  rcases h with rfl|⟨a,rfl⟩
  ·exact fun _ _=>rfl
  ·intro w1 _
   show (loadCells a (0 * size)).run P w1=_
   rw[Nat.zero_mul];rfl
theorem I9(rows:List (List V)):(rows.map (·.map V.strip)).flatten=rows.flatten.map V.strip:=by
 rw[List.map_flatten]
theorem RowsRd.strip{γ:Gh}{w:World}{bs:Nat→Option Blk}{u:Nat→Bool}{s:Src}{vs:List Value}(h:RowsRd γ w bs u s vs)(b:Option Nat)(off:Nat)(hb:b=none)(excl:Bool):RowsRd γ w bs u ⟨b,off,s.size,excl,s.rows.map (·.map V.strip)⟩ vs:=by
 subst hb
 refine⟨fun r hr=>?_,by rw[ζs];exact h.2.1,fun i c hc=>?_⟩
 ·obtain⟨r',hr',rfl⟩:=ζt.1 hr
  rw[ζs];exact h.1 r' hr'
 ·simp only[I9,ζo,ζb] at hc
  obtain⟨c',hc',rfl⟩:=hc
  obtain⟨v,a1,a2,a3,_⟩:=h.2.2 i c' hc'
  exact⟨v,a1,a2.strip,a3,strip_own c'⟩
def DstAt(γ:Gh)(w:World)(st:St)(s:Src)(v:Value)(vs:List Value):Prop:=
 (s.rows=[]∧(v=.slice none 0 0∨∃B,v=.slice (some B) 0 0))∨
  ∃b k B o cs e cap,s.b=some b∧st.b b=some k∧γ.loc b=some (B,o)∧γ.own B=some (.blk b)∧M6 w B cs e∧
   v=.slice (some ⟨B,o+s.off * s.size,none⟩) s.rows.length cap∧s.rows.length≤cap∧o+(s.off+cap) * s.size≤cs.size∧
   (∀j,j < vs.length→cs[o+s.off * s.size+j]?=vs[j]?)∧(s.excl=true→γ.lim B=0)∧γ.lim B≤o+(s.off+s.rows.length) * s.size
theorem ref_shape{P:Program}{G:Nat→Option (List V)}{γ:Gh}{st:St}{tmps:Array Value}{w:World}(h:Sim G γ st tmps w){b off len:Nat}{k:Blk}(hk:st.b b=some k)(hlen:off+len≤k.rows.length){v:Value}
  (hr:Rep γ w st.b st.u (.ref b off len) v) (excl:Bool) :
  ∃vs,SrcOk P γ w st.b st.u ⟨some b,off,k.size,excl,(k.rows.drop off).take len⟩ v vs∧
   ((((k.rows.drop off).take len)=[]∧(v=.slice none 0 0∨∃B,v=.slice (some B) 0 0))∨
    ∃B o cs e cap,γ.loc b=some (B,o)∧γ.own B=some (.blk b)∧M6 w B cs e∧v=.slice (some ⟨B,o+off * k.size,none⟩) len cap∧len≤cap∧o+(off+cap) * k.size≤cs.size∧
     vs=(cs.toList.drop (o+off * k.size)).take (len * k.size)∧(k.excl=true→γ.lim B=0)∧γ.lim B≤o+k.rows.length * k.size):=by
 have hl:((k.rows.drop off).take len).length=len:=by simp;omega
 rcases hr.ref_inv hk with⟨B,o,cap,rfl,hloc,_,hcap,hroom,hM,_⟩|⟨B,rfl,rfl,_⟩|⟨rfl,rfl,_⟩
 ·rcases h.b b k hk with⟨v1,_⟩|hm|⟨_,B',o',cs,e,h1,h2,h3,h4,h5,h6,h7,h8⟩
  ·rw[hloc] at v1;simp at v1
  ·exact(hm.small hM).elim
  ·rw[hloc] at h1;simp only[ζa,ζP] at h1
   obtain⟨rfl,rfl⟩:=h1
   have rd:=BlkAt.rd (b:=b) (w:=w) (γ:=γ) (bs:=st.b) (u:=st.u) excl h4 h5 h6 hlen
   obtain⟨cs',e',fz,r1,r2⟩:=hroom
   obtain⟨fz3,h3e,_⟩:=id h3
   rw[h3e] at r1;simp only[ζa,Obj.cells.injEq] at r1
   obtain⟨rfl,rfl,rfl⟩:=r1
   refine⟨_,⟨rd,fun _=>by simp[Builtin.lenOf,hl],?_⟩,.inr ⟨B,o,cs,e,cap,hloc,h2,h3,rfl,hcap,r2,rfl,h7,h8⟩⟩
   simp only[hl]
   refine firstCells_at (by have:=rd.2.1;simpa[hl] using this) fun j v hv=>?_
   rw[ζx] at hv
   split at hv
   ·rw[ζy] at hv
    rw[h3.cellAt]
    simpa using hv
   ·simp at hv
 ·have e0:(k.rows.drop off).take 0=[]:=by simp
  rw[e0]
  exact⟨[],T1 _ _ _ _ (.inr ⟨_,rfl⟩),.inl ⟨rfl,.inr ⟨B,rfl⟩⟩⟩
 ·have e0:(k.rows.drop off).take 0=[]:=by simp
  rw[e0]
  exact⟨[],T1 _ _ _ _ (.inl rfl),.inl ⟨rfl,.inl rfl⟩⟩
theorem src_shape{P:Program}{G:Nat→Option (List V)}{γ:Gh}{st:St}{tmps:Array Value}{w:World}(h:Sim G γ st tmps w){size:Nat}{db:Option Nat}{c:V}{s:Src}(hs:srcV st.b size db c=some s){v:Value}
  (hr:Rep γ w st.b st.u c v):s.size=size∧(∀b,db=some b→s.b≠some b)∧∃vs,SrcOk P γ w st.b st.u s v vs:=by
 unfold srcV at hs
 split at hs
 ·simp only[ζa] at hs;subst hs
  have:=hr.nilsl_inv;subst this
  exact⟨rfl,fun b _=>by simp,[],T1 _ _ _ _ (.inl rfl)⟩
 ·rename_i own sz rows
  split at hs<;>simp at hs
  rename_i hsz
  subst hsz;subst hs
  refine⟨rfl,fun b _=>by simp,?_⟩
  obtain⟨a,rfl,rfl⟩|⟨B,o,cap,vs,rfl,h1,h2,h3,h4⟩:=hr.sl_inv
  ·cases a with
   | none=>exact⟨[],T1 _ _ _ _ (.inl rfl)⟩
   | some a=>exact⟨[],T1 _ _ _ _ (.inr ⟨a,rfl⟩)⟩
  ·have fl:rows.flatten.length=rows.length * sz:=by
    rw[List.length_flatten]
    have:rows.map List.length=List.replicate rows.length sz:=List.eq_replicate_iff.2 ⟨by simp,fun x hx=>by obtain⟨r,hr,rfl⟩:=ζt.1 hx;exact h2 r hr⟩
    rw[this];simp
   have rd:RowsRd γ w st.b st.u ⟨none,0,sz,true,rows.map (·.map V.strip)⟩ ((List.range (rows.length * sz)).map vs):=by
    refine⟨fun r hr=>?_,by simp,fun i c hc=>?_⟩
    ·obtain⟨r',hr',rfl⟩:=ζt.1 hr
     simpa using h2 r' hr'
    ·simp only[I9,ζo,ζb] at hc
     obtain⟨c',hc',rfl⟩:=hc
     have hlt:i < rows.length * sz:=by rw[←fl];exact(ζe.1 hc').1
     exact⟨vs i,by simp[hlt],(Rep.data (h4 i c' hc')).strip,(h4 i c' hc').oneCell,strip_own c'⟩
   refine⟨_,rd,fun _=>by simp[Builtin.lenOf],?_⟩
   simp only[ζs]
   refine firstCells_at (by simp) fun j v hv=>?_
   simp only[ζo,ζb] at hv
   obtain⟨j',hj,rfl⟩:=hv
   have hlt:j < rows.length * sz:=by have:=(ζe.1 hj).1;simpa using this
   rw[List.getElem?_range hlt] at hj
   simp only[ζa] at hj;subst hj
   have hc:rows.flatten[j]?=some (rows.flatten[j]'(by rw[fl];exact hlt)):=ζd _
   exact(h3 j _ hc).2
 ·rename_i b off len
  split at hs
  ·rename_i k hk
   split at hs
   ·rename_i hc
    obtain⟨hsz,hlen⟩:=hc
    subst hsz
    split at hs
    ·simp only[ζa] at hs;subst hs
     obtain⟨vs,ho,_⟩:=ref_shape (P:=P) h hk hlen hr true
     refine⟨rfl,fun b _=>by simp,vs,⟨ho.rd.strip none 0 rfl true,?_,?_⟩⟩
     ·have:=ho.len;simpa using this
     ·have:=ho.first;simpa using this
    ·rename_i hdb
     simp only[ζa] at hs;subst hs
     obtain⟨vs,ho,_⟩:=ref_shape (P:=P) h hk hlen hr true
     exact⟨rfl,fun b' hb' hx=>hdb (by simp only[ζa] at hx;rw[hb',hx]),vs,ho⟩
   ·simp at hs
  ·simp at hs
 ·simp at hs
theorem dst_shape{P:Program}{G:Nat→Option (List V)}{γ:Gh}{st:St}{tmps:Array Value}{w:World}(h:Sim G γ st tmps w){size:Nat}{c:V}{s:Src}(hs:dstV st.b size c=some s){v:Value}
  (hr:Rep γ w st.b st.u c v):s.size=size∧∃vs,SrcOk P γ w st.b st.u s v vs∧DstAt γ w st s v vs:=by
 unfold dstV at hs
 split at hs
 ·simp only[ζa] at hs;subst hs
  have:=hr.nilsl_inv;subst this
  exact⟨rfl,[],T1 _ _ _ _ (.inl rfl),.inl ⟨rfl,.inl rfl⟩⟩
 ·rename_i b off len
  split at hs
  ·rename_i k hk
   split at hs<;>simp at hs
   rename_i hc
   obtain⟨hsz,hlen,hex⟩:=hc
   subst hsz;subst hs
   have hl:((k.rows.drop off).take len).length=len:=by simp;omega
   obtain⟨vs,ho,hsh⟩:=ref_shape (P:=P) h hk hlen hr k.excl
   refine⟨rfl,vs,ho,?_⟩
   rcases hsh with⟨h1,h2⟩|⟨B,o,cs,e,cap,h1,h2,h3,h4,h5,h6,h7,h8,h9⟩
   ·exact .inl ⟨h1,h2⟩
   ·refine .inr ⟨b,k,B,o,cs,e,cap,rfl,hk,h1,h2,h3,by rw[h4,hl],by rw[hl];exact h5,h6,?_,h8,?_⟩
    ·intro j hj
     subst h7
     rw[ζx]
     have hj':j < len * k.size:=by
      have:=List.length_take_le (len * k.size) (cs.toList.drop (o+off * k.size));omega
     rw[if_pos hj',ζy]
     simp
    ·simp only[hl]
     rcases hex with hex|hex
     ·rw[h8 hex];exact Nat.zero_le _
     ·rw[hex];exact h9
  ·simp at hs
 ·simp at hs
theorem Sim.appendVirt{G:Nat→Option (List V)}{γ:Gh}{st:St}{tmps:Array Value}{w:World}(h:Sim G γ st tmps w){d:Nat}{b1 b2:Option Nat}{k:Blk}(hu:st.u d=false)(hk:k.rows=[]) :
  ∃γ',Grow γ w γ' w∧Sim G γ' (((st.delO b1).delO b2).setB d k) tmps w∧L1 γ st.b st.u γ' (((st.delO b1).delO b2).setB d k).b (((st.delO b1).delO b2).setB d k).u:=by
 let γ':Gh:={ loc:=fun b=>if b=d then none else γ.loc b,own:=γ.own,lim:=γ.lim }
 have hb2:∀b,b≠d→(((st.delO b1).delO b2).setB d k).b b=if b1=some b∨b2=some b then none else st.b b:=by
  intro b hb
  simp only[St.setB]
  rw[if_neg hb,delO_b,delO_b]
  by_cases h1:b2=some b
  ·rw[if_pos h1,if_pos (.inr h1)]
  ·rw[if_neg h1]
   by_cases h2:b1=some b
   ·rw[if_pos h2,if_pos (.inl h2)]
   ·rw[if_neg h2,if_neg (by simp[h1,h2])]
 have hu2:∀b,st.u b=true→(((st.delO b1).delO b2).setB d k).u b=true:=by
  intro b hb
  simp only[St.setB]
  split
  ·rfl
  ·cases b1<;>cases b2<;>simp only[St.delO,St.delB]<;>(try split)<;>(try split)<;>first|rfl|exact hb
 have g:Grow γ w γ' w:=⟨rfl,rfl,rfl,ζK _,fun _ _ _ _ h=>h,fun _ _=>ζK _,fun _ _ h=>⟨rfl,h,rfl⟩,fun _ cs _ fz h=>⟨cs,fz,h,rfl,.inl rfl⟩⟩
 have bl:L1 γ st.b st.u γ' (((st.delO b1).delO b2).setB d k).b (((st.delO b1).delO b2).setB d k).u:=by
  refine⟨hu2,fun b hb hn=>?_,fun b k' hk'=>⟨hu2 b (h.u b k' hk'),?_⟩⟩
  ·have:b≠d:=fun e=>by subst e;rw[hu] at hb;simp at hb
   rw[hb2 b this];split
   ·rfl
   ·exact hn
  ·have:b≠d:=fun e=>by subst e;rw[h.fresh_b hu] at hk';simp at hk'
   rw[hb2 b this]
   split
   ·exact .inl rfl
   ·exact .inr ⟨k',hk',rfl,fun _=>rfl,by show (if b=d then none else γ.loc b)=_;rw[if_neg this]⟩
 refine⟨γ',g,⟨?_,fun i=>?_,fun b k' hk'=>?_,fun b k' hk'=>?_,h.g.grow g,h.o⟩,bl⟩
 ·have:(((st.delO b1).delO b2).setB d k).n=st.n:=by cases b1<;>cases b2<;>rfl
  rw[this];exact h.n
 ·have:(((st.delO b1).delO b2).setB d k).t=st.t:=by cases b1<;>cases b2<;>rfl
  rw[this];exact(h.t i).mono g bl
 ·by_cases hbd:b=d
  ·subst hbd
   simp only[St.setB,if_pos] at hk'
   simp only[ζa] at hk';subst hk'
   exact .inl ⟨by simp[γ'],hk⟩
  ·rw[hb2 b hbd] at hk'
   split at hk'
   ·simp at hk'
   ·rcases h.b b k' hk' with⟨v1,v2⟩|hm|⟨hM2,X,o',cs',e',a1,a2,a3,a4,a5,a6,a7,a8⟩
    ·exact .inl ⟨by show (if b=d then none else γ.loc b)=_;rw[if_neg hbd];exact v1,v2⟩
    ·exact .inr (.inl (hm.same (by show (if b=d then none else γ.loc b)=_;rw[if_neg hbd]) (fun X _ q2=>⟨q2,rfl⟩) fun c v hr=>hr.mono g bl))
    ·refine .inr (.inr ⟨hM2,X,o',cs',e',by show (if b=d then none else γ.loc b)=_;rw[if_neg hbd];exact a1,a2,a3,a4,a5,fun i c hc=>?_,a7,a8⟩)
     obtain⟨v,b1,b2,b3,b4⟩:=a6 i c hc
     exact⟨v,b1,b2.mono g bl,b3,b4.mono fun Y hY=>⟨hY,ζK _⟩⟩
 ·by_cases hbd:b=d
  ·subst hbd;simp[St.setB]
  ·rw[hb2 b hbd] at hk'
   split at hk'
   ·simp at hk'
   ·exact hu2 b (h.u b k' hk')
def appendW(P:Program)(look:Nat→Option Blk)(t t2:TypeId)(db:Src→Option Nat)(x y:V):Option (Src×Src×Blk):=
 match P.underlying t,P.underlying t2 with
 | some (.slice e),some (.slice _)=>match P.info? e with
  | some ei=>match dstV look ei.size x with
   | some ds=>match srcV look ei.size (db ds) y with
    | some ss=>if (ds.rows.length+ss.rows.length) * ei.bytes≤140737488355328∧0 < ei.bytes∧(zeroV P e).map List.length=some ei.size then some (ds,ss,⟨ei.size,ds.excl,ds.rows++ss.rows⟩) else none
    | none=>none
   | none=>none
  | none=>none
 | _,_=>none
theorem srcV_apart{look:Nat→Option Blk}{size:Nat}{db:Option Nat}{c:V}{s:Src}(h:srcV look size db c=some s):∀b,db=some b→s.b≠some b:=by
 intro b hb
 unfold srcV at h
 split at h
 ·simp only[ζa] at h;subst h;simp
 ·split at h<;>simp at h
  subst h;simp
 ·split at h
  ·split at h
   ·split at h<;>simp only[ζa] at h
    ·subst h;simp
    ·rename_i hn
     subst h
     rw[hb] at hn
     intro e
     simp only[ζa] at e
     exact hn (by rw[e])
   ·simp at h
  ·simp at h
 ·simp at h
theorem appendV_apart{P:Program}{look:Nat→Option Blk}{t t2:TypeId}{x y:V}{ds ss:Src}{k:Blk}(h:appendV P look t t2 x y=some (ds,ss,k)):∀b,ds.b=some b→ss.b≠some b:=by
 unfold appendV at h
 split at h
 ·split at h
  ·split at h
   ·split at h
    ·rename_i hss
     split at h<;>simp at h
     obtain⟨rfl,rfl,_⟩:=h
     exact srcV_apart hss
    ·simp at h
   ·simp at h
  ·simp at h
 ·simp at h
theorem effO_appendW{P:Program}{G:Nat→Option (List V)}{o:Oper}{st:St}{x y:Operand}{t t2:TypeId}{d:Nat}{cx cy:V}{ds0 ss0:Src}{k0:Blk}(ho:o.op=.call { callee:=.builtin .append,args:=#[x,y],argTypes:=#[t,t2] })
    (hd:o.dst=some d) (hn:d < st.n) (hu:st.u d=false) (hx:Evs G st x cx) (hy:Evs G st y cy) {db:Src→Option Nat} (ha:appendW P st.b t t2 db cx cy=some (ds0,ss0,k0)) (hnn:∀b,ds0.b=some b→ss0.b≠some b) :
    N0 P G o st ((((st.delO ds0.b).delO ss0.b).setB d k0).setT d (.ref d 0 (ds0.rows.length+ss0.rows.length))):=
  H6 fun γ a w hs=>by
    unfold appendW at ha
    split at ha
    · rename_i e e2 ht ht2
      split at ha
      · rename_i ei hi
        split at ha
        · rename_i ds hds
          split at ha
          · rename_i ss hss
            split at ha<;>simp at ha
            rename_i hcond
            obtain⟨rfl,rfl,rfl⟩:=ha
            obtain⟨hbytes,hbpos,hzl⟩:=hcond
            obtain⟨zc,hzc,hzlen⟩:=ζb.1 hzl
            have hM:ds.size < W9:=by
              rw[(dst_shape (P:=P) hs hds (hx γ a w hs)).1,←hzlen];exact(A1 hzc).2
            obtain⟨e1,vd,hdo,hda⟩:=dst_shape (P:=P) hs hds (hx γ a w hs)
            obtain⟨e2',_,vsr,hso⟩:=src_shape (P:=P) hs hss (hy γ a w hs)
            have hne:∀b,ds.b=some b→ss.b≠some b:=hnn
            have pre : execOp a.eval o = (do let v ← Builtin.append_ #[t, t2] o.type #[a.eval x, a.eval y]; pure (.value v)) := by
              have h1:execOp a.eval o=builtin .append #[t,t2] o.type (#[x,y].map fun|.const _=>true|_=>false) (#[x,y].map a.eval):=by
                show (execOp a.eval o)=_;unfold execOp;rw[ho];rfl
              rw[h1];simp[builtin]
            obtain⟨z,hz1,hz2⟩:∃z,ei.zero=some z∧z.cells.size=ei.size:=by
              obtain⟨zv,hr,hcr⟩:=T3 (P:=P) (γ:=γ) (w:=w) (bs:=st.b) (u:=st.u) hzc
              replace hzc:=(A1 hzc).1
              unfold zeroV0 at hzc
              rw[hi] at hzc
              simp only at hzc
              cases hz:ei.zero with
              | none=>rw[hz] at hzc;simp at hzc
              | some z=>
                have:(zeroValue e).run P w=.ok z w:=by simp[zeroValue,typeInfo,hi,hz]
                rw[this] at hr
                simp only[Result.ok.injEq,and_true] at hr
                subst hr
                exact⟨z,rfl,by rw[hcr.1,hzlen]⟩
            have hdl:vd.length=ds.rows.length * ei.size:=by rw[←e1];exact hdo.rd.2.1
            have hsl:vsr.length=ss.rows.length * ei.size:=by rw[←e2'];exact hso.rd.2.1
            have h63:((ds.rows.length+ss.rows.length:Nat):Int)≤9223372036854775807:=by
              have:ds.rows.length+ss.rows.length≤(ds.rows.length+ss.rows.length) * ei.bytes:=Nat.le_mul_of_pos_right _ hbpos
              omega
            have hone:∀v,v∈vsr→v.oneCell'=true:=fun v hv=>by
              obtain⟨j,hj,rfl⟩:=List.getElem_of_mem hv
              have fl:ss.rows.flatten.length=ss.rows.length * ss.size:=by
                rw[List.length_flatten]
                have:ss.rows.map List.length=List.replicate ss.rows.length ss.size:=List.eq_replicate_iff.2 ⟨by simp,fun x hx=>by obtain⟨r,hr,rfl⟩:=ζt.1 hx;exact hso.rd.1 r hr⟩
                rw[this];simp
              have hjl:j < ss.rows.flatten.length:=by rw[fl,e2'];omega
              obtain⟨v,a1,_,a3,_⟩:=hso.rd.2.2 j _ (ζd hjl)
              rw[ζd hj] at a1
              simp only[ζa] at a1
              rw[a1];exact a3
            obtain⟨base,cap,hv⟩:∃base cap,a.eval x=.slice base ds.rows.length cap:=by
              rcases hda with⟨h0,h1|⟨B,h1⟩⟩|⟨b,k,B,o',cs,e',cap,_,_,_,_,_,h1,_⟩
              · exact⟨none,0,by rw[h1,h0];rfl⟩
              · exact⟨_,0,by rw[h1,h0];rfl⟩
              · exact⟨_,cap,h1⟩
            have hlenS:=hso.len
            have hfS:=hso.first
            have hfD:=hdo.first
            rw[e2'] at hfS
            rw[e1,hv] at hfD
            rw[show (⟨ei.size,ds.excl,ds.rows++ss.rows⟩:Blk)=⟨ds.size,ds.excl,ds.rows++ss.rows⟩ by rw[e1]]
            by_cases hg:cap < ds.rows.length+ss.rows.length
            ·
              have hrun:=run_append_grow_any (P:=P) (w:=w) t t2 o.type e e2 ei z ht ht2 hi hz1 base ds.rows.length cap ss.rows.length (a.eval y) vd vsr hlenS hfD hfS hg h63 (growslice_fits hg hbytes)
              let N:=grownCap w (ds.rows.length+ss.rows.length) cap e
              have hN:ds.rows.length+ss.rows.length≤N:=by
                show _≤(Question.appendCap _ _ _).cut _
                simp only[Question.cut];omega
              let cs:Array Value:=vd.toArray++vsr.toArray++Builtin.zeroCells z.cells (N - (ds.rows.length+ss.rows.length))
              have hzc:(Builtin.zeroCells z.cells (N - (ds.rows.length+ss.rows.length))).size=(N - (ds.rows.length+ss.rows.length)) * ei.size:=by simp[Builtin.zeroCells,hz2]
              have hcs:cs.size=N * ei.size:=by
                simp only[cs,Array.size_append,hzc,List.size_toArray,hdl,hsl]
                rw[←ξp,←ξp]
                congr 1;omega
              have hh:(w.drew.alloc (.cells cs e)).heap=w.heap.push (.cells cs e):=rfl
              have gp:Grow γ w (γ.add d w.heap.size) (w.drew.alloc (.cells cs e)):=Grow.push hh ⟨rfl,rfl,rfl⟩ d
              have g:Grow γ w (γ.move ds ss d w.heap.size 0 0) (w.drew.alloc (.cells cs e)):=by
                refine⟨gp.os,gp.tape,gp.output,gp.size,gp.imm,gp.lim,fun B hB ho=>?_,gp.room⟩
                obtain⟨q1,q2,q3⟩:=gp.free B hB ho
                refine⟨q1,?_,q3⟩
                simp only[Gh.move]
                rw[if_neg (by omega),ho];rfl
              have hlt:∀X t,γ.own X=some t→X≠w.heap.size:=fun X t hX=>by have:=hs.o X t hX;omega
              have hroomcs:(ds.rows.length+ss.rows.length) * ei.size≤cs.size:=by rw[hcs];exact ξl _ hN
              have key:=hs.appendTo (lim:=0) (B:=w.heap.size) (o:=0) (cs:=cs) (e:=e) (w1:=w.drew.alloc (.cells cs e)) hM hu hdo.rd hso.rd (e1.trans e2'.symm) hne (.of (by rw[hh];simp)) (by rw[e1,ξv];exact hroomcs)
                (fun j hj=>by
                  simp only[cs,ξv]
                  rw[Array.getElem?_append_left (by simp;omega)]
                  simp) g
                (fun b k X o' _ _ _ _ hX=>⟨hlt X _ hX,D7 hh (hs.o X _ hX)⟩) (by rw[hh];simp) (fun X t hX=>by rw[hh];have:=hs.o X t hX;simp;omega) (fun _=>rfl) (Nat.zero_le _) (fun X b i j hX=>hlt X _ hX)
              refine⟨_,_,_,by rw[pre,ζT,hv,hrun,ζQ];rfl,g,key.2.pin,?_⟩
              have hb:=key.1.put (a:=a) (dst:=some d) (c:=.ref d 0 (ds.rows.length+ss.rows.length)) (v:=.slice (some ⟨w.heap.size,0,none⟩) (ds.rows.length+ss.rows.length) N)
                (by have : (((st.delO ds.b).delO ss.b).setB d ⟨ds.size, ds.excl, ds.rows ++ ss.rows⟩).n = st.n := by cases ds.b <;> cases ss.b <;> rfl
                    simpa[H2,this] using hn) (by
                have:=Rep.ref (γ:=γ.move ds ss d w.heap.size 0 0) (w:=w.drew.alloc (.cells cs e)) (bs:=(((st.delO ds.b).delO ss.b).setB d ⟨ds.size,ds.excl,ds.rows++ss.rows⟩).b) (u:=(((st.delO ds.b).delO ss.b).setB d ⟨ds.size,ds.excl,ds.rows++ss.rows⟩).u)
                  d 0 (ds.rows.length+ss.rows.length) w.heap.size 0 N ⟨ds.size,ds.excl,ds.rows++ss.rows⟩ (by simp[St.setB]) (by simp[Gh.move]) (by simp) hN ⟨cs,e,(0,0),by rw[hh];simp,by rw[hcs,e1];simp⟩ hM (by simpa using hN)
                simpa using this)
              rw[hd];exact hb
            ·
              rcases hda with⟨h0,hsh⟩|⟨b,k,B,o',cs,e',cap',hdb,hk,hloc,hown,hheap,hval,hcap,hroom,hcell,hl0,hl1⟩
              ·
                have hcap0:cap=0:=by
                  rcases hsh with h1|⟨B',h1⟩<;>(rw[hv] at h1;simp only[Value.slice.injEq] at h1;exact h1.2.2)
                have hss0:ss.rows=[]:=ζS.1 (by omega)
                have hds0:ds.rows.length=0:=by rw[h0];rfl
                have hrun:=run_append_none (P:=P) (w:=w) t t2 o.type e e2 ei ht ht2 hi base (a.eval y) cap (fun w1=>by have:=hlenS w1;rw[hss0] at this;exact this) (fun w1 hw=>by
                  have:=hfS w1 hw
                  rw[hss0] at this
                  have hv0:vsr=[]:=ζS.1 (by rw[hsl,hss0];simp)
                  rw[hv0] at this;exact this)
                obtain⟨γ',g,hs',bl⟩:=hs.appendVirt (d:=d) (b1:=ds.b) (b2:=ss.b) (k:=⟨ds.size,ds.excl,ds.rows++ss.rows⟩) hu (by rw[h0,hss0];rfl)
                refine⟨_,_,γ',by rw[pre,ζT,hv,hds0,hrun,ζQ];rfl,g,bl.pin,?_⟩
                have hb:=hs'.put (a:=a) (dst:=some d) (c:=.ref d 0 0) (v:=.slice base 0 cap)
                  (by have : (((st.delO ds.b).delO ss.b).setB d ⟨ds.size, ds.excl, ds.rows ++ ss.rows⟩).n = st.n := by cases ds.b <;> cases ss.b <;> rfl
                      simpa[H2,this] using hn) (by
                  rw[hcap0]
                  rcases hsh with h1|⟨B',h1⟩<;>(rw[hv] at h1;simp only[Value.slice.injEq] at h1;rw[h1.1])
                  · exact .refN d 0 ⟨ds.size,ds.excl,ds.rows++ss.rows⟩ (by simp[St.setB]) hM (by simp_all)
                  · exact .refE d 0 B' ⟨ds.size,ds.excl,ds.rows++ss.rows⟩ (by simp[St.setB]) hM (by simp_all))
                rw[hd,show ds.rows.length+ss.rows.length=0 by rw[hds0,hss0];rfl,←hds0]
                rw[hds0];exact hb
              ·
                rw[hv] at hval
                simp only[Value.slice.injEq,true_and] at hval
                obtain⟨rfl,rfl⟩:=hval
                rw[e1] at hroom hcell hl1 hv
                have hge:ds.rows.length+ss.rows.length≤cap:=by omega
                have hr1:(ds.off+(ds.rows.length+ss.rows.length)) * ei.size≤(ds.off+cap) * ei.size:=ξl _ (by omega)
                simp only[ξp] at hr1 hroom hl1
                have hroom2:o'+ds.off * ei.size+ds.rows.length * ei.size+vsr.length≤cs.size:=by rw[hsl];omega
                have hrun:=run_append_in_any (P:=P) (w:=w) t t2 o.type e e2 ei ht ht2 hi B (o'+ds.off * ei.size) ds.rows.length cap ss.rows.length (a.eval y) vsr cs e' hlenS hfS hge hheap hone hroom2
                obtain⟨s1,s2⟩:=F6 vsr (o'+ds.off * ei.size+ds.rows.length * ei.size) cs hroom2
                have hBlt:=hs.o B _ hown
                have gp:Grow γ w γ (World.setBlk w B (K6 cs (o'+ds.off * ei.size+ds.rows.length * ei.size) vsr) e'):=Grow.setBlk hheap s1 (fun j v hj hc=>by
                  rw[s2,if_neg (by omega)];exact hc) hown
                have g:Grow γ w (γ.move ds ss d B (o'+ds.off * ei.size) (γ.lim B)) (World.setBlk w B (K6 cs (o'+ds.off * ei.size+ds.rows.length * ei.size) vsr) e'):=by
                  refine⟨gp.os,gp.tape,gp.output,gp.size,gp.imm,fun X hX=>?_,fun X hX ho=>?_,fun X cs2 e2 fz hc=>by
                    obtain⟨cs3,fz',q1,q2,q3⟩:=gp.room X cs2 e2 fz hc
                    refine⟨cs3,fz',q1,q2,q3.imp id fun q=>?_⟩
                    simp only[Gh.move];split
                    · rename_i hXB;rw[←hXB];exact q
                    · exact q⟩
                  · simp only[Gh.move];split
                    · rename_i hXB;rw[hXB];exact ζK _
                    · exact ζK _
                  · obtain⟨q1,q2,q3⟩:=gp.free X hX ho
                    have hXB:X≠B:=fun e=>by subst e;rw[hown] at ho;simp at ho
                    refine⟨q1,?_,?_⟩
                    · simp only[Gh.move];rw[if_neg hXB,ho];rfl
                    · simp only[Gh.move];rw[if_neg hXB]
                have key:=hs.appendTo (lim:=γ.lim B) (B:=B) (o:=o'+ds.off * ei.size) (cs:=K6 cs (o'+ds.off * ei.size+ds.rows.length * ei.size) vsr) (e:=e') hM hu hdo.rd hso.rd (e1.trans e2'.symm) hne (hheap.set s1) (by rw[s1,e1,ξp];omega)
                  (fun j hj=>by
                    rw[s2]
                    by_cases hjd:j < vd.length
                    · rw[if_neg (by omega),ζl hjd];exact hcell j hjd
                    · rw[if_pos (by omega),ζm (by omega)]
                      congr 1;omega) g
                  (fun b' k' X o2 hk' hnb _ _ hX=>by
                    have hXB:X≠B:=fun e=>by
                      subst e;rw[hown] at hX;simp only[ζa,H4.blk.injEq] at hX
                      exact hnb (by rw[hdb,hX])
                    exact⟨hXB,T2 hXB⟩) (by simpa[World.setBlk] using hBlt) (fun X t hX=>by simpa[World.setBlk] using hs.o X t hX) hl0 (by rw[e1,ξp];omega)
                  (fun X b' i j hX e=>by subst e;rw[hown] at hX;simp at hX)
                refine⟨_,_,_,by rw[pre,ζT,hv,hrun,ζQ];rfl,g,key.2.pin,?_⟩
                have hb:=key.1.put (a:=a) (dst:=some d) (c:=.ref d 0 (ds.rows.length+ss.rows.length)) (v:=.slice (some ⟨B,o'+ds.off * ei.size,none⟩) (ds.rows.length+ss.rows.length) cap)
                  (by have : (((st.delO ds.b).delO ss.b).setB d ⟨ds.size, ds.excl, ds.rows ++ ss.rows⟩).n = st.n := by cases ds.b <;> cases ss.b <;> rfl
                      simpa[H2,this] using hn) (by
                  have:=Rep.ref (γ:=γ.move ds ss d B (o'+ds.off * ei.size) (γ.lim B)) (w:=World.setBlk w B (K6 cs (o'+ds.off * ei.size+ds.rows.length * ei.size) vsr) e') (bs:=(((st.delO ds.b).delO ss.b).setB d ⟨ds.size,ds.excl,ds.rows++ss.rows⟩).b) (u:=(((st.delO ds.b).delO ss.b).setB d ⟨ds.size,ds.excl,ds.rows++ss.rows⟩).u)
                    d 0 (ds.rows.length+ss.rows.length) B (o'+ds.off * ei.size) cap ⟨ds.size,ds.excl,ds.rows++ss.rows⟩ (by simp[St.setB]) (by simp[Gh.move]) (by simp) hge ((hheap.set s1).room (by rw[s1,e1];simp only[ξv];omega)) hM (by simpa using hge)
                  simpa using this)
                rw[hd];exact hb
          · simp at ha
        · simp at ha
      · simp at ha
    · simp at ha
theorem effO_append'{P:Program}{G:Nat→Option (List V)}{o:Oper}{st:St}{x y:Operand}{t t2:TypeId}{d:Nat}{cx cy:V}{ds0 ss0:Src}{k0:Blk}(ho:o.op=.call { callee:=.builtin .append,args:=#[x,y],argTypes:=#[t,t2] })
  (hd:o.dst=some d) (hn:d < st.n) (hu:st.u d=false) (hx:Evs G st x cx) (hy:Evs G st y cy) (ha:appendV P st.b t t2 cx cy=some (ds0,ss0,k0)) :
  N0 P G o st ((((st.delO ds0.b).delO ss0.b).setB d k0).setT d (.ref d 0 (ds0.rows.length+ss0.rows.length))):=
 effO_appendW (db:=fun ds=>ds.b) ho hd hn hu hx hy ha (appendV_apart ha)
theorem effO_append{P:Program}{G:Nat→Option (List V)}{o:Oper}{st:St}{x y:Operand}{t t2:TypeId}{d:Nat}{cx cy:V}{ds0 ss0:Src}{k0:Blk}(ho:o.op=.call { callee:=.builtin .append,args:=#[x,y],argTypes:=#[t,t2] })
  (hd:o.dst=some d) (hn:d < st.n) (hu:st.u d=false) (hx:st.ev G x=some cx) (hy:st.ev G y=some cy) (ha:appendV P st.b t t2 cx cy=some (ds0,ss0,k0)) :
  N0 P G o st ((((st.delO ds0.b).delO ss0.b).setB d k0).setT d (.ref d 0 (ds0.rows.length+ss0.rows.length))):=
 effO_append' ho hd hn hu (fun _ _ _ hs=>hs.ev hx) (fun _ _ _ hs=>hs.ev hy) ha
mutual
def okV(u:Nat→Bool):V→Bool
 | .ref b _ _=>u b
 | .ptr b _ _=>u b
 | .mp b=>u b
 | .fn _ a c=>okL u a&&okL u c
 | .agg l=>okL u l
 | .tup l=>okL u l
 | _=>true
def okL(u:Nat→Bool):List V→Bool
 | []=>true
 | c :: l=>okV u c&&okL u l
end
theorem P3{u:Nat→Bool}:∀{l:List V},okL u l=true→∀{i:Nat} {c:V},l[i]?=some c→okV u c=true
 | [],_,i,c,h=>by simp at h
 | x :: l,hl,i,c,h=>by
  simp only[okL,ζA] at hl
  cases i with
  | zero=>simp at h;subst h;exact hl.1
  | succ i=>exact P3 hl.2 (by simpa using h)
theorem Rep.shrink{γ:Gh}{w:World}{bs bs':Nat→Option Blk}{u u':Nat→Bool}(hb:∀b,bs' b=none∨bs' b=bs b){c:V}{v:Value}(h:Rep γ w bs u c v):okV u' c=true→Rep γ w bs' u' c v:=by
 induction h with
 | data h=>exact fun _=>.data h
 | undef v=>exact fun _=>.undef v
 | ref b off len B o cap k h1 h2 h3 h4 h5 h6 h7=>
  intro hu
  rcases hb b with hn|he
  ·exact .deadRef b off len _ hn (by simpa[okV] using hu) rfl
  ·exact .ref b off len B o cap k (he.trans h1) h2 h3 h4 h5 h6 h7
 | refE b off B k h1 h6 h2=>
  intro hu
  rcases hb b with hn|he
  ·exact .deadRef b off 0 _ hn (by simpa[okV] using hu) rfl
  ·exact .refE b off B k (he.trans h1) h6 h2
 | refN b off k h1 h6 h2=>
  intro hu
  rcases hb b with hn|he
  ·exact .deadRef b off 0 _ hn (by simpa[okV] using hu) rfl
  ·exact .refN b off k (he.trans h1) h6 h2
 | deadRef b off len v h1 h2 h3=>
  intro hu
  refine .deadRef b off len v ?_ (by simpa[okV] using hu) h3
  rcases hb b with hn|he
  ·exact hn
  ·rw[he];exact h1
 | ptr b i off B o k h1 h2 h3=>
  intro hu
  rcases hb b with hn|he
  ·exact .deadPtr b i off _ hn (by simpa[okV] using hu) rfl
  ·exact .ptr b i off B o k (he.trans h1) h2 h3
 | mp b B k h1 h2 h3=>
  intro hu
  rcases hb b with hn|he
  ·exact .deadMp b _ hn (by simpa[okV] using hu) rfl
  ·exact .mp b B k (he.trans h1) h2 h3
 | deadMp b v h1 h2 h3=>
  intro hu
  refine .deadMp b v ?_ (by simpa[okV] using hu) h3
  rcases hb b with hn|he
  ·exact hn
  ·rw[he];exact h1
 | deadPtr b i off v h1 h2 h3=>
  intro hu
  refine .deadPtr b i off v ?_ (by simpa[okV] using hu) h3
  rcases hb b with hn|he
  ·exact hn
  ·rw[he];exact h1
 | fn f first captured fs cs h1 h2 _ _ ih1 ih2=>
  intro hu
  simp only[okV,ζA] at hu
  exact .fn f first captured fs cs h1 h2 (fun i c v hc hv=>ih1 i c v hc hv (P3 hu.1 hc)) (fun i c v hc hv=>ih2 i c v hc hv (P3 hu.2 hc))
 | agg cells vs h1 _ ih=>intro hu;exact .agg cells vs h1 fun i c v hc hv=>ih i c v hc hv (P3 (by simpa[okV] using hu) hc)
 | tup cells vs h1 _ ih=>intro hu;exact .tup cells vs h1 fun i c v hc hv=>ih i c v hc hv (P3 (by simpa[okV] using hu) hc)
structure G3(st st':St):Prop where
 n:st'.n=st.n
 t:∀i,st'.t i=.undef∨(st'.t i=st.t i∧okV st'.u (st.t i)=true)
 b:∀b,st'.b b=none∨(st'.b b=st.b b∧∀k,st.b b=some k→st'.u b=true∧∀r,r∈k.rows→∀c,c∈r→okV st'.u c=true)
 p:∀b,R4 b=true→st'.u b=true
theorem G3.sim{G:Nat→Option (List V)}{γ:Gh}{st st':St}{tmps:Array Value}{w:World}(f:G3 st st')(h:Sim G γ st tmps w):Sim G γ st' tmps w where
 n:=by rw[f.n];exact h.n
 t:=fun i=>by
  rcases f.t i with e|⟨e,hk⟩
  ·rw[e];exact .undef _
  ·rw[e];exact(h.t i).shrink (fun b=>(f.b b).imp id And.left) hk
 b:=fun b k hk=>by
  rcases f.b b with e|⟨e,hr⟩
  ·rw[e] at hk;simp at hk
  ·rw[e] at hk
   rcases h.b b k hk with h0|hm|⟨hM,B,o,cs,e',h1,h2,h3,h4,h5,h6,h7,h8⟩
   ·exact .inl h0
   ·obtain⟨hM,B,es,clock,h1,h2,h3,h4,h5,h6,h7⟩:=hm
    refine .inr (.inl ⟨hM,B,es,clock,h1,h2,h3,h4,h5,h6,fun i c hc=>?_⟩)
    obtain⟨v,a1,a2,a3⟩:=h7 i c hc
    refine⟨v,a1,a2.shrink (fun b=>(f.b b).imp id And.left) ?_,a3⟩
    obtain⟨r,hr1,hr2⟩:=ξm.1 (ζi hc)
    exact(hr k hk).2 r hr1 c hr2
   ·refine .inr (.inr ⟨hM,B,o,cs,e',h1,h2,h3,h4,h5,fun i c hc=>?_,h7,h8⟩)
    obtain⟨v,a1,a2,a3,a4⟩:=h6 i c hc
    refine⟨v,a1,a2.shrink (fun b=>(f.b b).imp id And.left) ?_,a3,a4⟩
    obtain⟨r,hr1,hr2⟩:=ξm.1 (ζi hc)
    exact(hr k hk).2 r hr1 c hr2
 u:=fun b k hk=>by
  rcases f.b b with e|⟨e,hr⟩
  ·rw[e] at hk;simp at hk
  ·rw[e] at hk;exact(hr k hk).1
 g:=h.g
 o:=h.o
theorem G3.pin{G:Nat→Option (List V)}{γ:Gh}{st st':St}{tmps:Array Value}{w:World}(f:G3 st st')(_:Sim G γ st tmps w):Pin γ st.b st.u γ st'.b st'.u:=fun b hb=>by
 refine⟨fun _=>f.p b hb,fun _ hn=>?_,fun k hk=>⟨f.p b hb,?_⟩⟩
 ·rcases f.b b with e|⟨e,_⟩
  ·exact e
  ·rw[e];exact hn
 ·rcases f.b b with e|⟨e,_⟩
  ·exact .inl e
  ·exact .inr ⟨k,by rw[e];exact hk,rfl,fun _=>rfl,rfl⟩
def G0(n:Nat)(ts:List (Nat×V))(bs:List (Nat×Blk))(us:List Nat):St where
 n:=n
 t:=fun i=>match ts.find? (fun p=>p.1==i) with|some p=>p.2|none=>.undef
 b:=fun i=>match bs.find? (fun p=>p.1==i) with|some p=>some p.2|none=>none
 u:=fun i=>us.contains i || uTop i
theorem forget_to{st:St}{n:Nat}{ts:List (Nat×V)}{bs:List (Nat×Blk)}{us:List Nat}(hn:n=st.n)(ht:ts.map (fun p=>st.t p.1)=ts.map (·.2))(hto:ts.all (fun p=>okV (G0 n ts bs us).u p.2)=true)
  (hb:bs.map (fun p=>st.b p.1)=bs.map (fun p=>some p.2)) (hbu:bs.all (fun p=>(G0 n ts bs us).u p.1)=true) (hbo:∀p,p∈bs→∀r,r∈p.2.rows→∀c,c∈r→okV (G0 n ts bs us).u c=true):G3 st (G0 n ts bs us) where
 n:=hn
 t:=fun i=>by
  show (match ts.find? (fun p=>p.1==i) with|some p=>p.2|none=>V.undef)=.undef∨_
  cases hf:ts.find? (fun p=>p.1==i) with
  | none=>exact .inl rfl
  | some p=>
   refine .inr ?_
   have hm:=ξh hf
   have hi:p.1=i:=by simpa using List.find?_some hf
   have e:st.t p.1=p.2:=List.map_inj_left.1 ht p hm
   have ho:okV (G0 n ts bs us).u p.2=true:=ζE.1 hto p hm
   refine⟨?_,?_⟩
   ·show (match ts.find? (fun p=>p.1==i) with|some p=>p.2|none=>V.undef)=st.t i
    rw[hf,←hi,e]
   ·rw[←hi,e];exact ho
 b:=fun i=>by
  show (match bs.find? (fun p=>p.1==i) with|some p=>some p.2|none=>none)=none∨_
  cases hf:bs.find? (fun p=>p.1==i) with
  | none=>exact .inl rfl
  | some p=>
   refine .inr ?_
   have hm:=ξh hf
   have hi:p.1=i:=by simpa using List.find?_some hf
   have e:st.b p.1=some p.2:=List.map_inj_left.1 hb p hm
   refine⟨?_,fun k hk=>?_⟩
   ·show (match bs.find? (fun p=>p.1==i) with|some p=>some p.2|none=>none)=st.b i
    rw[hf,←hi,e]
   ·rw[←hi,e] at hk
    simp only[ζa] at hk;subst hk
    exact⟨by rw[←hi];exact ζE.1 hbu p hm,hbo p hm⟩
 p:=fun b hb=>by simp[G0,uTop,uPin_le hb]
end Go.EV
