/- The value-level logic: new variables and slice literals. The value-level logic: a store into a local block. The value-level logic: code in whatever f ..; no conditions. -/
import Derived.Test.YtjdieimefebnfaaGreatDoorK1
import Derived.OrdersIn
import Derived.Scope
import Derived.Orders
import Derived.KernelRfl
set_option linter.unusedVariables false
set_option linter.unusedSimpArgs false
namespace Go.EV
open Go
theorem LZ{v:Value}{c:V}(h:WI v=some c):c.Zy=true/\c.QN=false:=by
 unfold WI at h
 split at h<;>simp at h<;>subst h<;>exact⟨rfl,rfl⟩
theorem YB:∀{l:List Value} {cs:List V},l.mapM WI=some cs->∀c,c∈cs->c.Zy=true/\c.QN=false
 | [],cs,h,c,hc=>by grind
 | x :: l,cs,h,c,hc=>by
  simp only[List.mapM_cons,Option.bind_eq_bind,zV,Option.pure_def,zy] at h
  obtain⟨c',h1,cs',h2,rfl⟩:=h
  rcases zO.1 hc with rfl|hc
  ·exact LZ h1
  ·exact YB h2 c hc
theorem KG{P:Program}{t:TypeId}{cs:List V}(h:zeroV P t=some cs):∀c,c∈cs->c.Zy=true/\c.QN=false:=by
 replace h:=(O3 h).1
 unfold OY at h
 split at h
 ·split at h
  ·exact YB h
  ·simp at h
 ·simp at h
theorem Qs.Pp{G:ze}{γ:Gh}{st:St}{a:Act}{w:World}(h:Qs G γ st a.tmps w){d:Nat}{cells:List V}{vs:Array Value}{e:TypeId}(hM:cells.length < Y8)(hu:st.u d=false)(hd:d < st.n)
  (hr:U4 γ w st.b st.u cells vs) (hc:∀c,c∈cells->c.Zy=true/\c.QN=false) :
  ∃γ',Qa γ w γ' { w with heap:=w.heap.push (.cells vs e) }/\Zr γ st.b st.u γ' (st.Qh d ⟨cells.length,true,[cells]⟩).b (st.Qh d ⟨cells.length,true,[cells]⟩).u/\
   Qs G γ' ((st.Qh d ⟨cells.length,true,[cells]⟩).QG d (.ptr d 0 0)) (a.put (some d) (.pointer (some ⟨w.heap.size,0,none⟩))).tmps { w with heap:=w.heap.push (.cells vs e) }:=by
 have key:=h.Ay (d:=d) (size:=cells.length) (rows:=[cells]) (cs:=vs) (e:=e) (w1:={ w with heap:=w.heap.push (.cells vs e) }) hM hu rfl ⟨rfl,rfl,rfl⟩ (by simp) (by simp[hr.1]) (λi c hi=>by
  simp only[List.flatten_cons,List.flatten_nil,wz] at hi
  have hlt:i < vs.size:=by rw[hr.1];grind
  have hv:vs[i]?=some vs[i]:=(by grind)
  obtain⟨c1,c2⟩:=hc c (zQ hi)
  exact⟨vs[i],hv,hr.2 i c _ hi hv,(hr.2 i c _ hi hv).Zt c1,c2⟩)
 refine⟨_,key.2.1,key.2.2.JH,?_⟩
 have hp:=key.1.put (a:=a) (dst:=some d) (c:=.ptr d 0 0) (v:=.pointer (some ⟨w.heap.size,0,none⟩)) (by simpa[H7,St.Qh] using hd) (by
  have:=Qu.ptr (γ:=γ.add d w.heap.size) (w:={ w with heap:=w.heap.push (.cells vs e) }) (u:=(st.Qh d ⟨cells.length,true,[cells]⟩).u) (bs:=(st.Qh d ⟨cells.length,true,[cells]⟩).b) d 0 0 w.heap.size 0 ⟨cells.length,true,[cells]⟩ (by simp[St.Qh]) (by simp[Gh.add]) hM
  grind)
 exact hp
theorem AJ{P:Program}{G:ze}{o:Oper}{st:St}{elem:TypeId}{d:Nat}{cs:List V}(ho:o.op=.alloc elem)(hd:o.dst=some d)(hn:d < st.n)(hu:st.u d=false)(hz:zeroV P elem=some cs) :
  I2 P G o st ((st.Qh d ⟨cs.length,true,[cs]⟩).QG d (.ptr d 0 0)):=
 M1 λγ a w hs=>by
  obtain⟨z,hz1,hz2⟩:=JJ (P:=P) (γ:=γ) (w:=w) (bs:=st.b) (u:=st.u) hz
  obtain⟨γ',g,pn,hs'⟩:=hs.Pp (e:=elem) (O3 hz).2 hu hn hz2 (KG hz)
  refine⟨_,_,γ',?_,g,pn,by rw[hd];exact hs'⟩
  simp[execOp,ho,Instr.alloc,hz1,newVar,newRow]
def NY(c:V):Option (List V):=OG <|
 match c.cellsOf with
 | some cs=>if cs.all V.Zy then some (cs.map V.strip) else none
 | none=>none
theorem KT{c:V}(h:c.Zy=true):c.strip.Zy=true:=by cases c<;>simp_all [V.Zy,V.strip]
theorem U4.strip{γ:Gh}{w:World}{bs:zg}{u:zh}{cs:List V}{vs:Array Value}(h:U4 γ w bs u cs vs):U4 γ w bs u (cs.map V.strip) vs:=by
 refine⟨by simpa using h.1,λi c v hc hv=>?_⟩
 rw[zX,zE] at hc
 obtain⟨c',h1,rfl⟩:=hc
 exact(h.2 i c' v h1 hv).strip
theorem Uq{c:V}{cs:List V}(h:NY c=some cs){γ:Gh}{w:World}{bs:zg}{u:zh}{v:Value}(hr:Qu γ w bs u c v) :
  U4 γ w bs u cs v.cells/\∀c,c∈cs->c.Zy=true/\c.QN=false:=by
 replace h:=(O3 h).1
 split at h
 ·rename_i cs0 h0
  split at h<;>simp at h
  rename_i ha
  subst h
  refine⟨(hr.hZ h0).strip,λc hc=>?_⟩
  obtain⟨c',h1,rfl⟩:=zH.1 hc
  grind [KT,List.all_eq_true,JZ]
 ·simp at h
theorem uO{P:Program}{G:ze}{o:Oper}{st:St}{elem:TypeId}{x:Operand}{d:Nat}{c:V}{cs:List V}(ho:o.op=.box elem x)(hd:o.dst=some d)(hn:d < st.n)(hu:st.u d=false)
  (hx:st.ev G x=some c) (hc:NY c=some cs):I2 P G o st ((st.Qh d ⟨cs.length,true,[cs]⟩).QG d (.ptr d 0 0)):=
 M1 λγ a w hs=>by
  obtain⟨h1,h2⟩:=Uq hc (hs.ev hx)
  obtain⟨γ',g,pn,hs'⟩:=hs.Pp (e:=elem) (O3 hc).2 hu hn h1 h2
  refine⟨_,_,γ',?_,g,pn,by rw[hd];exact hs'⟩
  simp[execOp,ho,Instr.box,newVar,newRow]
def chunk(s:Nat):Nat->List V->List (List V)
 | 0,_=>[]
 | n+1,l=>l.take s :: chunk s n (l.drop s)
theorem AD(s:Nat):∀(n:Nat) (l:List V),l.length=n * s->(chunk s n l).flatten=l/\(chunk s n l).length=n/\∀r,r∈chunk s n l->r.length=s
 | 0,l,h=>by
  have:l=[]:=wY.1 (by simpa using h)
  subst this;exact⟨rfl,rfl,λr hr=>by simp[chunk] at hr⟩
 | n+1,l,h=>by
  have hl:l.length=n * s+s:=by grind
  obtain⟨h1,h2,h3⟩:=AD s n (l.drop s) (by simp[hl])
  refine⟨by simp[chunk,h1],by simp[chunk,h2],λr hr=>?_⟩
  simp only[chunk,zO] at hr
  grind
def Xy(z:List V)(n:Nat):List V:=(List.range n).map λi=>z.getD (i % z.length) .undef
theorem Rj{γ:Gh}{w:World}{bs:zg}{u:zh}{z:List V}{zv:Array Value}(h:U4 γ w bs u z zv)(n:Nat) :
  U4 γ w bs u (Xy z n) ((Array.range n).map (zv[· % zv.size]!)):=by
 refine⟨by simp[Xy],λi c v hc hv=>?_⟩
 simp only[Xy,zX,zE] at hc
 obtain⟨j,hj,rfl⟩:=hc
 have hlt:i < n:=by
  grind
 have hji:j=i:=by
  grind
 subst hji
 simp only[Array.getElem?_map,zE] at hv
 obtain⟨k,hk,rfl⟩:=hv
 have hkj:k=j:=by
  grind
 subst hkj
 rw[<-h.1]
 by_cases hz:k % zv.size < zv.size
 ·have h1:z[k % zv.size]?=some (z[k % zv.size]'(by rw[<-h.1];exact hz)):=wd _
  have h2:zv[k % zv.size]?=some (zv[k % zv.size]):=(by grind)
  rw[getElem!_pos zv _ hz]
  have:z.getD (k % zv.size) .undef=z[k % zv.size]'(by grind):=by grind
  rw[this]
  exact h.2 _ _ _ h1 h2
 ·have:z.getD (k % zv.size) .undef=.undef:=by
   rw[wv,wZ (by rw[<-h.1];omega)];rfl
  rw[this]
  exact .undef _
def ZM(P:Program)(t:TypeId)(n:Nat)(parts:List (Nat×V)):Option Qi:=
 match P.underlying t with
 | some (.slice e)=>match P.info? e,zeroV P e with
  | some ei,some z=>if n * ei.size<=16777216/\ei.size < Y8 then
    match AQ (λi=>some (i * ei.size,ei.size)) (if n * ei.size=0 then [] else Xy z (n * ei.size)) parts with
    | some out=>if out.all V.Zy&&out.length==n * ei.size then some ⟨ei.size,true,chunk ei.size n (out.map V.strip)⟩ else none
    | none=>none
   else none
  | _,_=>none
 | _=>none
theorem JP{P:Program}{G:ze}{o:Oper}{st:St}{t:TypeId}{n:Nat}{ps:Array (Nat×Operand)}{d:Nat}{parts:List (Nat×V)}{k:Qi}(ho:o.op=.buildSlice t n ps)(hd:o.dst=some d)(hn:d < st.n)(hu:st.u d=false)
  (hx:∀(γ:Gh) (a:Act) (w:World),Qs G γ st a.tmps w->ps.toList.length=parts.length/\∀(j:Nat) (p:Nat×V) (x:Nat×Value),parts[j]?=some p->(ps.toList.map λy=>(y.1,a.eval y.2))[j]?=some x->p.1=x.1/\Qu γ w st.b st.u p.2 x.2) (hk:ZM P t n parts=some k):I2 P G o st ((st.Qh d k).QG d (.ref d 0 n)):=
 M1 λγ a w hs=>by
  unfold ZM at hk
  split at hk
  ·rename_i e hut
   split at hk
   ·rename_i ei z hi hz
    split at hk
    ·rename_i hsmall
     obtain⟨hsmall,hM⟩:=hsmall
     split at hk
     ·rename_i out hf
      split at hk<;>simp at hk
      rename_i hall
      subst hk
      simp only[zD,beq_iff_eq] at hall
      obtain⟨hall,hlen⟩:=hall
      obtain⟨zv,hz1,hz2⟩:=JJ (P:=P) (γ:=γ) (w:=w) (bs:=st.b) (u:=st.u) hz
      obtain⟨l,hp⟩:=hx γ a w hs
      have hp':∀(j:Nat) (p:Nat×V) (x:Nat×Value),parts[j]?=some p->(ps.map λ(i,x)=>(i,a.eval x)).toList[j]?=some x->p.1=x.1/\Qu γ w st.b st.u p.2 x.2:=by
       grind
      have hcr:U4 γ w st.b st.u (if n * ei.size=0 then [] else Xy z (n * ei.size)) ((Array.range (n * ei.size)).map ((if n * ei.size=0 then #[] else zv.cells)[· % (if n * ei.size=0 then #[] else zv.cells).size]!)):=by
       by_cases h0:n * ei.size=0
       ·simp only[h0,if_true];exact⟨by simp,(by grind)⟩
       ·simp only[h0,if_false];exact Rj hz2 _
      obtain⟨r,hr1,hr2⟩:=MZ (γ:=γ) (w:=w) (bs:=st.b) (u:=st.u) _ parts (ps.map λ(i,x)=>(i,a.eval x)).toList _ out _ hf hcr (by simpa using l) hp'
      obtain⟨c1,c2,c3⟩:=AD ei.size n (out.map V.strip) (by simpa using hlen)
      have hr3:=hr2.strip
      have key:=hs.Ay (d:=d) (size:=ei.size) (rows:=chunk ei.size n (out.map V.strip)) (cs:=r) (e:=e) (w1:={ w with heap:=w.heap.push (.cells r e) }) hM hu rfl ⟨rfl,rfl,rfl⟩ c3 (by rw[c2,hr2.1,hlen];grind) (λi c hc=>by
       rw[c1] at hc
       have hlt:i < r.size:=by rw[hr3.1];grind
       have hv:r[i]?=some r[i]:=(by grind)
       obtain⟨c',h1,rfl⟩:=zH.1 (zQ hc)
       exact⟨r[i],hv,hr3.2 i _ _ hc hv,(hr3.2 i _ _ hc hv).Zt (by grind [KT,List.all_eq_true]),JZ c'⟩)
      refine⟨.slice (some ⟨w.heap.size,0,none⟩) n n,_,γ.add d w.heap.size,?_,key.2.1,key.2.2.JH,?_⟩
      ·have hns:¬(n * ei.size > 2 ^ 24):=by omega
       by_cases h0:n * ei.size=0
       ·simp only[h0,if_true] at hr1
        simp[execOp,ho,Instr.buildSlice,zF hut,sizeOf,typeInfo,hi,h0,newRow]
        simp at hr1
        rw[hr1];simp
       ·simp only[h0,if_false] at hr1
        have hr1':Instr.fill (λi=>some (i * ei.size,ei.size)) (Array.map (λx=>zv.cells[x % zv.cells.size]!) (Array.range (n * ei.size))) (ps.map λ(i,x)=>(i,a.eval x)).toList=some r:=hr1
        have hzr : (do let v <- zeroValue e; pure v.cells : Sem (Array Value)).run P w = .ok zv.cells w := by simp [hz1]
        simp only[execOp,ho,Instr.buildSlice,zM,zF hut,zN,sizeOf,typeInfo,run_program,hi,wi,hns,h0,if_false,Sem.run_ite,hz1,hr1',newRow,run_newObj]
      ·have hb:=key.1.put (a:=a) (dst:=some d) (c:=.ref d 0 n) (v:=.slice (some ⟨w.heap.size,0,none⟩) n n) (by simpa[H7,St.Qh] using hn) (by
        have:=Qu.ref (γ:=γ.add d w.heap.size) (w:={ w with heap:=w.heap.push (.cells r e) }) (bs:=(st.Qh d ⟨ei.size,true,chunk ei.size n (out.map V.strip)⟩).b) (u:=(st.Qh d ⟨ei.size,true,chunk ei.size n (out.map V.strip)⟩).u)
         d 0 n w.heap.size 0 n ⟨ei.size,true,chunk ei.size n (out.map V.strip)⟩ (by simp[St.Qh]) (by simp[Gh.add]) (by simp[c2]) (zI _) ⟨r,e,(0,0),by simp,by rw[hr2.1,hlen];simp⟩ hM (by simp[c2])
        grind)
       rw[hd]
       exact hb
     ·simp at hk
    ·simp at hk
   ·simp at hk
  ·simp at hk
theorem DU{P:Program}{G:ze}{o:Oper}{st:St}{t:TypeId}{n:Nat}{ps:Array (Nat×Operand)}{d:Nat}{parts:List (Nat×V)}{k:Qi}(ho:o.op=.buildSlice t n ps)(hd:o.dst=some d)(hn:d < st.n)(hu:st.u d=false)
  (hx:Up (st.ev G) ps.toList=some parts) (hk:ZM P t n parts=some k):I2 P G o st ((st.Qh d k).QG d (.ref d 0 n)):=
 (by grind [JP,Jq])
def E4(cs:Array Value)(o:Nat):List Value->Array Value
 | []=>cs
 | v :: vs=>E4 (cs.setIfInBounds o v) (o+1) vs
theorem G9:∀(vs:List Value) (o:Nat) (cs:Array Value),o+vs.length<=cs.size->
  (E4 cs o vs).size=cs.size/\∀j:Nat,(E4 cs o vs)[j]?=if o<=j/\j < o+vs.length then vs[j - o]? else cs[j]?
 | [],o,cs,_=>⟨rfl,λj=>by rw[if_neg (by simp)];rfl⟩
 | v :: vs,o,cs,h=>by
  simp only[wK] at h
  obtain⟨h1,h2⟩:=G9 vs (o+1) (cs.setIfInBounds o v) (by simp;omega)
  refine⟨by rw[E4,h1];simp,λj=>?_⟩
  rw[E4,h2]
  grind
theorem E9.unique{w:World}{B:Nat}{cs cs':Array Value}{e e':TypeId}(h:E9 w B cs e)(h':E9 w B cs' e'):cs=cs'/\e=e':=by
 obtain⟨fz,h,_⟩:=h
 obtain⟨fz',h',_⟩:=h'
 grind
def Nw(w:World)(B:Nat):Nat×Nat:=match w.heap[B]? with|some (.cells _ _ fz)=>fz|_=>(0,0)
def World.QQ(w:World)(B:Nat)(cs:Array Value)(e:TypeId):World:={ w with heap:=w.heap.setIfInBounds B (.cells cs e (Nw w B)) }
theorem MQ{w:World}{B:Nat}{cs:Array Value}{e:TypeId}{fz:Nat×Nat}(h:w.heap[B]?=some (.cells cs e fz)):Nw w B=fz:=by
 unfold Nw;rw[h]
theorem RY{w:World}{B o:Nat}{cs:Array Value}{e:TypeId}(h:E9 w B cs e)(v:Value) :
  w.setCell ⟨B,o,none⟩ v=World.QQ w B (cs.setIfInBounds o v) e:=by
 obtain⟨fz,h,_⟩:=h
 unfold World.setCell World.QQ
 rw[MQ h]
 congr 1
 grind
theorem Hl{w:World}{B:Nat}{cs:Array Value}{e:TypeId}(hB:B < w.heap.size):(World.QQ w B cs e).heap[B]?=some (.cells cs e (Nw w B)):=by
 simp[World.QQ,hB]
theorem E9.set{w:World}{B:Nat}{cs cs':Array Value}{e:TypeId}(h:E9 w B cs e)(hs:cs'.size=cs.size):E9 (World.QQ w B cs' e) B cs' e:=by
 have hB:=h.lt
 obtain⟨fz,h,hf⟩:=h
 exact⟨fz,by rw[Hl hB,MQ h],λi hi=>hf i (by omega)⟩
theorem Ym{w:World}{B i:Nat}{cs:Array Value}{e:TypeId}(h:i≠B):(World.QQ w B cs e).heap[i]?=w.heap[i]?:=by
 simp only[World.QQ,Array.getElem?_setIfInBounds];grind
theorem Nh(w:World)(B:Nat)(cs:Array Value)(e:TypeId):Nw (World.QQ w B cs e) B=Nw w B:=by
 grind [Nat.lt_or_ge,MQ,Hl,Array.getElem?_eq_none,Nw,World.QQ]
theorem Iq(w:World)(B:Nat)(cs cs':Array Value)(e:TypeId):World.QQ (World.QQ w B cs e) B cs' e=World.QQ w B cs' e:=by
 grind [Nh,Array.setIfInBounds_setIfInBounds,World.QQ,Nw]
theorem F2{P:Program}{B o:Nat}{e:TypeId}:∀(vs:List Value) (i:Nat) (w:World) (cs:Array Value),E9 w B cs e->(∀v,v∈vs->v.oneCell'=true)->o+i+vs.length<=cs.size->
  (storeCells ⟨B,o,none⟩ vs i).run P w=.ok () (World.QQ w B (E4 cs (o+i) vs) e)
 | [],i,w,cs,h,_,_=>by
  have:World.QQ w B cs e=w:=by
   obtain⟨fz,h,_⟩:=h
   unfold World.QQ
   rw[MQ h]
   have:w.heap.setIfInBounds B (.cells cs e fz)=w.heap:=by
    grind
   rw[this]
  simp[storeCells,E4,this]
 | v :: vs,i,w,cs,h,h1,hl=>by
  simp only[wK] at hl
  have hc:w.cell? ⟨B,o+i,none⟩=some (cs[o+i]'(by omega)):=by
   rw[h.cell];grind
  have hf:w.frozen? ⟨B,o+i,none⟩=false:=by
   obtain⟨fz,h,hf⟩:=h
   have:=hf (o+i) (by omega)
   grind [World.frozen?]
  have hst:(store ((⟨B,o,none⟩:Addr).add i) v).run P w=.ok () (World.QQ w B (cs.setIfInBounds (o+i) v) e):=by
   rw[run_store P w _ v .plain (h1 v (by simp)),Addr.add_eq]
   simp only[hc,hf,Bool.false_eq_true,if_false,RY h]
  have ih:=F2 (P:=P) (B:=B) (o:=o) vs (i+1) (World.QQ w B (cs.setIfInBounds (o+i) v) e) (cs.setIfInBounds (o+i) v) (h.set (by simp)) (by grind) (by simp;omega)
  rw[Iq] at ih
  rw[show storeCells ⟨B,o,none⟩ (v :: vs) i=(store ((⟨B,o,none⟩:Addr).add i) v >>= λ_=>storeCells ⟨B,o,none⟩ vs (i+1)) from rfl,zM,hst,zN,ih]
  rfl
theorem EH{w:World}{B B' o:Nat}{cs:Array Value}{e:TypeId}(h:B'≠B):cellAt (World.QQ w B cs e) B' o=cellAt w B' o:=by
 grind [Ym,cellAt,World.cell?]
theorem Qa.QQ{γ:Gh}{w:World}{B:Nat}{cs cs':Array Value}{e:TypeId}{x:K7}(h:E9 w B cs e)(hs:cs'.size=cs.size)(hl:∀o v,o < γ.Qp B->cs[o]?=some v->cs'[o]?=some v)(hown:γ.own B=some x):Qa γ w γ (World.QQ w B cs' e) where
 os:=rfl
 tape:=rfl
 output:=rfl
 size:=by simp[World.QQ]
 NS:=λB' o v ho hc=>by
  by_cases hb:B'=B
  ·subst hb
   rw[(h.set hs).cellAt]
   rw[h.cellAt] at hc
   grind
  grind [EH]
 Qp:=λ_ _=>zI _
 free:=λB' hB ho=>⟨(by grind [Ym]),ho,rfl⟩
 room:=λB' cs2 e2 fz hc=>by
  by_cases hb:B'=B
  ·subst hb
   have hB:=h.lt
   obtain⟨fz',h,_⟩:=h
   rw[h] at hc;simp only[zy,Obj.cells.injEq] at hc
   obtain⟨rfl,rfl,rfl⟩:=hc
   exact⟨cs',_,by rw[Hl hB,MQ h],hs,.inl rfl⟩
  ·exact⟨cs2,fz,by grind [Ym],rfl,.inl rfl⟩
theorem Qs.Xg{G:ze}{γ:Gh}{st:St}{tmps:Array Value}{w:World}(h:Qs G γ st tmps w){b:Nat}{k:Qi}(hk:st.b b=some k)(hM:k.size < Y8){B o:Nat}{cs cs':Array Value}{e:TypeId}{rows':List (List V)}
  (hloc:γ.loc b=some (B,o)) (hown:γ.own B=some (.ZQ b)) (hheap:E9 w B cs e) (hsz:cs'.size=cs.size) (hlim:γ.Qp B=0)
  (hrows:∀r,r∈rows'->r.length=k.size) (hlen:rows'.length=k.rows.length) (hroom:o+k.rows.length * k.size<=cs.size)
  (hcells:∀(i:Nat) (c:V),rows'.flatten[i]?=some c->∃v,cs'[o+i]?=some v/\Qu γ w st.b st.u c v/\v.oneCell'=true/\D3 γ w (.nest b (i / k.size) (i % k.size)) c v) :
  Qs G γ (st.Qh b ⟨k.size,k.Qn,rows'⟩) tmps (World.QQ w B cs' e)/\Qa γ w γ (World.QQ w B cs' e)/\F0 γ st.b st.u γ (st.Qh b ⟨k.size,k.Qn,rows'⟩).b (st.Qh b ⟨k.size,k.Qn,rows'⟩).u:=by
 have g:Qa γ w γ (World.QQ w B cs' e):=(by grind [Qa.QQ])
 have hu:=h.u b k hk
 have bl:F0 γ st.b st.u γ (st.Qh b ⟨k.size,k.Qn,rows'⟩).b (st.Qh b ⟨k.size,k.Qn,rows'⟩).u:=by
  refine⟨(by grind [St.Qh]),λb' hb hn=>?_,λb' k' hk'=>?_⟩
  ·have:b'≠b:=(by grind)
   simp_all [if_neg,St.Qh]
  ·by_cases hb:b'=b
   ·subst hb
    rw[hk] at hk';simp only[zy] at hk';subst hk'
    exact⟨by simp[St.Qh],.inr ⟨⟨k.size,k.Qn,rows'⟩,by simp[St.Qh],rfl,λ_=>hlen,rfl⟩⟩
   ·exact⟨by simp only[St.Qh];rw[if_neg hb];exact h.u b' k' hk',.inr ⟨k',by simp_all [if_neg,St.Qh],rfl,λ_=>rfl,rfl⟩⟩
 have hB:B < w.heap.size:=h.o B _ hown
 refine⟨⟨h.n,λi=>(h.t i).mono g bl,λb' k' hk'=>?_,λb' k' hk'=>?_,h.g.grow g,λB' x hx=>by simpa[World.QQ] using h.o B' x hx⟩,g,bl⟩
 ·simp only[St.Qh] at hk'
  by_cases hb:b'=b
  ·subst hb
   rw[if_pos rfl] at hk'
   simp only[zy] at hk';subst hk'
   refine .inr (.inr ⟨hM,B,o,cs',e,hloc,hown,hheap.set hsz,hrows,by grind,λi c hc=>?_,λ_=>hlim,by grind⟩)
   obtain⟨v,h1,h2,h3,h4⟩:=hcells i c hc
   exact⟨v,h1,h2.mono g bl,h3,h4.grow g⟩
  ·rw[if_neg hb] at hk'
   rcases h.b b' k' hk' with⟨v1,v2⟩|hm|⟨hM2,B2,o2,cs2,e2,h1,h2,h3,h4,h5,h6,h7,h8⟩
   ·exact .inl ⟨v1,v2⟩
   ·exact .inr (.inl (hm.same rfl (by grind [Ym,Option.some.injEq,K7.ZQ.injEq]) λc v hr=>hr.mono g bl))
   have hne:B2≠B:=(by grind)
   refine .inr (.inr ⟨hM2,B2,o2,cs2,e2,h1,h2,h3.of_eq (Ym hne),h4,h5,λi c hc=>?_,h7,h8⟩)
   obtain⟨v,a1,a2,a3,a4⟩:=h6 i c hc
   exact⟨v,a1,a2.mono g bl,a3,a4.grow g⟩
 ·simp only[St.Qh] at hk' ⊢
  by_cases hb:b'=b
  ·subst hb;simp
  ·rw[if_neg hb] at hk';rw[if_neg hb];exact h.u b' k' hk'
def C5(P:Program)(t:TypeId)(k:Qi)(i off:Nat)(c:V):Option Qi:=
 match P.info? t,NY c,k.rows[i]? with
 | some ti,some cs,some r=>if ti.size=cs.length/\off+cs.length<=k.size/\k.Qn=true then some ⟨k.size,k.Qn,k.rows.set i (G1 r off cs)⟩ else none
 | _,_,_=>none
theorem Rc(r:List V)(off:Nat)(cs:List V)(h:off+cs.length<=r.length)(j:Nat) :
  (G1 r off cs)[j]?=if off<=j/\j < off+cs.length then cs[j - off]? else r[j]?:=by
 unfold G1
 have lt:(r.take off).length=off:=by simp;omega
 grind
theorem Jh(r:List V)(off:Nat)(cs:List V)(h:off+cs.length<=r.length):(G1 r off cs).length=r.length:=by
 simp[G1];omega
def mZ(G:ze)(st:St)(x:Operand)(c:V):Prop:=∀(γ:Gh) (a:Act) (w:World),Qs G γ st a.tmps w->Qu γ w st.b st.u c (a.eval x)
theorem HO{P:Program}{G:ze}{o:Oper}{st:St}{t:TypeId}{x y:Operand}{b i off:Nat}{c:V}{k k':Qi}(ho:o.op=.store t x y)(hd:o.dst=none)
    (hx:mZ G st x (.ptr b i off)) (hy:mZ G st y c) (hk:st.b b=some k) (hs:C5 P t k i off c=some k'):I2 P G o st (st.Qh b k'):=
  Ec λγ a w hsim=>by
    unfold C5 at hs
    split at hs
    · rename_i ti cs r hti hcs hrow
      split at hs<;>simp at hs
      rename_i hb
      subst hs
      obtain⟨hsz,hoff,hex⟩:=hb
      obtain⟨B,o',hv,hl⟩:=(hx γ a w hsim).Zk hk
      have hM:=(hx γ a w hsim).Zl hk
      obtain⟨hcr,hcell⟩:=Uq hcs (hy γ a w hsim)
      rcases hsim.b b k hk with⟨v1,_⟩|hm|⟨_,B2,o2,cs2,e2,h1,h2,h3,h4,h5,h6,h7,h8⟩
      · grind
      · exact(hm.small hM).elim
      rw[hl] at h1;simp only[zy,zJ] at h1
      obtain⟨rfl,rfl⟩:=h1
      have hi:i < k.rows.length:=(by grind)
      have hrl:=h4 r (zQ hrow)
      have hin:(i+1) * k.size<=k.rows.length * k.size:=wF _ hi
      rw[wu] at hin
      have hvl:(a.eval y).cells.toList.length=cs.length:=by simpa using hcr.1
      have hone:∀v,v∈(a.eval y).cells.toList->v.oneCell'=true:=λv hv=>by
        obtain⟨j,hj,rfl⟩:=List.getElem_of_mem hv
        have hjc:j < cs.length:=by grind
        have:=hcr.2 j cs[j] _ (by grind) (by rw[we (by simpa using hj)])
        exact this.Zt (by grind)
      have hrun:=F2 (P:=P) (B:=B) (o:=o'+(i * k.size+off)) (e:=e2) (a.eval y).cells.toList 0 w cs2 h3 hone (by grind)
      obtain⟨r1,r2⟩:=G9 (a.eval y).cells.toList (o'+(i * k.size+off)+0) cs2 (by rw[hvl];omega)
      have key:=hsim.Xg (cs':=E4 cs2 (o'+(i * k.size+off)+0) (a.eval y).cells.toList) (rows':=k.rows.set i (G1 r off cs)) hk hM hl h2 h3 r1 (h7 hex)
        (λq hq=>by
          rcases List.mem_or_eq_of_mem_set hq with hq|rfl
          · exact h4 q hq
          grind [Jh])
        (by simp) h5 (λidx c' hc'=>by
          rcases wV k.size with hz|hpos
          · exfalso
            have:((k.rows.set i (G1 r off cs)).flatten)=[]:=by
              rw[List.flatten_eq_nil_iff]
              intro q hq
              have:q.length=k.size:=by
                rcases List.mem_or_eq_of_mem_set hq with hq|rfl
                · exact h4 q hq
                grind [Jh]
              grind
            rw[this] at hc';simp at hc'
          · have e:idx=(idx / k.size) * k.size+idx % k.size:=by rw[wP];exact(Nat.div_add_mod idx k.size).symm
            have hm:=Nat.mod_lt idx hpos
            have hall:∀q,q∈k.rows.set i (G1 r off cs)->q.length=k.size:=λq hq=>by
              rcases List.mem_or_eq_of_mem_set hq with hq|rfl
              · exact h4 q hq
              · rw[Jh r off cs (by omega),hrl]
            have hget:=U7 _ hall (idx / k.size) (idx % k.size) hm
            rw[<-e,hc'] at hget
            rw[r2,hvl]
            by_cases hq:idx / k.size=i
            · rw[hq,List.getElem?_set_self hi] at hget
              simp only[wL] at hget
              rw[Rc r off cs (by omega)] at hget
              rw[hq] at e
              by_cases hin2:off<=idx % k.size/\idx % k.size < off+cs.length
              · rw[if_pos hin2] at hget
                rw[if_pos (by omega)]
                have hj:idx % k.size - off < (a.eval y).cells.toList.length:=by rw[hvl];omega
                refine⟨(a.eval y).cells.toList[idx % k.size - off],?_,?_,hone _ (List.getElem_mem hj),.Zh (hcell c' (zQ hget.symm)).2⟩
                · rw[show o'+idx - (o'+(i * k.size+off)+0)=idx % k.size - off by omega]
                  exact wd hj
                · exact hcr.2 (idx % k.size - off) c' _ hget.symm (by rw[we (by simpa using hj)];simp)
              · rw[if_neg hin2] at hget
                rw[if_neg (by omega)]
                exact h6 idx c' (by rw[e,U7 k.rows h4 i (idx % k.size) hm,hrow];exact hget.symm)
            · rw[List.getElem?_set_ne (λx=>hq x.symm)] at hget
              have hno:¬(o'+(i * k.size+off)+0<=o'+idx/\o'+idx < o'+(i * k.size+off)+0+cs.length):=by
                intro hc
                apply hq
                have a1:i * k.size<=idx:=by omega
                have a2:idx < (i+1) * k.size:=by rw[wu];omega
                exact Nat.div_eq_of_lt_le a1 a2
              rw[if_neg hno]
              exact h6 idx c' (by rw[e,U7 k.rows h4 _ (idx % k.size) hm];exact hget.symm))
      refine⟨_,γ,?_,key.2.1,key.2.2.JH,by rw[hd];exact key.1⟩
      have hsize:¬((a.eval y).cells.size≠ti.size):=by rw[hcr.1,hsz];simp
      simp only[execOp,ho,Instr.storeAt,hv,Instr.sureAddr,storeVar,sizeOf,typeInfo,hti,zM,run_program,wi,zN,Sem.run_ite,hsize,if_false,hrun]
    · simp at hs
theorem PE{P:Program}{G:ze}{o:Oper}{st:St}{t:TypeId}{x y:Operand}{b i off:Nat}{c:V}{k k':Qi}(ho:o.op=.store t x y)(hd:o.dst=none)
  (hx:st.ev G x=some (.ptr b i off)) (hy:st.ev G y=some c) (hk:st.b b=some k) (hs:C5 P t k i off c=some k'):I2 P G o st (st.Qh b k'):=
 HO ho hd (λ_ _ _ h=>h.ev hx) (λ_ _ _ h=>h.ev hy) hk hs
def RF(ro:Option Nat):Fence:={ Fence.wide with round:=ro }
theorem RF.room(ro:Option Nat)(n:Nat):(RF ro).room n:=λ_ h=>by simp[RF,Fence.wide] at h
theorem RF.fenced(ro:Option Nat)(P:Program)(m:Machine):m.fenced P (RF ro):=fenced_wide P m
abbrev CW(ro:Option Nat)(P:Program)(c:Code)(Q:Exit->Act->World->Prop)(a:Act)(w:World):Prop:=c.wpIn (RF ro) 0 P Q a w
theorem Nc{ro:Option Nat}{P:Program}{f:FuncId}{args:Array Value}{w:World}{R:Ending->World->Prop}(h:Calls P f args w R):CallsIn (RF ro) 0 P f args w R:=(callsIn_wide (n:=0)).2 h
theorem dR{ro:Option Nat}{P:Program}{row:String}{args:Array Value}{w:World}{R:Value->World->Prop}(h:Rows P row args w R):RowsIn (RF ro) 0 P row args w R:=
 λc cs _=>let ⟨v,w',r,s⟩:=h c cs;⟨v,w',r,stepsIn_wide.2 s⟩
theorem Sf{ro:Option Nat}{P:Program}{o:Oper}{a:Act}{next:Act->World->Prop}{Q:Exit->Act->World->Prop}:∀{r:Result Next},o.upon P a next Q r->o.uponIn (RF ro) 0 P a next Q r
 | .ok (.value _) _,h=>h
 | .ok .skip _,h=>h
 | .ok (.defer _) _,h=>h
 | .ok (.enter _ _) _,h=>⟨(by grind [RF,Fence.wide]),Nc h⟩
 | .ok (.row _ _) _,h=>⟨(by grind [RF,Fence.wide]),dR h⟩
 | .halt (.panic _) _,h=>h
theorem IN{ro:Option Nat}{P:Program}{o:Oper}{a:Act}{w:World}{next:Act->World->Prop}{Q:Exit->Act->World->Prop}
  (h0:o.wp P a w (λa' _=>a'.defers=a.defers) (λ_ _ _=>False)) (h:o.wp P a w next Q):o.wpIn (RF ro) 0 P a w next Q:=by
 refine⟨λ_ _=>trivial,?_⟩
 have hnd:∀c,o.op≠.defer c:=by
  intro c hc
  unfold Oper.wp at h0
  have e : execOp a.eval o = (do let d <- resolve a.eval c o.type; pure (Next.defer d)) := by
   unfold execOp;rw[hc]
  rw[e,zM] at h0
  cases hr:(resolve a.eval c o.type).run P w with
  | ok d w'=>
   rw[hr,zN] at h0
   have h1:({ a with defers:=d :: a.defers }.put o.dst undef).defers=a.defers:=h0
   simp_all [D6]
  | halt x w'=>
   rw[hr] at h0
   cases x<;>first|exact h0|exact h0.elim
 rw[Oper.semAt_eq _ _ _ hnd]
 exact Sf h
theorem qO{ro:Option Nat}{P:Program}{o:Oper}{a:Act}{w:World}{next:Act->World->Prop}{Q:Exit->Act->World->Prop}
  (hnd:∀c,o.op≠.defer c) (h:o.wp P a w next Q):o.wpIn (RF ro) 0 P a w next Q:=
 ⟨λ_ _=>trivial,by rw[Oper.semAt_eq _ _ _ hnd];exact Sf h⟩
section
variable {ro:Option Nat} {P:Program} {Q:Exit->Act->World->Prop} {a:Act} {w:World}
theorem R1{b:Frame}{k:List Item}{cs:List Frame}{c:Code}:step P (lone (b.atR a (.code (.scope c) :: k)) cs w)=.next (lone (b.atR a (.code c :: .inScope c :: k)) cs w):=
 step_lone_go (by simp[stepG,stepG.exec,Frame.atR])
theorem AT{b:Frame}{k:List Item}{cs:List Frame}{c:Code}:step P (lone (b.atR a (.inScope c :: k)) cs w)=.next (lone (b.atR a k) cs w):=
 step_lone_go (by simp[stepG,stepG.exec,Frame.atR])
theorem MH{c:Code}(h:CW ro P c (Exit.noGoto Q) a w):CW ro P (.scope c) Q a w:=by
 intro b k cs hro hb hr
 have h0:(lone (b.atR a (.code (.scope c) :: k)) cs w).fenced P (RF ro):=RF.fenced _ _ _
 obtain⟨e,a₁,w₁,hq,harr⟩:=h b (.inScope c :: k) cs hro hb hr
 cases e with
 | normal=>exact⟨.normal,a₁,w₁,hq,.head h0 R1 (StepsIn.trans harr (.one (RF.fenced _ _ _) AT))⟩
 | exit id=>
  have hx:exitTo id (.inScope c :: k)=exitTo id k:=by simp[exitTo]
  exact⟨.exit id,a₁,w₁,hq,λk' hk=>.head h0 R1 (harr.1 k' (by grind)),
   λhr' hk=>let ⟨k₁,h1,h2⟩:=harr.2 hr' (by grind);⟨k₁,h1,.head h0 R1 h2⟩⟩
 | goto l=>exact hq.elim
 | ret=>exact⟨_,a₁,w₁,hq,.of_steps (.one h0 R1) harr⟩
 | panic ch=>exact⟨_,a₁,w₁,hq,.of_steps (.one h0 R1) harr⟩
 | outgrown=>exact⟨_,a₁,w₁,hq,.of_steps (.one h0 R1) harr⟩
def Fb(ro:Option Nat)(P:Program)(c:Code)(Q:Exit->Act->World->Prop)(a:Act)(w:World):Prop:=
 ∀(b:Frame) (k:List Item) (cs:List Frame),b.roundOf=ro->∃e a' w',Q e a' w'/\ArrivesIn (Machine.fenced P (RF ro)) P (lone (b.atR a (.inLoop c :: k)) cs w) b k cs e a' w'
theorem WV{c:Code}{m:Frame->List Item->List Frame->Machine}
  (hm:∀b k cs,StepsIn (Machine.fenced P (RF ro)) P (m b k cs) (lone (b.atR a (.code c :: .inLoop c :: k)) cs w)) (h:CW ro P c (Exit.then (Fb ro P c Q) Q) a w) :
  ∀(b:Frame) (k:List Item) (cs:List Frame),b.roundOf=ro->∃e a' w',Q e a' w'/\ArrivesIn (Machine.fenced P (RF ro)) P (m b k cs) b k cs e a' w':=by
 intro b k cs hro
 obtain⟨e,a₁,w₁,hq,harr⟩:=h b (.inLoop c :: k) cs hro trivial (RF.room _ _)
 cases e with
 | normal=>
  obtain⟨e₂,a₂,w₂,hq₂,harr₂⟩:=hq b k cs hro
  exact⟨e₂,a₂,w₂,hq₂,.of_steps (StepsIn.trans (hm b k cs) harr) harr₂⟩
 | exit id=>exact⟨_,a₁,w₁,hq,.of_steps (hm b k cs) (.pass (x:=.inLoop c) rfl (λ_ _=>.inl (by simp)) harr)⟩
 | goto l=>exact⟨_,a₁,w₁,hq,.of_steps (hm b k cs) (.pass (x:=.inLoop c) rfl (λ_ _=>.inl (by simp)) harr)⟩
 | ret=>exact⟨_,a₁,w₁,hq,.of_steps (hm b k cs) (.pass (x:=.inLoop c) rfl (λ_ _=>.inl (by simp)) harr)⟩
 | panic ch=>exact⟨_,a₁,w₁,hq,.of_steps (hm b k cs) (.pass (x:=.inLoop c) rfl (λ_ _=>.inl (by simp)) harr)⟩
 | outgrown=>exact⟨_,a₁,w₁,hq,.of_steps (hm b k cs) (.pass (x:=.inLoop c) rfl (λ_ _=>.inl (by simp)) harr)⟩
theorem MW{c:Code}(h:CW ro P c (Exit.then (Fb ro P c Q) Q) a w):CW ro P (.loop c) Q a w:=λb k cs hro _ _=>
 WV (m:=λb k cs=>lone (b.atR a (.code (.loop c) :: k)) cs w) (λ_ _ _=>.one (RF.fenced _ _ _) stepR_loop) h b k cs hro
theorem Oa{c:Code}(h:CW ro P c (Exit.then (Fb ro P c Q) Q) a w):Fb ro P c Q a w:=
 WV (m:=λb k cs=>lone (b.atR a (.inLoop c :: k)) cs w) (λ_ _ _=>.one (RF.fenced _ _ _) stepR_inLoop) h
theorem Tx{Q':Exit->Act->World->Prop}{c:Code}(h:Fb ro P c Q a w)(hq:∀e a w,Q e a w->Q' e a w):Fb ro P c Q' a w:=λb k cs hro=>by
 obtain⟨e,a',w',h1,h2⟩:=h b k cs hro
 grind
theorem Ni{c:Code}(I:Nat->Act->World->Prop)
  (round:∀n a w,I n a w->CW ro P c (Exit.then (λa' w'=>∃m,m < n/\I m a' w') Q) a w):∀(n:Nat) (a:Act) (w:World),I n a w->CW ro P (.loop c) Q a w:=by
 intro n
 induction n using Nat.strongRecOn with
 | _ n ih=>
  intro a w hI
  have key:∀n a w,I n a w->Fb ro P c Q a w:=by
   intro n
   induction n using Nat.strongRecOn with
   | _ n ih=>exact λa w hI=>Oa (wpIn_mono (round n a w hI) λe a' w' hq=>by
     cases e with
     | normal=>obtain⟨m,hm,h⟩:=hq;exact ih m hm a' w' h
     | _=>exact hq)
  exact MW (wpIn_mono (round n a w hI) λe a' w' hq=>by
   cases e with
   | normal=>obtain⟨m,hm,h⟩:=hq;exact key m a' w' h
   | _=>exact hq)
theorem H1{F:Fence}{n:Nat}{ops:Array Oper}{Q Q':Exit->Act->World->Prop}(hq:∀e a w,Q e a w->Q' e a w):∀(l:List Nat) (a:Act) (w:World),wpOpsIn F n P ops Q l a w->wpOpsIn F n P ops Q' l a w
 | [],a,w,h=>hq _ _ _ h
 | i :: rest,a,w,h=>by
  simp only[wpOpsIn] at h ⊢
  split
  ·rename_i hi;rw[hi] at h;exact H1 hq rest a w h
  ·rename_i o hi
   rw[hi] at h
   simp only at h ⊢
   split
   ·rename_i hw
    rw[if_pos hw] at h
    refine⟨h.1,?_⟩
    have h:=h.2
    unfold Oper.uponIn at h ⊢
    split at h
    ·exact H1 hq rest _ _ h
    ·exact H1 hq rest _ _ h
    ·exact H1 hq rest _ _ h
    ·refine⟨h.1,CallsIn.mono h.2 λe w' hr=>?_⟩
     cases e with
     | returned v=>exact H1 hq rest _ _ hr
     | panicked ch=>grind
     | outgrown=>obtain⟨a0,w0,h2⟩:=hr;exact⟨a0,w0,hq _ _ _ h2⟩
    ·exact⟨h.1,RowsIn.mono h.2 λv w' hr=>H1 hq rest _ _ hr⟩
    ·refine⟨h.1,RoundIn.mono h.2 λe w' hr=>?_⟩
     cases e with
     | returned v=>exact H1 hq rest _ _ hr
     | panicked ch=>grind
     | outgrown=>obtain⟨a0,w0,h2⟩:=hr;exact⟨a0,w0,hq _ _ _ h2⟩
    ·grind
    grind
   ·rename_i hw;rw[if_neg hw] at h;exact⟨h.1,H1 hq rest _ _ h.2⟩
end
def ZP(D:Nat):Deferred:={ target:=.collected D,args:=#[] }
def Marks(mk:Bool)(w:World)(γ':Gh)(w':World)(ds ds':List Deferred):Prop:=
 ∃Ds:List Nat,(mk=false->Ds=[])/\ds'=Ds.map ZP++ds/\Ds.Nodup/\∀D,D∈Ds->w.heap.size<=D/\w'.heap[D]?=some (.deferred (some []))/\γ'.own D=none
theorem Marks.of{mk:Bool}{w w':World}{γ':Gh}{ds ds':List Deferred}(h:ds'=ds):Marks mk w γ' w' ds ds':=⟨[],λ_=>rfl,by simpa using h,by simp,λD hD=>by simp at hD⟩
theorem Marks.start{mk:Bool}{w w1 w':World}{γ':Gh}{ds ds':List Deferred}(h:Marks mk w1 γ' w' ds ds')(hw:w.heap.size<=w1.heap.size):Marks mk w γ' w' ds ds':=by
 obtain⟨Ds,h0,h1,h2,h3⟩:=h
 exact⟨Ds,h0,h1,h2,(by grind)⟩
theorem Marks.trans{mk:Bool}{w w1 w2:World}{γ1 γ2:Gh}{ds ds1 ds2:List Deferred}(h:Marks mk w γ1 w1 ds ds1)(g:Qa γ1 w1 γ2 w2)(k:Marks mk w1 γ2 w2 ds1 ds2)(hw:w.heap.size<=w1.heap.size):Marks mk w γ2 w2 ds ds2:=by
 obtain⟨Ds,h0,h1,h2,h3⟩:=h
 obtain⟨Es,k0,k1,k2,k3⟩:=k
 have lt:∀D,D∈Ds->D < w1.heap.size:=(by grind)
 refine⟨Es++Ds,(by grind),by grind,List.nodup_append.2 ⟨k2,h2,λx hx y hy e=>?_⟩,λD hD=>?_⟩
 ·grind
 ·rcases wa.1 hD with hD|hD
  ·grind
  ·obtain⟨a1,a2,a3⟩:=h3 D hD
   obtain⟨b1,b2,_⟩:=g.free D (lt D hD) a3
   grind
def L0(G:ze)(fx:Fx)(γ:Gh)(st:St)(w:World)(Q:Exit->St->Prop)(e:Exit)(a':Act)(w':World):Prop:=
 ∃st' γ',Qs G γ' st' a'.tmps w'/\(Qa γ w γ' w'/\Zr γ st.b st.u γ' st'.b st'.u)/\Marks fx.mx w γ' w' fx.ds a'.defers/\Q e st'
def Uu(fx:Fx)(γ:Gh)(ds:List Deferred)(w:World):Prop:=
 ds=fx.ds/\fx.mx=true/\∀l,fx.ro=some l->(∃r,w.heap[l]?=some (.loop r))/\γ.own l=none
theorem Uu.grow{fx:Fx}{γ γ':Gh}{ds ds':List Deferred}{w w':World}(h:Uu fx γ ds w)(g:Qa γ w γ' w')(hd:ds'=fx.ds):Uu fx γ' ds' w':=
 ⟨hd,h.2.1,λl hl=>by
  obtain⟨⟨r,h1⟩,h2⟩:=h.2.2 l hl
  obtain⟨g1,g2,_⟩:=g.free l (by grind) h2
  grind⟩
theorem Uu.step{fx:Fx}{γ γ':Gh}{ds ds':List Deferred}{w w':World}(h:Uu fx γ ds w)(g:Qa γ w γ' w'):Uu ⟨fx.ro,ds',fx.mx⟩ γ' ds' w':=
 ⟨rfl,(h.grow g h.1).2⟩
theorem Uu.free{ds:List Deferred}(γ:Gh)(w:World):Uu ⟨none,ds,true⟩ γ ds w:=⟨rfl,rfl,λ_ h=>by simp at h⟩
def TV(P:Program)(G:ze)(c:Code)(st:St)(Q:Exit->St->Prop):Prop:=
 ∀(fx:Fx) (γ:Gh) (a:Act) (w:World),Qs G γ st a.tmps w->Uu fx γ a.defers w->CW fx.ro P c (L0 G fx γ st w Q) a w
def EO(next:St->Prop)(Q:Exit->St->Prop):Exit->St->Prop
 | .normal,st=>next st
 | e,st=>Q e st
def V5(id:Nat)(Q:Exit->St->Prop):Exit->St->Prop
 | .exit id',st=>if id'=id then Q .normal st else Q (.exit id') st
 | e,st=>Q e st
section
variable {P:Program} {G:ze} {st:St} {Q:Exit->St->Prop}
theorem L0.mono{fx:Fx}{γ:Gh}{w:World}{Q Q':Exit->St->Prop}{e:Exit}{a:Act}{w':World}(h:L0 G fx γ st w Q e a w')(hq:∀e st,Q e st->Q' e st):L0 G fx γ st w Q' e a w':=
 let ⟨st',γ',h1,h2,h3,h4⟩:=h;⟨st',γ',h1,h2,h3,hq _ _ h4⟩
theorem L0.grow{fx:Fx}{γ γ1:Gh}{st1:St}{w w1:World}{e:Exit}{a:Act}{w':World}(g:Qa γ w γ1 w1/\Zr γ st.b st.u γ1 st1.b st1.u)(h:L0 G fx γ1 st1 w1 Q e a w'):L0 G fx γ st w Q e a w':=
 let ⟨st',γ',h1,h2,h3,h4⟩:=h;⟨st',γ',h1,⟨g.1.trans h2.1,g.2.trans h2.2⟩,h3.start g.1.size,h4⟩
theorem L0.Ow{fx:Fx}{ds1:List Deferred}{γ γ1:Gh}{st1:St}{w w1:World}{e:Exit}{a:Act}{w':World}(g:Qa γ w γ1 w1/\Zr γ st.b st.u γ1 st1.b st1.u)(hm:Marks fx.mx w γ1 w1 fx.ds ds1)(h:L0 G ⟨fx.ro,ds1,fx.mx⟩ γ1 st1 w1 Q e a w'):L0 G fx γ st w Q e a w':=
 let ⟨st',γ',h1,h2,h3,h4⟩:=h;⟨st',γ',h1,⟨g.1.trans h2.1,g.2.trans h2.2⟩,hm.trans h2.1 h3 g.1.size,h4⟩
theorem TV.mono{c:Code}{Q':Exit->St->Prop}(h:TV P G c st Q)(hq:∀e st,Q e st->Q' e st):TV P G c st Q':=
 λfx γ a w hs hd=>wpIn_mono (h fx γ a w hs hd) λ_ _ _ hl=>hl.mono hq
theorem TV.skip(h:Q .normal st):TV P G .skip st Q:=λ_ γ _ w hs hd=>wpIn_skip ⟨st,γ,hs,⟨.refl γ w,.refl hs.u⟩,.of hd.1,h⟩
theorem TV.seq{x y:Code}(h:TV P G x st (EO (λst=>TV P G y st Q) Q)):TV P G (.seq x y) st Q:=λfx γ a w hs hd=>by
 refine wpIn_seq (wpIn_mono (h fx γ a w hs hd) λe a' w' hl=>?_)
 obtain⟨st',γ',h1,h2,h3,h4⟩:=hl
 cases e with
 | normal=>exact wpIn_mono (h4 ⟨fx.ro,a'.defers,fx.mx⟩ γ' a' w' h1 (hd.step h2.1)) λ_ _ _ hl=>hl.Ow h2 h3
 | _=>exact⟨st',γ',h1,h2,h3,h4⟩
theorem TV.cond{c:Operand}{x y:Code}{t:Bool}(hc:st.ev G c=some (.bool t))(h:TV P G (if t then x else y) st Q):TV P G (.cond c x y) st Q:=λfx γ a w hs hd=>
 wpIn_cond ((hs.ev hc).QF) (h fx γ a w hs hd)
theorem TV.block{id:Nat}{c:Code}(h:TV P G c st (V5 id Q)):TV P G (.block id c) st Q:=λfx γ a w hs hd=>by
 refine wpIn_block (wpIn_mono (h fx γ a w hs hd) λe a' w' hl=>?_)
 obtain⟨st',γ',h1,h2,h3,h4⟩:=hl
 cases e with
 | exit id'=>
  simp only[V5] at h4
  simp only[Exit.inBlock]
  split
  ·rename_i he;rw[if_pos he] at h4;exact⟨st',γ',h1,h2,h3,h4⟩
  ·rename_i he;rw[if_neg he] at h4;exact⟨st',γ',h1,h2,h3,h4⟩
 | _=>exact⟨st',γ',h1,h2,h3,h4⟩
theorem TV.scope{c:Code}(h:TV P G c st Q)(hq:∀l st,¬Q (.goto l) st):TV P G (.scope c) st Q:=λfx γ a w hs hd=>by
 refine MH (wpIn_mono (h fx γ a w hs hd) λe a' w' hl=>?_)
 cases e with
 | goto l=>obtain⟨st',_,_,_,_,h4⟩:=hl;grind
 | _=>exact hl
end
theorem TV.loop{P:Program}{G:ze}{Q:Exit->St->Prop}{c:Code}(I:Nat->St->Prop)
  (round:∀n st,I n st->TV P G c st (EO (λst'=>∃m,m < n/\I m st') Q)) {n:Nat} {st:St} (h:I n st):TV P G (.loop c) st Q:=λfx γ a w hs hd=>by
 refine Ni (λn a' w'=>∃st' γ',I n st'/\Qs G γ' st' a'.tmps w'/\(Qa γ w γ' w'/\Zr γ st.b st.u γ' st'.b st'.u)/\Marks fx.mx w γ' w' fx.ds a'.defers) (λn a' w' hI=>?_) n a w ⟨st,γ,h,hs,⟨.refl γ w,.refl hs.u⟩,.of hd.1⟩
 obtain⟨st',γ',h1,h2,h3,h4⟩:=hI
 refine wpIn_mono (round n st' h1 ⟨fx.ro,a'.defers,fx.mx⟩ γ' a' w' h2 (hd.step h3.1)) λe a2 w2 hl=>?_
 obtain⟨st2,γ2,k1,k2,k3,k4⟩:=hl
 cases e with
 | normal=>obtain⟨m,hm,hI⟩:=k4;exact⟨m,hm,st2,γ2,hI,k1,⟨h3.1.trans k2.1,h3.2.trans k2.2⟩,h4.trans k2.1 k3 h3.1.size⟩
 | _=>exact⟨st2,γ2,k1,⟨h3.1.trans k2.1,h3.2.trans k2.2⟩,h4.trans k2.1 k3 h3.1.size,k4⟩
def M6(ops:Array Oper)(st:St)(o:Oper):Option Bool:=
 match o.guard with
 | none=>some true
 | some (j,want)=>match (ops[j]?).bind (·.dst) with
  | some d=>if d < st.n then (match st.t d with|.bool b=>some (b==want)|.Qt []=>some false|_=>none) else none
  | none=>none
theorem W3{G:ze}{γ:Gh}{st:St}{a:Act}{w:World}(hs:Qs G γ st a.tmps w){ops:Array Oper}{o:Oper}{r:Bool}(h:M6 ops st o=some r) :
  Region.wanted o (yielded ops a.tmps)=r:=by
 unfold M6 at h
 unfold Region.wanted
 split at h
 ·grind
 ·rename_i j want hg
  rw[hg]
  split at h
  ·rename_i d hj
   split at h
   ·rename_i hd
    split at h
    ·rename_i b hb
     simp only[zy] at h;subst h
     have:=hs.t d
     rw[hb] at this
     have hv:=this.QF
     have hsz:d < a.tmps.size:=by rw[hs.n];exact hd
     simp_all [we,dif_pos,wL,bool,Array.getD,yielded]
    ·rename_i hb
     simp only[zy] at h;subst h
     have:=hs.t d
     rw[hb] at this
     obtain⟨vs,hv,hl,_⟩:=this.KS
     have hv0:vs=[]:=(by grind)
     subst hv0
     have hsz:d < a.tmps.size:=by rw[hs.n];exact hd
     simp_all [we,dif_pos,wL,Array.getD,yielded]
    ·simp at h
   ·simp at h
  ·simp at h
def P1(P:Program)(G:ze)(ops:Array Oper)(i:Nat)(st st':St):Prop:=
 match ops[i]? with
 | none=>st'=st
 | some o=>(M6 ops st o=some true/\I2 P G o st st')\/(M6 ops st o=some false/\H7 st.n o.dst=true/\st'=st.put o.dst (.Qt []))
def U6(P:Program)(G:ze)(ops:Array Oper)(l:List Nat)(st:St)(Q:Exit->St->Prop):Prop:=
 ∀(fx:Fx) (γ:Gh) (a:Act) (w:World),Qs G γ st a.tmps w->Uu fx γ a.defers w->wpOpsIn (RF fx.ro) 0 P ops (L0 G fx γ st w Q) l a w
section
variable {P:Program} {G:ze} {ops:Array Oper} {st:St} {Q:Exit->St->Prop}
theorem U6.nil(h:Q .normal st):U6 P G ops [] st Q:=λ_ γ _ w hs hd=>⟨st,γ,hs,⟨.refl γ w,.refl hs.u⟩,.of hd.1,h⟩
theorem U6.cons{i:Nat}{rest:List Nat}{st':St}(h:P1 P G ops i st st')(hr:U6 P G ops rest st' Q):U6 P G ops (i :: rest) st Q:=λfx γ a w hs hd=>by
 unfold P1 at h
 simp only[wpOpsIn]
 split at h
 ·rename_i hi;subst h;rw[hi];exact hr fx γ a w hs hd
 ·rename_i o hi
  rw[hi]
  simp only
  rcases h with⟨hg,he⟩|⟨hg,hdst,rfl⟩
  ·rw[if_pos (W3 hs hg)]
   refine IN (he ⟨none,a.defers,false⟩ γ a w hs rfl _ _ (by grind)) (he fx γ a w hs hd.1 _ _ λa' w' γ' h1 h2 hp h3=>?_)
   exact H1 (λe a2 w2 hl=>hl.grow ⟨h2,hp⟩) rest a' w' (hr fx γ' a' w' h1 (hd.grow h2 h3))
  ·rw[if_neg (by rw[W3 hs hg];simp)]
   exact⟨λ_ _=>trivial,H1 (λe a2 w2 hl=>hl.grow (st:=st) ⟨.refl γ w,by cases o.dst<;>exact Zr.refl hs.u⟩) rest _ w (hr fx γ _ w (hs.put hdst (v:=undef) (.Qt [] [] rfl (by grind))) (by rw[D6];exact hd))⟩
def kP(P:Program)(G:ze)(ops:Array Oper)(i:Nat)(s:St)(ex:Exit)(s':St):Prop:=∃o,ops[i]?=some o/\(∀c,o.op≠.defer c)/\M6 ops s o=some true/\Qw0 P G o s ex s'
theorem U6.stop{i:Nat}{rest:List Nat}{ex:Exit}{st':St}(h:kP P G ops i st ex st')(hq:Q ex st'):U6 P G ops (i :: rest) st Q:=λfx γ a w hs hd=>by
 obtain⟨o,hi,hnd,hg,he⟩:=h
 simp only[wpOpsIn]
 rw[hi]
 simp only
 rw[if_pos (W3 hs hg)]
 exact qO hnd (he fx γ a w hs hd.1 _ _ λa' w' γ' h1 h2 hp h3=>⟨st',γ',h1,⟨h2,hp⟩,.of h3,hq⟩)
theorem TV.region{id:Nat}(h:U6 P G ops (List.range ops.size) st Q):TV P G (.region id ops false) st Q:=λfx γ a w hs hd=>wpIn_region (h fx γ a w hs hd)
end
def Vd(P:Program)(G:ze)(o:Oper)(st:St):Option St:=
 match o.op,o.dst with
 | .alloc e,some d=>if d < st.n/\st.u d=false then (zeroV P e).map λcs=>(st.Qh d ⟨cs.length,true,[cs]⟩).QG d (.ptr d 0 0) else none
 | .box _ x,some d=>if d < st.n/\st.u d=false then ((st.ev G x).bind NY).map λcs=>(st.Qh d ⟨cs.length,true,[cs]⟩).QG d (.ptr d 0 0) else none
 | .store t x y,none=>match st.ev G x,st.ev G y with
  | some (.ptr b i off),some c=>match st.b b with
   | some k=>(C5 P t k i off c).map (st.Qh b)
   | none=>none
  | _,_=>none
 | .buildSlice t n ps,some d=>if d < st.n/\st.u d=false then ((Up (st.ev G) ps.toList).bind (ZM P t n)).map λk=>(st.Qh d k).QG d (.ref d 0 n) else none
 | op,dst=>if H7 st.n dst then (YX P (st.ev G) st.b op).map (st.put dst) else none
theorem Rn{P:Program}{G:ze}{o:Oper}{st st':St}(h:Vd P G o st=some st'):I2 P G o st st':=by
 unfold Vd at h
 split at h
 ·rename_i e d ho hd
  split at h
  ·rename_i hc
   obtain⟨cs,hz,rfl⟩:=zE.1 h
   grind [AJ]
  ·simp at h
 ·rename_i e x d ho hd
  split at h
  ·rename_i hc
   obtain⟨cs,hz,rfl⟩:=zE.1 h
   grind [Option.bind_eq_some_iff,uO]
  ·simp at h
 ·rename_i t x y ho hd
  split at h
  ·rename_i b i off c hx hy
   split at h
   ·rename_i k hk
    obtain⟨k',hs,rfl⟩:=zE.1 h
    grind [PE]
   ·simp at h
  ·simp at h
 ·rename_i t n ps d ho hd
  split at h
  ·rename_i hc
   obtain⟨k,hz,rfl⟩:=zE.1 h
   grind [Option.bind_eq_some_iff,DU]
  ·simp at h
 ·rename_i op dst
  split at h
  ·rename_i hd
   obtain⟨c,hr,rfl⟩:=zE.1 h
   exact CV hr hd
  ·simp at h
def stepG(P:Program)(G:ze)(ops:Array Oper)(i:Nat)(st:St):Option St:=
 match ops[i]? with
 | none=>some st
 | some o=>match M6 ops st o with
  | some true=>Vd P G o st
  | some false=>if H7 st.n o.dst then some (st.put o.dst (.Qt [])) else none
  | none=>none
theorem C6{P:Program}{G:ze}{ops:Array Oper}{i:Nat}{st st':St}(h:stepG P G ops i st=some st'):P1 P G ops i st st':=by
 grind [Option.some.injEq,Rn,stepG,P1]
def Qk:Nat->Bool:=λb=>decide (1000000<=b)
theorem Hu{b:Nat}(h:X1 b=true):Qk b=true:=by unfold Qk;exact zR (Uw h)
def Wz(P:Program)(G:ze)(f:FuncId)(args:List V)(ins:zg)(E:Value->Ending)(res:V)(outs:zg):Prop:=
 ∀(γ:Gh) (w:World) (as:Array Value),UH G γ w->(∀B x,γ.own B=some x->B < w.heap.size)->U4 γ w ins Qk args as->
  (∀b k,ins b=some k->Qk b=true/\D4 γ w ins Qk b k)->
  Calls P f as w λe w'=>∃v γ',e=E v/\Qa γ w γ' w'/\Zr γ ins Qk γ' outs (λ_=>true)/\Qu γ' w' outs (λ_=>true) res v/\
   (∀b k,outs b=some k->D4 γ' w' outs (λ_=>true) b k)/\(∀B x,γ'.own B=some x->B < w'.heap.size)
def QR(P:Program)(G:ze)(f:FuncId)(args:List V)(ins:zg)(res:V)(outs:zg):Prop:=Wz P G f args ins .returned res outs
def K0(v:Value):List PanicEntry:=[{ v:=v,recovered:=false }]
def MP(P:Program)(G:ze)(f:FuncId)(args:List V)(ins:zg)(v:List PanicEntry)(outs:zg):Prop:=Wz P G f args ins (λ_=>.panicked v) .undef outs
def Ii:zg:=λ_=>none
def kC(P:Program)(G:ze)(f:FuncId)(args:List V)(res:V):Prop:=QR P G f args Ii res Ii
def U3(n:Nat)(args:List V)(ins:zg):St:={ n,t:=λi=>args.getD i .undef,b:=ins,u:=Qk }
def HR(look:zg)(c:V):Option (List V):=
 match c with
 | .ptr b 0 0=>(look b).map λk=>k.rows.flatten
 | _=>none
theorem Qs.HR{G:ze}{γ:Gh}{st:St}{tmps:Array Value}{w:World}(h:Qs G γ st tmps w){c:V}{cells:List V}(hc:HR st.b c=some cells)
  {v:Value} (hr:Qu γ w st.b st.u c v):∃B o,v=.pointer (some ⟨B,o,none⟩)/\G3 γ w st.b st.u B o cells:=by
 unfold EV.HR at hc
 split at hc
 ·rename_i b
  obtain⟨k,hk,rfl⟩:=zE.1 hc
  obtain⟨B,o,rfl,hl⟩:=hr.Zk hk
  refine⟨B,o+(0 * k.size+0),rfl,?_⟩
  rcases h.b b k hk with⟨v1,_⟩|hm|⟨_,B2,o2,cs2,e2,h1,h2,h3,h4,h5,h6,h7,h8⟩
  ·grind
  ·exact(hm.small (hr.Zl hk)).elim
  rw[hl] at h1;simp only[zy,zJ] at h1
  obtain⟨rfl,rfl⟩:=h1
  intro j c' hc'
  obtain⟨v,q1,q2,_⟩:=h6 j c' hc'
  refine⟨v,?_,q2⟩
  rw[h3.cellAt];simpa using q1
 ·simp at hc
def Co(P:Program)(st:St):ResultVar->Option V
 | .tmp t=>some (st.t t)
 | .cell a t=>match Ai P st.b t (st.t a) with
  | some c=>some c
  | none=>(HR st.b (st.t a)).bind (F6 P t)
def L2(P:Program)(st:St)(rs:List ResultVar):Option V:=
 match rs.mapM (Co P st) with
 | some [c]=>some c
 | some cs=>some (.Qt cs)
 | none=>none
def Lw(tmps:Array Value):ResultVar->Sem Value
 | .tmp t=>pure (tmps.getD t undef)
 | .cell a t => do loadVar t (<- asAddr (tmps.getD a undef))
theorem XH(fn : Func)(tmps : Array Value) : results fn tmps = (do let vs <- fn.results.mapM (Lw tmps); pure (if h : vs.size = 1 then vs[0] else .tuple vs)) := by
 rfl
theorem VX{P:Program}{G:ze}{γ:Gh}{st:St}{tmps:Array Value}{w:World}(hs:Qs G γ st tmps w){r:ResultVar}{c:V}(h:Co P st r=some c) :
  ∃v,(Lw tmps r).run P w=.ok v w/\Qu γ w st.b st.u c v:=by
 cases r with
 | tmp t=>simp only[Co,zy] at h;subst h;exact⟨_,rfl,hs.t t⟩
 | cell a t=>
  obtain⟨B,o,cells,hv,hc,h2⟩:∃B o cells,tmps.getD a undef=.pointer (some ⟨B,o,none⟩)/\G3 γ w st.b st.u B o cells/\F6 P t cells=some c:=by
   simp only[Co] at h
   split at h
   ·rename_i c' hl
    simp only[zy] at h;subst h
    obtain⟨cells,h1,h2⟩:=zV.1 hl
    obtain⟨B,o,hv,hc⟩:=hs.Jo h1 (hs.t a)
    grind
   ·obtain⟨cells,h1,h2⟩:=zV.1 h
    obtain⟨B,o,hv,hc⟩:=hs.HR h1 (hs.t a)
    grind
  obtain⟨x,hx,hd⟩:=Yp (P:=P) h2 hc
  refine⟨x,?_,hd⟩
  show (do loadVar t (<- asAddr (tmps.getD a undef)) : Sem Value).run P w = _
  grind [Sem.run_bind,Sem.run_pure,Result.andThen_ok,asAddr]
theorem EN{P:Program}{G:ze}{γ:Gh}{st:St}{tmps:Array Value}{w:World}(hs:Qs G γ st tmps w):∀{rs:List ResultVar} {cs:List V},rs.mapM (Co P st)=some cs->
  ∃vs:List Value,(rs.mapM (Lw tmps)).run P w=.ok vs w/\U4 γ w st.b st.u cs vs.toArray
 | [],cs,h=>by simp at h;subst h;exact⟨[],rfl,rfl,(by grind)⟩
 | r :: rs,cs,h=>by
  simp only[List.mapM_cons,Option.bind_eq_bind,zV,Option.pure_def,zy] at h
  obtain⟨c,h1,cs',h2,rfl⟩:=h
  obtain⟨v,hv,hr⟩:=VX hs h1
  obtain⟨vs,hvs,hl,hp⟩:=EN hs h2
  refine⟨v :: vs,?_,?_,?_⟩
  ·simp_all
  ·grind
  grind
theorem P4{P:Program}{G:ze}{γ:Gh}{st:St}{tmps:Array Value}{w:World}(hs:Qs G γ st tmps w){fn:Func}{c:V}(h:L2 P st fn.results.toList=some c) :
  ∃v,(results fn tmps).run P w=.ok v w/\Qu γ w st.b st.u c v:=by
 unfold L2 at h
 cases hm:fn.results.toList.mapM (Co P st) with
 | none=>simp[hm] at h
 | some cs=>
  obtain⟨vs,hvs,hl,hp⟩:=EN hs hm
  have hrun:(fn.results.mapM (Lw tmps)).run P w=.ok vs.toArray w:=by
   rw[Array.mapM_eq_mapM_toList,Sem.run_map,hvs,zN]
  have hres:(results fn tmps).run P w=.ok (if h:vs.toArray.size=1 then vs.toArray[0] else .tuple vs.toArray) w:=by
   rw[XH,zM,hrun,zN];rfl
  rw[hm] at h
  have hlen:vs.length=cs.length:=by simpa using hl
  rcases cs with _|⟨c1,_|⟨c2,cs'⟩⟩
  ·obtain rfl:vs=[]:=(by grind)
   obtain rfl:V.Qt []=c:=zW h
   exact⟨.tuple #[],by rw[hres];rfl,.Qt [] [] rfl (by grind)⟩
  ·rcases vs with _|⟨v1,_|⟨v2,vs'⟩⟩
   ·simp at hlen
   ·obtain rfl:c1=c:=zW h
    exact⟨v1,by rw[hres];rfl,hp 0 _ _ rfl rfl⟩
   grind
  ·rcases vs with _|⟨v1,_|⟨v2,vs'⟩⟩
   ·simp at hlen
   ·simp at hlen
   ·obtain rfl:V.Qt (c1 :: c2 :: cs')=c:=zW h
    exact⟨.tuple (v1 :: v2 :: vs').toArray,by grind,.Qt _ _ hlen (by grind)⟩
def NP(P:Program)(rs:List ResultVar)(res:V)(outs:zg)(e:Exit)(st:St):Prop:=
 (e=.normal\/e=.ret)/\L2 P st rs=some res/\∀b k,outs b=some k->st.b b=some k
mutual
def YZ:V->Bool
 | .int _ _=>true|.bool _=>true|.str _=>true|.Zf=>true|.Zd=>true|.Qj=>true|.QP _=>true
 | .sl _ _ _=>true|.snap _=>true|.Zw _=>true
 | .fn _ a b=>AK a&&AK b
 | .agg l=>AK l
 | .Qt l=>AK l
 | .ref _ _ _=>false|.ptr _ _ _=>false|.undef=>false|.mp _=>false
def AK:List V->Bool
 | []=>true
 | c :: l=>YZ c&&AK l
end
mutual
def L9:V->Bool
 | .int _ _=>true|.bool _=>true|.str _=>true|.Zf=>true|.Zd=>true|.Qj=>true|.QP _=>true
 | .agg l=>Ab l
 | .Qt l=>Ab l
 | .fn _ a b=>Ab a&&Ab b
 | .sl _ _ _=>false|.snap _=>false|.ref _ _ _=>false|.ptr _ _ _=>false|.undef=>false|.mp _=>false|.Zw _=>true
def Ab:List V->Bool
 | []=>true
 | c :: l=>L9 c&&Ab l
end
theorem JB:∀{l:List V},AK l=true->∀{i:Nat} {c:V},l[i]?=some c->YZ c=true
 | [],_,i,c,h=>by simp at h
 | x :: l,hl,i,c,h=>by
  simp only[AK,zD] at hl
  cases i with
  | zero=>grind
  | succ i=>exact JB hl.2 (by simpa using h)
theorem T2:∀{l:List V},Ab l=true->∀{i:Nat} {c:V},l[i]?=some c->L9 c=true
 | [],_,i,c,h=>by simp at h
 | x :: l,hl,i,c,h=>by
  simp only[Ab,zD] at hl
  cases i with
  | zero=>grind
  | succ i=>exact T2 hl.2 (by simpa using h)
theorem K3.flat{Qp lim':Nat->Nat}{w w':World}{c:V}{v:Value}(h:K3 Qp w c v):L9 c=true->K3 lim' w' c v:=by
 induction h with
 | int k n=>exact λ_=>.int k n
 | bool b=>exact λ_=>.bool b
 | str s=>exact λ_=>.str s
 | Zf=>exact λ_=>.Zf
 | Zd=>exact λ_=>.Zd
 | QP l=>exact λ_=>.QP l
 | Qj=>exact λ_=>.Qj
 | Zw x hx=>exact λ_=>.Zw x hx
 | sl=>grind [L9]
 | Zc=>grind [L9]
 | snap=>grind [L9]
 | fn f first captured fs cs h1 h2 _ _ ih1 ih2=>
  intro h
  simp only[L9,zD] at h
  exact .fn f first captured fs cs h1 h2 (by grind [T2]) (by grind [T2])
theorem Qu.flat{γ γ':Gh}{w w':World}{bs bs':zg}{u u':zh}{c:V}{v:Value}(h:Qu γ w bs u c v):L9 c=true->Qu γ' w' bs' u' c v:=by
 induction h with
 | data h=>exact λhf=>.data (h.flat hf)
 | undef=>grind [L9]
 | ref=>grind [L9]
 | Jk=>grind [L9]
 | YW=>grind [L9]
 | Qb=>grind [L9]
 | ptr=>grind [L9]
 | QK=>grind [L9]
 | mp=>grind [L9]
 | QT=>grind [L9]
 | fn f first captured fs cs h1 h2 _ _ ih1 ih2=>
  intro h
  simp only[L9,zD] at h
  exact .fn f first captured fs cs h1 h2 (by grind [T2]) (by grind [T2])
 | agg cells vs h1 _ ih=>intro h;exact .agg cells vs h1 (by grind [T2,L9])
 | Qt cells vs h1 _ ih=>intro h;exact .Qt cells vs h1 (by grind [T2,L9])
theorem Qu.AW{γ γ':Gh}{w w':World}{bs bs':zg}{u u':zh}(hm:∀B o v,o < γ.Qp B->cellAt w B o=some v->o < γ'.Qp B/\cellAt w' B o=some v){c:V}{v:Value}(h:Qu γ w bs u c v) :
  YZ c=true->Qu γ' w' bs' u' c v:=by
 induction h with
 | data h=>exact λ_=>.data (h.mono hm)
 | undef=>grind [YZ]
 | ref=>grind [YZ]
 | Jk=>grind [YZ]
 | YW=>grind [YZ]
 | Qb=>grind [YZ]
 | ptr=>grind [YZ]
 | QK=>grind [YZ]
 | mp=>grind [YZ]
 | QT=>grind [YZ]
 | fn f first captured fs cs h1 h2 _ _ ih1 ih2=>
  intro h
  simp only[YZ,zD] at h
  exact .fn f first captured fs cs h1 h2 (by grind [JB]) (by grind [JB])
 | agg cells vs h1 _ ih=>intro h;exact .agg cells vs h1 (by grind [JB,YZ])
 | Qt cells vs h1 _ ih=>intro h;exact .Qt cells vs h1 (by grind [JB,YZ])
theorem VO{P:Program}{w:World}{a:Act}{o:Oper}{x:Operand}{xs:Array Operand}{ts:Array TypeId}{f:FuncId}{fn:Func}{fs cs:Array Value}(ho:o.op=.call { callee:=.value x,args:=xs,argTypes:=ts })
  (hx:a.eval x=.func (.func f) fs cs) (hfn:P.funcs[f]?=some fn) (hname:(fn.name== "runtime.NumGoroutine")=false) (hbody:fn.body.isNone=false) :
  (execOp a.eval o).run P w=.ok (.enter f (fs++xs.map a.eval++cs)) w:=by
 have e : execOp a.eval o = (do let d <- Deferred.ofValue (a.eval x) (xs.map a.eval); invoke d.target d.args) := by
  unfold execOp;rw[ho];rfl
 rw[e,hx]
 have hname':¬fn.name= "runtime.NumGoroutine":=by grind
 have hbody':¬fn.body=none:=by grind
 simp[Deferred.ofValue,invoke,callFunc,hfn,hname',hbody']
theorem U4.append{γ:Gh}{w:World}{bs:zg}{u:zh}{c1 c2:List V}{v1 v2:Array Value}(h1:U4 γ w bs u c1 v1)(h2:U4 γ w bs u c2 v2):U4 γ w bs u (c1++c2) (v1++v2):=by
 refine⟨by simp[h1.1,h2.1],λi c v hc hv=>?_⟩
 by_cases hi:i < c1.length
 ·rw[wg hi] at hc
  rw[Array.getElem?_append_left (by rw[h1.1];exact hi)] at hv
  exact h1.2 i c v hc hv
 ·rw[wl (by omega)] at hc
  rw[Array.getElem?_append_right (by rw[h1.1];omega),h1.1] at hv
  exact h2.2 _ c v hc hv
def ZK(G:ze)(st:St)(x:Operand)(xs:List Operand):Option (FuncId×List V):=
 match st.ev G x,iL (st.ev G) xs with
 | some (.fn f first captured),some cs=>some (f,first++cs++captured)
 | _,_=>none
theorem Ky{P:Program}{G:ze}{γ:Gh}{st:St}{a:Act}{w:World}(hs:Qs G γ st a.tmps w){o:Oper}{x:Operand}{xs:Array Operand}{ts:Array TypeId}{f:FuncId}{cs:List V}{fn:Func}
  (ho:o.op=.call { callee:=.value x,args:=xs,argTypes:=ts }) (h:ZK G st x xs.toList=some (f,cs)) (hfn:P.funcs[f]?=some fn) (hname:(fn.name== "runtime.NumGoroutine")=false) (hbody:fn.body.isNone=false) :
  ∃as:Array Value,(execOp a.eval o).run P w=.ok (.enter f as) w/\U4 γ w st.b st.u cs as:=by
 unfold ZK at h
 split at h
 ·rename_i f' first captured cs' hx hcs
  simp only[zy,zJ] at h
  obtain⟨rfl,rfl⟩:=h
  obtain⟨fs,caps,hv,l1,l2,p1,p2⟩:=(hs.ev hx).HE
  have hm:=Wt hs hcs
  have k:(xs.toList.map a.eval).toArray=xs.map a.eval:=(by grind)
  rw[k] at hm
  refine⟨_,VO ho hv hfn hname hbody,?_⟩
  exact(U4.append (U4.append ⟨by simpa using l1,(by grind)⟩ hm) ⟨by simpa using l2,(by grind)⟩)
 ·simp at h
end Go.EV
namespace Go.EV
open Go
structure Src where
 b:Option Nat
 off:Nat
 size:Nat
 Qn:Bool
 rows:List (List V)
def St.QJ(st:St)(b:Option Nat):St:=match b with|some i=>st.QC i|none=>st
theorem Fy(st:St)(x:Option Nat)(b:Nat):(st.QJ x).b b=if x=some b then none else st.b b:=by
 cases x with
 | none=>simp[St.QJ]
 | some i=>
  simp only[St.QJ,St.QC,zy]
  grind
def LV(look:zg)(size:Nat)(c:V):Option Src:=
 match c with
 | .Qj=>some ⟨none,0,size,true,[]⟩
 | .ref b off len=>match look b with
  | some k=>if k.size=size/\off+len<=k.rows.length/\(k.Qn=true\/off+len=k.rows.length) then some ⟨some b,off,size,k.Qn,(k.rows.drop off).take len⟩ else none
  | none=>none
 | _=>none
def Xs(look:zg)(size:Nat)(dst:Option Nat)(c:V):Option Src:=
 match c with
 | .Qj=>some ⟨none,0,size,true,[]⟩
 | .sl _ s rows=>if s=size then some ⟨none,0,size,true,rows.map (·.map V.strip)⟩ else none
 | .ref b off len=>match look b with
  | some k=>if k.size=size/\off+len<=k.rows.length then
    (if dst=some b then some ⟨none,0,size,true,((k.rows.drop off).take len).map (·.map V.strip)⟩ else some ⟨some b,off,size,true,(k.rows.drop off).take len⟩) else none
  | none=>none
 | _=>none
def MI(P:Program)(look:zg)(t t2:TypeId)(x y:V):Option (Src×Src×Qi):=
 match P.underlying t,P.underlying t2 with
 | some (.slice e),some (.slice _)=>match P.info? e with
  | some ei=>match LV look ei.size x with
   | some ds=>match Xs look ei.size ds.b y with
    | some ss=>if (ds.rows.length+ss.rows.length) * ei.bytes<=140737488355328/\0 < ei.bytes/\(zeroV P e).map List.length=some ei.size then some (ds,ss,⟨ei.size,ds.Qn,ds.rows++ss.rows⟩) else none
    | none=>none
   | none=>none
  | none=>none
 | _,_=>none
def Ws(ds ss:Src)(d:Nat)(x:Option K7):Option K7:=
 match x with
 | some (.nest b i j)=>
  if ds.b=some b then (if ds.off<=i/\i < ds.off+ds.rows.length then some (.nest d (i - ds.off) j) else none)
  else if ss.b=some b then (if ss.off<=i/\i < ss.off+ss.rows.length then some (.nest d (ds.rows.length+(i - ss.off)) j) else none)
  else some (.nest b i j)
 | x=>x
def Gh.move(γ:Gh)(ds ss:Src)(d B o:Nat)(Qp:Nat):Gh where
 loc:=λb=>if b=d then some (B,o) else γ.loc b
 own:=λX=>if X=B then some (.ZQ d) else Ws ds ss d (γ.own X)
 Qp:=λX=>if X=B then Qp else γ.Qp X
theorem Io{ds ss:Src}{d b i j:Nat}(h1:ds.b≠some b)(h2:ss.b≠some b):Ws ds ss d (some (.nest b i j))=some (.nest b i j):=by
 simp_all [if_neg,Ws]
def HT(γ:Gh)(w:World)(bs:zg)(u:zh)(s:Src)(vs:List Value):Prop:=
 (∀r,r∈s.rows->r.length=s.size)/\vs.length=s.rows.length * s.size/\
  ∀(i:Nat) (c:V),s.rows.flatten[i]?=some c->∃v,vs[i]?=some v/\Qu γ w bs u c v/\v.oneCell'=true/\
   (match s.b with|some b=>D3 γ w (.nest b (s.off+i / s.size) (i % s.size)) c v|none=>c.QN=false)
theorem HD{s:Nat}(rows:List (List V))(hs:∀r,r∈rows->r.length=s)(off len i:Nat)(c:V)(h:((rows.drop off).take len).flatten[i]?=some c) :
  rows.flatten[off * s+i]?=some c/\i < len * s:=by
 have hs':∀r,r∈(rows.drop off).take len->r.length=s:=(by grind)
 rcases wV s with h0|hpos
 ·grind [List.flatten_eq_nil_iff,List.length_eq_zero_iff]
 ·have e:i=(i / s) * s+i % s:=by grind [Nat.mul_comm,Nat.div_add_mod]
  have hm:=Nat.mod_lt i hpos
  rw[e,U7 _ hs' _ _ hm] at h
  obtain⟨r,hr,hc⟩:=zV.1 h
  rw[wR] at hr
  split at hr
  ·rename_i hlt
   rw[wT] at hr
   refine⟨?_,?_⟩
   ·rw[e,show off * s+(i / s * s+i % s)=(off+i / s) * s+i % s by rw[wu];omega,U7 _ hs _ _ hm,hr];exact hc
   ·have:(i / s+1) * s<=len * s:=wF _ hlt
    grind
  ·simp at hr
theorem BM.rd{γ:Gh}{w:World}{bs:zg}{u:zh}{b:Nat}{k:Qi}{o:Nat}{cs:Array Value}{off len:Nat}(Qn:Bool)
  (h4:∀r,r∈k.rows->r.length=k.size) (h5:o+k.rows.length * k.size<=cs.size)
  (h6:∀(i:Nat) (c:V),k.rows.flatten[i]?=some c->∃v,cs[o+i]?=some v/\Qu γ w bs u c v/\v.oneCell'=true/\D3 γ w (.nest b (i / k.size) (i % k.size)) c v)
  (hlen:off+len<=k.rows.length) :
  HT γ w bs u ⟨some b,off,k.size,Qn,(k.rows.drop off).take len⟩ ((cs.toList.drop (o+off * k.size)).take (len * k.size)):=by
 have hl:((k.rows.drop off).take len).length=len:=by simp;omega
 refine⟨(by grind),?_,λi c hc=>?_⟩
 ·simp only[wN,List.length_drop,hl,Array.length_toList]
  have:(off+len) * k.size<=k.rows.length * k.size:=wF _ hlen
  grind
 ·obtain⟨hc',hi⟩:=HD k.rows h4 off len i c hc
  obtain⟨v,a1,a2,a3,a4⟩:=h6 _ c hc'
  refine⟨v,?_,a2,a3,?_⟩
  ·grind
  grind [Nat.eq_zero_or_pos,Nat.mul_comm,Nat.mul_add_div,Nat.mul_add_mod,D3]
theorem Qs.ND{G:ze}{γ:Gh}{st:St}{tmps:Array Value}{w w1:World}(h:Qs G γ st tmps w){d:Nat}{ds ss:Src}{vd vsr:List Value}{B o Qp:Nat}{cs:Array Value}{e:TypeId}
  (hM:ds.size < Y8) (hu:st.u d=false) (hd:HT γ w st.b st.u ds vd) (hss:HT γ w st.b st.u ss vsr) (hsz:ds.size=ss.size) (hne:∀b,ds.b=some b->ss.b≠some b)
  (hw1:E9 w1 B cs e) (hroom:o+(ds.rows.length+ss.rows.length) * ds.size<=cs.size)
  (hcells:∀j,j < vd.length+vsr.length->cs[o+j]?=(vd++vsr)[j]?)
  (g:Qa γ w (γ.move ds ss d B o Qp) w1) (hkeep:∀b k X o',st.b b=some k->ds.b≠some b->ss.b≠some b->γ.loc b=some (X,o')->γ.own X=some (.ZQ b)->X≠B/\w1.heap[X]?=w.heap[X]?)
  (hB:B < w1.heap.size) (hold:∀X t,γ.own X=some t->X < w1.heap.size)
  (hlim:ds.Qn=true->Qp=0) (hlim2:Qp<=o+(ds.rows.length+ss.rows.length) * ds.size)
  (hnest:∀X b i j,γ.own X=some (.nest b i j)->X≠B) :
  Qs G (γ.move ds ss d B o Qp) (((st.QJ ds.b).QJ ss.b).Qh d ⟨ds.size,ds.Qn,ds.rows++ss.rows⟩) tmps w1/\
   F0 γ st.b st.u (γ.move ds ss d B o Qp) (((st.QJ ds.b).QJ ss.b).Qh d ⟨ds.size,ds.Qn,ds.rows++ss.rows⟩).b (((st.QJ ds.b).QJ ss.b).Qh d ⟨ds.size,ds.Qn,ds.rows++ss.rows⟩).u:=by
 have hb2:∀b,b≠d->(((st.QJ ds.b).QJ ss.b).Qh d ⟨ds.size,ds.Qn,ds.rows++ss.rows⟩).b b=if ds.b=some b\/ss.b=some b then none else st.b b:=by
  intro b hb
  simp only[St.Qh]
  rw[if_neg hb,Fy,Fy]
  grind
 have hu2:∀b,st.u b=true->(((st.QJ ds.b).QJ ss.b).Qh d ⟨ds.size,ds.Qn,ds.rows++ss.rows⟩).u b=true:=by
  intro b hb
  simp only[St.Qh]
  split
  ·rfl
  ·cases ds.b<;>cases ss.b<;>simp only[St.QJ,St.QC]<;>(try split)<;>(try split)<;>first|rfl|exact hb
 have bl:F0 γ st.b st.u (γ.move ds ss d B o Qp) (((st.QJ ds.b).QJ ss.b).Qh d ⟨ds.size,ds.Qn,ds.rows++ss.rows⟩).b (((st.QJ ds.b).QJ ss.b).Qh d ⟨ds.size,ds.Qn,ds.rows++ss.rows⟩).u:=by
  refine⟨hu2,λb hb hn=>?_,λb k hk=>⟨hu2 b (h.u b k hk),?_⟩⟩
  ·grind
  ·have:b≠d:=λe=>by subst e;rw[h.LL hu] at hk;simp at hk
   rw[hb2 b this]
   split
   ·exact .inl rfl
   ·exact .inr ⟨k,hk,rfl,λ_=>rfl,by simp only[Gh.move];rw[if_neg this]⟩
 refine⟨⟨?_,λi=>?_,λb k hk=>?_,λb k hk=>?_,h.g.grow g,λX t hX=>?_⟩,bl⟩
 ·have:(((st.QJ ds.b).QJ ss.b).Qh d ⟨ds.size,ds.Qn,ds.rows++ss.rows⟩).n=st.n:=by cases ds.b<;>cases ss.b<;>rfl
  rw[this];exact h.n
 ·have:(((st.QJ ds.b).QJ ss.b).Qh d ⟨ds.size,ds.Qn,ds.rows++ss.rows⟩).t=st.t:=by cases ds.b<;>cases ss.b<;>rfl
  rw[this];exact(h.t i).mono g bl
 ·by_cases hbd:b=d
  ·subst hbd
   simp only[St.Qh,if_pos] at hk
   simp only[zy] at hk;subst hk
   refine .inr (.inr ⟨hM,B,o,cs,e,by simp[Gh.move],by simp[Gh.move],hw1,λr hr=>?_,by grind,λi c hc=>?_,(by grind [Gh.move]),by grind [Gh.move]⟩)
   ·rcases wa.1 hr with hr|hr
    ·exact hd.1 r hr
    ·rw[hsz];exact hss.1 r hr
   ·simp only[List.flatten_append] at hc
    have dl:ds.rows.flatten.length=ds.rows.length * ds.size:=by
     rw[List.length_flatten]
     have:ds.rows.map List.length=List.replicate ds.rows.length ds.size:=List.eq_replicate_iff.2 ⟨by simp,λx hx=>by obtain⟨r,hr,rfl⟩:=zH.1 hx;exact hd.1 r hr⟩
     rw[this];simp
    by_cases hi:i < ds.rows.flatten.length
    ·rw[wg hi] at hc
     obtain⟨v,a1,a2,a3,a4⟩:=hd.2.2 i c hc
     refine⟨v,?_,a2.mono g bl,a3,?_⟩
     ·grind
     ·cases hdb:ds.b with
      | none=>rw[hdb] at a4;exact .Zh a4
      | some b0=>
       rw[hdb] at a4
       simp only at a4
       replace a4:=a4.grow g (λX hX=>by
        simp only[Gh.move];grind)
       unfold D3 at a4 ⊢
       split at a4
       ·rename_i size' rows' a l cp
        rcases a4 with a4|a4
        ·exact .inl a4
        refine .inr ?_
        have hne':a.block≠B:=hnest _ _ _ _ a4.1.1
        have hpos:0 < ds.size:=by
         grind
        have hq:i / ds.size < ds.rows.length:=by rw[Nat.div_lt_iff_lt_mul hpos];omega
        simp only[Gh.move]
        simp_all [if_neg,if_true,if_pos,Ws]
       ·trivial
    ·rw[wl (by omega)] at hc
     obtain⟨v,a1,a2,a3,a4⟩:=hss.2.2 _ c hc
     have hsl:i - ds.rows.flatten.length < vsr.length:=(by grind)
     refine⟨v,?_,a2.mono g bl,a3,?_⟩
     ·rw[hcells i (by rw[hd.2.1];omega),wl (by rw[hd.2.1];omega),hd.2.1,<-dl];exact a1
     ·cases hsb:ss.b with
      | none=>rw[hsb] at a4;exact .Zh a4
      | some b0=>
       rw[hsb] at a4
       simp only at a4
       replace a4:=a4.grow g (λX hX=>by
        simp only[Gh.move];grind)
       unfold D3 at a4 ⊢
       split at a4
       ·rename_i size' rows' a l cp
        rcases a4 with a4|a4
        ·exact .inl a4
        refine .inr ?_
        have hne':a.block≠B:=hnest _ _ _ _ a4.1.1
        have hpos:0 < ss.size:=by
         rcases wV ss.size with h0|h0
         ·rw[hss.2.1,h0] at hsl;omega
         ·exact h0
        have hdsb:ds.b≠some b0:=λhx=>hne b0 hx hsb
        have hq:(i - ds.rows.length * ds.size) / ss.size < ss.rows.length:=by rw[Nat.div_lt_iff_lt_mul hpos];rw[dl,hss.2.1] at hsl;exact hsl
        simp only[Gh.move]
        rw[if_neg hne',if_neg hne',a4.1.1]
        refine⟨⟨?_,a4.1.2⟩,a4.2⟩
        simp only[Ws,hsb,if_true]
        rw[if_neg hdsb,dl]
        have hin:ss.off<=ss.off+(i - ds.rows.length * ds.size) / ss.size/\ss.off+(i - ds.rows.length * ds.size) / ss.size < ss.off+ss.rows.length:=(by grind)
        rw[if_pos hin,Nat.add_sub_cancel_left]
        have hge:ds.rows.length * ss.size<=i:=by grind
        have e1:i / ds.size=ds.rows.length+(i - ds.rows.length * ds.size) / ss.size:=by
         rw[hsz]
         conv=>lhs;rw[show i=ss.size * ds.rows.length+(i - ds.rows.length * ss.size) by rw[wP];omega]
         rw[Nat.mul_add_div hpos]
        have e2:i % ds.size=(i - ds.rows.length * ds.size) % ss.size:=by
         rw[hsz]
         conv=>lhs;rw[show i=ss.size * ds.rows.length+(i - ds.rows.length * ss.size) by rw[wP];omega]
         rw[Nat.mul_add_mod]
        rw[e1,e2]
       ·trivial
  ·rw[hb2 b hbd] at hk
   split at hk
   ·simp at hk
   ·rename_i hno
    simp only[not_or] at hno
    rcases h.b b k hk with⟨v1,v2⟩|hm|⟨hM2,X,o',cs',e',a1,a2,a3,a4,a5,a6,a7,a8⟩
    ·exact .inl ⟨by simp only[Gh.move];rw[if_neg hbd];exact v1,v2⟩
    ·refine .inr (.inl (hm.same (by simp only[Gh.move];rw[if_neg hbd]) (λX q1 q2=>?_) λc v hr=>hr.mono g bl))
     obtain⟨hXB,hX⟩:=hkeep b k X 0 hk hno.1 hno.2 q1 q2
     exact⟨by simp only[Gh.move];rw[if_neg hXB,q2];rfl,hX⟩
    ·obtain⟨hXB,hX⟩:=hkeep b k X o' hk hno.1 hno.2 a1 a2
     refine .inr (.inr ⟨hM2,X,o',cs',e',by simp only[Gh.move];rw[if_neg hbd];exact a1,by simp only[Gh.move];rw[if_neg hXB,a2];rfl,a3.of_eq hX,a4,a5,λi c hc=>?_,
      by simp only[Gh.move];rw[if_neg hXB];exact a7,by simp only[Gh.move];rw[if_neg hXB];exact a8⟩)
     obtain⟨v,b1,b2,b3,b4⟩:=a6 i c hc
     refine⟨v,b1,b2.mono g bl,b3,(b4.grow g (λX hX=>by
      simp only[Gh.move];rw[if_neg (hnest X _ _ _ hX)];exact zI _)).mono λY hY=>?_⟩
     have hYB:=hnest _ _ _ _ hY
     simp only[Gh.move]
     rw[if_neg hYB,if_neg hYB,hY]
     exact⟨Io hno.1 hno.2,zI _⟩
 ·by_cases hbd:b=d
  ·subst hbd;simp[St.Qh]
  ·rw[hb2 b hbd] at hk
   split at hk
   ·simp at hk
   ·exact hu2 b (h.u b k hk)
 ·simp only[Gh.move] at hX
  split at hX
  ·rename_i hXB;rw[hXB];exact hB
  ·cases ho:γ.own X with
   | none=>rw[ho] at hX;simp[Ws] at hX
   | some t'=>exact hold X t' ho
section
variable {P:Program}
theorem WW{w:World}(t t2 ty e e2:TypeId)(i:TypeInfo)(z:Value)(ht:P.underlying t=some (.slice e))(ht2:P.underlying t2=some (.slice e2))(hi:P.info? e=some i)(hz:i.zero=some z)
  (base:Option Addr) (n cap m:Nat) (y:Value) (olds news:List Value) (hlen:∀w1,(Builtin.lenOf y).run P w1=.ok m w1)
  (hold:∀w1:World,w1.heap=w.heap->(Builtin.firstCells i.size n (.slice base n cap)).run P w1=.ok olds.toArray w1)
  (hnew:∀w1:World,w1.heap=w.heap->(Builtin.firstCells i.size m y).run P w1=.ok news.toArray w1)
  (hg:cap < n+m) (h63:((n+m:Nat):Int)<=9223372036854775807) (hfit:Builtin.nextslicecap (n+m) cap * i.bytes<=281474976710656) :
  (Builtin.append_ #[t,t2] ty #[.slice base n cap,y]).run P w =
   .ok (.slice (some ⟨w.heap.size,0,none⟩) (n+m) (grownCap w (n+m) cap e)) (w.drew.alloc (.cells (olds.toArray++news.toArray++Builtin.zeroCells z.cells (grownCap w (n+m) cap e - (n+m))) e)):=by
 have hn:¬(n+m<=cap):=by omega
 have h63':¬(9223372036854775807 < ((n:Int)+(m:Int))):=by omega
 have h48':¬(281474976710656 < Builtin.nextslicecap (n+m) cap * i.bytes):=by omega
 have hf:=hnew w.drew rfl
 have hfo:=hold w.drew rfl
 simp[Builtin.append_,zF ht,zF ht2,sizeOf,typeInfo,zeroValue,hi,hz,hlen,hn,h63',h48',Question.forced,hf,hfo,newRow,grownCap]
 grind
theorem Mu{w:World}(t t2 ty e e2:TypeId)(i:TypeInfo)(ht:P.underlying t=some (.slice e))(ht2:P.underlying t2=some (.slice e2))(hi:P.info? e=some i)
  (B o n cap m:Nat) (y:Value) (news:List Value) (cs:Array Value) (ce:TypeId) (hlen:∀w1,(Builtin.lenOf y).run P w1=.ok m w1)
  (hnew:∀w1:World,w1.heap=w.heap->(Builtin.firstCells i.size m y).run P w1=.ok news.toArray w1)
  (hg:n+m<=cap) (hh:E9 w B cs ce) (h1:∀v,v∈news->v.oneCell'=true) (hroom:o+n * i.size+news.length<=cs.size) :
  (Builtin.append_ #[t,t2] ty #[.slice (some ⟨B,o,none⟩) n cap,y]).run P w=.ok (.slice (some ⟨B,o,none⟩) (n+m) cap) (World.QQ w B (E4 cs (o+n * i.size) news) ce):=by
 have hs:=F2 (P:=P) (B:=B) (o:=o+n * i.size) (e:=ce) news 0 w cs hh h1 (by omega)
 have hf:=hnew w rfl
 simp[Builtin.append_,zF ht,zF ht2,sizeOf,typeInfo,hi,hlen,hg,hf,Addr.add_eq,hs]
theorem Dc{w:World}(t t2 ty e e2:TypeId)(i:TypeInfo)(ht:P.underlying t=some (.slice e))(ht2:P.underlying t2=some (.slice e2))(hi:P.info? e=some i)
  (base:Option Addr) (y:Value) (cap:Nat) (hlen:∀w1,(Builtin.lenOf y).run P w1=.ok 0 w1) (hnew:∀w1:World,w1.heap=w.heap->(Builtin.firstCells i.size 0 y).run P w1=.ok #[] w1) :
  (Builtin.append_ #[t,t2] ty #[.slice base 0 cap,y]).run P w=.ok (.slice base 0 cap) w:=by
 have hf:=hnew w rfl
 cases base<;>simp[Builtin.append_,zF ht,zF ht2,sizeOf,typeInfo,hi,hlen,hf,storeCells]
end
theorem WR{P:Program}{w:World}{B o n size l cap:Nat}{vs:List Value}(hl:vs.length=n * size)(hv:∀(j:Nat) (v:Value),vs[j]?=some v->cellAt w B (o+j)=some v) :
  ∀w1:World,w1.heap=w.heap->(Builtin.firstCells size n (.slice (some ⟨B,o,none⟩) l cap)).run P w1=.ok vs.toArray w1:=(by grind [run_firstCells_some,Addr.add_eq,cellAt,World.cell?])
structure BJ(P:Program)(γ:Gh)(w:World)(bs:zg)(u:zh)(s:Src)(v:Value)(vs:List Value):Prop where
 rd:HT γ w bs u s vs
 len:∀w1,(Builtin.lenOf v).run P w1=.ok s.rows.length w1
 first:∀w1:World,w1.heap=w.heap->(Builtin.firstCells s.size s.rows.length v).run P w1=.ok vs.toArray w1
theorem Yk{P:Program}{γ:Gh}{w:World}{bs:zg}{u:zh}(b:Option Nat)(off size:Nat)(Qn:Bool){v:Value}(h:v=.slice none 0 0\/∃a,v=.slice (some a) 0 0) :
  BJ P γ w bs u ⟨b,off,size,Qn,[]⟩ v [] where
 rd:=⟨λr hr=>by simp at hr,by simp,λi c hc=>by simp at hc⟩
 len:=by rcases h with rfl|⟨a,rfl⟩<;>exact λ_=>rfl
 first:=by
  rcases h with rfl|⟨a,rfl⟩
  ·exact λ_ _=>rfl
  ·intro w1 _
   show (loadCells a (0 * size)).run P w1=_
   rw[Nat.zero_mul];rfl
theorem S9(rows:List (List V)):(rows.map (·.map V.strip)).flatten=rows.flatten.map V.strip:=by
 grind
theorem HT.strip{γ:Gh}{w:World}{bs:zg}{u:zh}{s:Src}{vs:List Value}(h:HT γ w bs u s vs)(b:Option Nat)(off:Nat)(hb:b=none)(Qn:Bool):HT γ w bs u ⟨b,off,s.size,Qn,s.rows.map (·.map V.strip)⟩ vs:=by
 subst hb
 refine⟨λr hr=>?_,by rw[wq];exact h.2.1,λi c hc=>?_⟩
 ·obtain⟨r',hr',rfl⟩:=zH.1 hr
  rw[wq];exact h.1 r' hr'
 ·simp only[S9,zX,zE] at hc
  obtain⟨c',hc',rfl⟩:=hc
  obtain⟨v,a1,a2,a3,_⟩:=h.2.2 i c' hc'
  exact⟨v,a1,a2.strip,a3,JZ c'⟩
def Qw1(γ:Gh)(w:World)(st:St)(s:Src)(v:Value)(vs:List Value):Prop:=
 (s.rows=[]/\(v=.slice none 0 0\/∃B,v=.slice (some B) 0 0))\/
  ∃b k B o cs e cap,s.b=some b/\st.b b=some k/\γ.loc b=some (B,o)/\γ.own B=some (.ZQ b)/\E9 w B cs e/\
   v=.slice (some ⟨B,o+s.off * s.size,none⟩) s.rows.length cap/\s.rows.length<=cap/\o+(s.off+cap) * s.size<=cs.size/\
   (∀j,j < vs.length->cs[o+s.off * s.size+j]?=vs[j]?)/\(s.Qn=true->γ.Qp B=0)/\γ.Qp B<=o+(s.off+s.rows.length) * s.size
theorem Eh{P:Program}{G:ze}{γ:Gh}{st:St}{tmps:Array Value}{w:World}(h:Qs G γ st tmps w){b off len:Nat}{k:Qi}(hk:st.b b=some k)(hlen:off+len<=k.rows.length){v:Value}
  (hr:Qu γ w st.b st.u (.ref b off len) v) (Qn:Bool) :
  ∃vs,BJ P γ w st.b st.u ⟨some b,off,k.size,Qn,(k.rows.drop off).take len⟩ v vs/\
   ((((k.rows.drop off).take len)=[]/\(v=.slice none 0 0\/∃B,v=.slice (some B) 0 0))\/
    ∃B o cs e cap,γ.loc b=some (B,o)/\γ.own B=some (.ZQ b)/\E9 w B cs e/\v=.slice (some ⟨B,o+off * k.size,none⟩) len cap/\len<=cap/\o+(off+cap) * k.size<=cs.size/\
     vs=(cs.toList.drop (o+off * k.size)).take (len * k.size)/\(k.Qn=true->γ.Qp B=0)/\γ.Qp B<=o+k.rows.length * k.size):=by
 have hl:((k.rows.drop off).take len).length=len:=by simp;omega
 rcases hr.ZZ hk with⟨B,o,cap,rfl,hloc,_,hcap,hroom,hM,_⟩|⟨B,rfl,rfl,_⟩|⟨rfl,rfl,_⟩
 ·rcases h.b b k hk with⟨v1,_⟩|hm|⟨_,B',o',cs,e,h1,h2,h3,h4,h5,h6,h7,h8⟩
  ·grind
  ·exact(hm.small hM).elim
  ·rw[hloc] at h1;simp only[zy,zJ] at h1
   obtain⟨rfl,rfl⟩:=h1
   have rd:=BM.rd (b:=b) (w:=w) (γ:=γ) (bs:=st.b) (u:=st.u) Qn h4 h5 h6 hlen
   obtain⟨cs',e',fz,r1,r2⟩:=hroom
   obtain⟨fz3,h3e,_⟩:=id h3
   rw[h3e] at r1;simp only[zy,Obj.cells.injEq] at r1
   obtain⟨rfl,rfl,rfl⟩:=r1
   refine⟨_,⟨rd,λ_=>by simp[Builtin.lenOf,hl],?_⟩,(by grind)⟩
   simp only[hl]
   refine WR (by have:=rd.2.1;grind) λj v hv=>?_
   rw[wR] at hv
   split at hv
   ·rw[wT] at hv
    rw[h3.cellAt]
    simpa using hv
   ·simp at hv
 ·have e0:(k.rows.drop off).take 0=[]:=by simp
  rw[e0]
  exact⟨[],Yk _ _ _ _ (.inr ⟨_,rfl⟩),(by grind)⟩
 ·have e0:(k.rows.drop off).take 0=[]:=by simp
  rw[e0]
  exact⟨[],Yk _ _ _ _ (.inl rfl),.inl ⟨rfl,.inl rfl⟩⟩
theorem BN{P:Program}{G:ze}{γ:Gh}{st:St}{tmps:Array Value}{w:World}(h:Qs G γ st tmps w){size:Nat}{db:Option Nat}{c:V}{s:Src}(hs:Xs st.b size db c=some s){v:Value}
  (hr:Qu γ w st.b st.u c v):s.size=size/\(∀b,db=some b->s.b≠some b)/\∃vs,BJ P γ w st.b st.u s v vs:=by
 unfold Xs at hs
 split at hs
 ·simp only[zy] at hs;subst hs
  have:=hr.QI;subst this
  exact⟨rfl,λb _=>by simp,[],Yk _ _ _ _ (.inl rfl)⟩
 ·rename_i own sz rows
  split at hs<;>simp at hs
  rename_i hsz
  subst hsz;subst hs
  refine⟨rfl,λb _=>by simp,?_⟩
  obtain⟨a,rfl,rfl⟩|⟨B,o,cap,vs,rfl,h1,h2,h3,h4⟩:=hr.Hi
  ·cases a with
   | none=>exact⟨[],Yk _ _ _ _ (.inl rfl)⟩
   | some a=>exact⟨[],Yk _ _ _ _ (.inr ⟨a,rfl⟩)⟩
  ·have fl:rows.flatten.length=rows.length * sz:=by
    rw[List.length_flatten]
    have:rows.map List.length=List.replicate rows.length sz:=List.eq_replicate_iff.2 (by grind)
    rw[this];simp
   have rd:HT γ w st.b st.u ⟨none,0,sz,true,rows.map (·.map V.strip)⟩ ((List.range (rows.length * sz)).map vs):=by
    refine⟨λr hr=>?_,by simp,λi c hc=>?_⟩
    ·grind
    ·simp only[S9,zX,zE] at hc
     obtain⟨c',hc',rfl⟩:=hc
     have hlt:i < rows.length * sz:=by grind
     exact⟨vs i,by simp[hlt],(Qu.data (h4 i c' hc')).strip,(h4 i c' hc').DO,JZ c'⟩
   refine⟨_,rd,λ_=>by simp[Builtin.lenOf],?_⟩
   simp only[wq]
   refine WR (by simp) λj v hv=>?_
   simp only[zX,zE] at hv
   obtain⟨j',hj,rfl⟩:=hv
   have hlt:j < rows.length * sz:=by grind
   simp_all
 ·rename_i b off len
  split at hs
  ·rename_i k hk
   split at hs
   ·rename_i hc
    obtain⟨hsz,hlen⟩:=hc
    subst hsz
    split at hs
    ·simp only[zy] at hs;subst hs
     obtain⟨vs,ho,_⟩:=Eh (P:=P) h hk hlen hr true
     refine⟨rfl,λb _=>by simp,vs,⟨ho.rd.strip none 0 rfl true,?_,?_⟩⟩
     ·have:=ho.len;grind
     ·have:=ho.first;grind
    ·rename_i hdb
     simp only[zy] at hs;subst hs
     obtain⟨vs,ho,_⟩:=Eh (P:=P) h hk hlen hr true
     grind
   ·simp at hs
  ·simp at hs
 ·simp at hs
theorem Od{P:Program}{G:ze}{γ:Gh}{st:St}{tmps:Array Value}{w:World}(h:Qs G γ st tmps w){size:Nat}{c:V}{s:Src}(hs:LV st.b size c=some s){v:Value}
  (hr:Qu γ w st.b st.u c v):s.size=size/\∃vs,BJ P γ w st.b st.u s v vs/\Qw1 γ w st s v vs:=by
 unfold LV at hs
 split at hs
 ·simp only[zy] at hs;subst hs
  have:=hr.QI;subst this
  exact⟨rfl,[],Yk _ _ _ _ (.inl rfl),.inl ⟨rfl,.inl rfl⟩⟩
 ·rename_i b off len
  split at hs
  ·rename_i k hk
   split at hs<;>simp at hs
   rename_i hc
   obtain⟨hsz,hlen,hex⟩:=hc
   subst hsz;subst hs
   have hl:((k.rows.drop off).take len).length=len:=by simp;omega
   obtain⟨vs,ho,hsh⟩:=Eh (P:=P) h hk hlen hr k.Qn
   refine⟨rfl,vs,ho,?_⟩
   rcases hsh with⟨h1,h2⟩|⟨B,o,cs,e,cap,h1,h2,h3,h4,h5,h6,h7,h8,h9⟩
   ·exact .inl ⟨h1,h2⟩
   ·refine .inr ⟨b,k,B,o,cs,e,cap,rfl,hk,h1,h2,h3,by rw[h4,hl],by rw[hl];exact h5,h6,?_,h8,?_⟩
    ·grind
    ·simp only[hl]
     grind
  ·simp at hs
 ·simp at hs
theorem Qs.PV{G:ze}{γ:Gh}{st:St}{tmps:Array Value}{w:World}(h:Qs G γ st tmps w){d:Nat}{b1 b2:Option Nat}{k:Qi}(hu:st.u d=false)(hk:k.rows=[]) :
  ∃γ',Qa γ w γ' w/\Qs G γ' (((st.QJ b1).QJ b2).Qh d k) tmps w/\F0 γ st.b st.u γ' (((st.QJ b1).QJ b2).Qh d k).b (((st.QJ b1).QJ b2).Qh d k).u:=by
 let γ':Gh:={ loc:=λb=>if b=d then none else γ.loc b,own:=γ.own,Qp:=γ.Qp }
 have hb2:∀b,b≠d->(((st.QJ b1).QJ b2).Qh d k).b b=if b1=some b\/b2=some b then none else st.b b:=by
  intro b hb
  simp only[St.Qh]
  rw[if_neg hb,Fy,Fy]
  grind
 have hu2:∀b,st.u b=true->(((st.QJ b1).QJ b2).Qh d k).u b=true:=by
  intro b hb
  simp only[St.Qh]
  split
  ·rfl
  ·cases b1<;>cases b2<;>simp only[St.QJ,St.QC]<;>(try split)<;>(try split)<;>first|rfl|exact hb
 have g:Qa γ w γ' w:=⟨rfl,rfl,rfl,zI _,λ_ _ _ _ h=>h,λ_ _=>zI _,(by grind),(by grind)⟩
 have bl:F0 γ st.b st.u γ' (((st.QJ b1).QJ b2).Qh d k).b (((st.QJ b1).QJ b2).Qh d k).u:=by
  refine⟨hu2,λb hb hn=>?_,λb k' hk'=>⟨hu2 b (h.u b k' hk'),?_⟩⟩
  ·grind
  ·have:b≠d:=λe=>by subst e;rw[h.LL hu] at hk';simp at hk'
   grind
 refine⟨γ',g,⟨?_,λi=>?_,λb k' hk'=>?_,λb k' hk'=>?_,h.g.grow g,h.o⟩,bl⟩
 ·have:(((st.QJ b1).QJ b2).Qh d k).n=st.n:=by cases b1<;>cases b2<;>rfl
  rw[this];exact h.n
 ·have:(((st.QJ b1).QJ b2).Qh d k).t=st.t:=by cases b1<;>cases b2<;>rfl
  rw[this];exact(h.t i).mono g bl
 ·by_cases hbd:b=d
  ·subst hbd
   simp only[St.Qh,if_pos] at hk'
   simp only[zy] at hk';subst hk'
   exact .inl ⟨by simp[γ'],hk⟩
  ·rw[hb2 b hbd] at hk'
   split at hk'
   ·simp at hk'
   ·rcases h.b b k' hk' with⟨v1,v2⟩|hm|⟨hM2,X,o',cs',e',a1,a2,a3,a4,a5,a6,a7,a8⟩
    ·exact .inl (by grind)
    ·exact .inr (.inl (hm.same (by grind) (by grind) λc v hr=>hr.mono g bl))
    ·refine .inr (.inr ⟨hM2,X,o',cs',e',by grind,a2,a3,a4,a5,λi c hc=>?_,a7,a8⟩)
     obtain⟨v,b1,b2,b3,b4⟩:=a6 i c hc
     exact⟨v,b1,b2.mono g bl,b3,b4.mono (by grind)⟩
 ·by_cases hbd:b=d
  ·grind [St.Qh]
  ·rw[hb2 b hbd] at hk'
   split at hk'
   ·simp at hk'
   ·exact hu2 b (h.u b k' hk')
def BQ(P:Program)(look:zg)(t t2:TypeId)(db:Src->Option Nat)(x y:V):Option (Src×Src×Qi):=
 match P.underlying t,P.underlying t2 with
 | some (.slice e),some (.slice _)=>match P.info? e with
  | some ei=>match LV look ei.size x with
   | some ds=>match Xs look ei.size (db ds) y with
    | some ss=>if (ds.rows.length+ss.rows.length) * ei.bytes<=140737488355328/\0 < ei.bytes/\(zeroV P e).map List.length=some ei.size then some (ds,ss,⟨ei.size,ds.Qn,ds.rows++ss.rows⟩) else none
    | none=>none
   | none=>none
  | none=>none
 | _,_=>none
theorem Rs{look:zg}{size:Nat}{db:Option Nat}{c:V}{s:Src}(h:Xs look size db c=some s):∀b,db=some b->s.b≠some b:=by
 intro b hb
 unfold Xs at h
 grind
theorem Ib{P:Program}{look:zg}{t t2:TypeId}{x y:V}{ds ss:Src}{k:Qi}(h:MI P look t t2 x y=some (ds,ss,k)):∀b,ds.b=some b->ss.b≠some b:=by
 unfold MI at h
 split at h
 ·split at h
  ·split at h
   ·split at h
    ·rename_i hss
     split at h<;>simp at h
     obtain⟨rfl,rfl,_⟩:=h
     exact Rs hss
    ·simp at h
   ·simp at h
  ·simp at h
 ·simp at h
theorem LS{P:Program}{G:ze}{o:Oper}{st:St}{x y:Operand}{t t2:TypeId}{d:Nat}{cx cy:V}{ds0 ss0:Src}{k0:Qi}(ho:o.op=.call { callee:=.builtin .append,args:=#[x,y],argTypes:=#[t,t2] })
    (hd:o.dst=some d) (hn:d < st.n) (hu:st.u d=false) (hx:mZ G st x cx) (hy:mZ G st y cy) {db:Src->Option Nat} (ha:BQ P st.b t t2 db cx cy=some (ds0,ss0,k0)) (hnn:∀b,ds0.b=some b->ss0.b≠some b) :
    I2 P G o st ((((st.QJ ds0.b).QJ ss0.b).Qh d k0).QG d (.ref d 0 (ds0.rows.length+ss0.rows.length))):=
  M1 λγ a w hs=>by
    unfold BQ at ha
    split at ha
    · rename_i e e2 ht ht2
      split at ha
      · rename_i ei hi
        split at ha
        · rename_i ds hds
          split at ha
          · rename_i ss hss
            split at ha<;>simp at ha
            rename_i hcond
            obtain⟨rfl,rfl,rfl⟩:=ha
            obtain⟨hbytes,hbpos,hzl⟩:=hcond
            obtain⟨zc,hzc,hzlen⟩:=zE.1 hzl
            have hM:ds.size < Y8:=by
              rw[(Od (P:=P) hs hds (hx γ a w hs)).1,<-hzlen];exact(O3 hzc).2
            obtain⟨e1,vd,hdo,hda⟩:=Od (P:=P) hs hds (hx γ a w hs)
            obtain⟨e2',_,vsr,hso⟩:=BN (P:=P) hs hss (hy γ a w hs)
            have hne:∀b,ds.b=some b->ss.b≠some b:=hnn
            have pre : execOp a.eval o = (do let v <- Builtin.append_ #[t, t2] o.type #[a.eval x, a.eval y]; pure (.value v)) := by
              have h1:execOp a.eval o=builtin .append #[t,t2] o.type (#[x,y].map fun|.const _=>true|_=>false) (#[x,y].map a.eval):=by
                show (execOp a.eval o)=_;unfold execOp;rw[ho];rfl
              rw[h1];simp[builtin]
            obtain⟨z,hz1,hz2⟩:∃z,ei.zero=some z/\z.cells.size=ei.size:=by
              obtain⟨zv,hr,hcr⟩:=JJ (P:=P) (γ:=γ) (w:=w) (bs:=st.b) (u:=st.u) hzc
              replace hzc:=(O3 hzc).1
              unfold OY at hzc
              rw[hi] at hzc
              simp only at hzc
              cases hz:ei.zero with
              | none=>grind
              | some z=>
                have:(zeroValue e).run P w=.ok z w:=by simp[zeroValue,typeInfo,hi,hz]
                rw[this] at hr
                simp only[Result.ok.injEq,and_true] at hr
                subst hr
                exact⟨z,rfl,by rw[hcr.1,hzlen]⟩
            have hdl:vd.length=ds.rows.length * ei.size:=by rw[<-e1];exact hdo.rd.2.1
            have hsl:vsr.length=ss.rows.length * ei.size:=by rw[<-e2'];exact hso.rd.2.1
            have h63:((ds.rows.length+ss.rows.length:Nat):Int)<=9223372036854775807:=by
              have:ds.rows.length+ss.rows.length<=(ds.rows.length+ss.rows.length) * ei.bytes:=Nat.le_mul_of_pos_right _ hbpos
              omega
            have hone:∀v,v∈vsr->v.oneCell'=true:=λv hv=>by
              obtain⟨j,hj,rfl⟩:=List.getElem_of_mem hv
              have fl:ss.rows.flatten.length=ss.rows.length * ss.size:=by
                rw[List.length_flatten]
                have:ss.rows.map List.length=List.replicate ss.rows.length ss.size:=List.eq_replicate_iff.2 ⟨by simp,λx hx=>by obtain⟨r,hr,rfl⟩:=zH.1 hx;exact hso.rd.1 r hr⟩
                rw[this];simp
              have hjl:j < ss.rows.flatten.length:=by grind
              obtain⟨v,a1,_,a3,_⟩:=hso.rd.2.2 j _ (wd hjl)
              grind
            obtain⟨base,cap,hv⟩:∃base cap,a.eval x=.slice base ds.rows.length cap:=by
              rcases hda with⟨h0,h1|⟨B,h1⟩⟩|⟨b,k,B,o',cs,e',cap,_,_,_,_,_,h1,_⟩
              · grind
              · grind
              grind
            have hlenS:=hso.len
            have hfS:=hso.first
            have hfD:=hdo.first
            rw[e2'] at hfS
            rw[e1,hv] at hfD
            rw[show (⟨ei.size,ds.Qn,ds.rows++ss.rows⟩:Qi)=⟨ds.size,ds.Qn,ds.rows++ss.rows⟩ by rw[e1]]
            by_cases hg:cap < ds.rows.length+ss.rows.length
            ·
              have hrun:=WW (P:=P) (w:=w) t t2 o.type e e2 ei z ht ht2 hi hz1 base ds.rows.length cap ss.rows.length (a.eval y) vd vsr hlenS hfD hfS hg h63 (growslice_fits hg hbytes)
              let N:=grownCap w (ds.rows.length+ss.rows.length) cap e
              have hN:ds.rows.length+ss.rows.length<=N:=by
                show _<=(Question.appendCap _ _ _).cut _
                grind [Question.cut]
              let cs:Array Value:=vd.toArray++vsr.toArray++Builtin.zeroCells z.cells (N - (ds.rows.length+ss.rows.length))
              have hzc:(Builtin.zeroCells z.cells (N - (ds.rows.length+ss.rows.length))).size=(N - (ds.rows.length+ss.rows.length)) * ei.size:=by simp[Builtin.zeroCells,hz2]
              have hcs:cs.size=N * ei.size:=by
                simp only[cs,Array.size_append,hzc,List.size_toArray,hdl,hsl]
                rw[<-wu,<-wu]
                congr 1;omega
              have hh:(w.drew.alloc (.cells cs e)).heap=w.heap.push (.cells cs e):=rfl
              have gp:Qa γ w (γ.add d w.heap.size) (w.drew.alloc (.cells cs e)):=Qa.push hh ⟨rfl,rfl,rfl⟩ d
              have g:Qa γ w (γ.move ds ss d w.heap.size 0 0) (w.drew.alloc (.cells cs e)):=by
                refine⟨gp.os,gp.tape,gp.output,gp.size,gp.NS,gp.Qp,λB hB ho=>?_,gp.room⟩
                obtain⟨q1,q2,q3⟩:=gp.free B hB ho
                refine⟨q1,?_,q3⟩
                simp only[Gh.move]
                rw[if_neg (by omega),ho];rfl
              have hlt:∀X t,γ.own X=some t->X≠w.heap.size:=λX t hX=>by have:=hs.o X t hX;omega
              have hroomcs:(ds.rows.length+ss.rows.length) * ei.size<=cs.size:=by grind
              have key:=hs.ND (Qp:=0) (B:=w.heap.size) (o:=0) (cs:=cs) (e:=e) (w1:=w.drew.alloc (.cells cs e)) hM hu hdo.rd hso.rd (e1.trans e2'.symm) hne (.of (by rw[hh];simp)) (by grind)
                (by grind) g
                (by grind) (by rw[hh];simp) (λX t hX=>by rw[hh];have:=hs.o X t hX;simp;omega) (λ_=>rfl) (Nat.zero_le _) (by grind)
              refine⟨_,_,_,by rw[pre,zM,hv,hrun,zN];rfl,g,key.2.JH,?_⟩
              have hb:=key.1.put (a:=a) (dst:=some d) (c:=.ref d 0 (ds.rows.length+ss.rows.length)) (v:=.slice (some ⟨w.heap.size,0,none⟩) (ds.rows.length+ss.rows.length) N)
                (by have : (((st.QJ ds.b).QJ ss.b).Qh d ⟨ds.size, ds.Qn, ds.rows ++ ss.rows⟩).n = st.n := by cases ds.b <;> cases ss.b <;> rfl
                    grind [H7]) (by
                have:=Qu.ref (γ:=γ.move ds ss d w.heap.size 0 0) (w:=w.drew.alloc (.cells cs e)) (bs:=(((st.QJ ds.b).QJ ss.b).Qh d ⟨ds.size,ds.Qn,ds.rows++ss.rows⟩).b) (u:=(((st.QJ ds.b).QJ ss.b).Qh d ⟨ds.size,ds.Qn,ds.rows++ss.rows⟩).u)
                  d 0 (ds.rows.length+ss.rows.length) w.heap.size 0 N ⟨ds.size,ds.Qn,ds.rows++ss.rows⟩ (by simp[St.Qh]) (by simp[Gh.move]) (by simp) hN ⟨cs,e,(0,0),by rw[hh];simp,by grind⟩ hM (by simpa using hN)
                grind)
              rw[hd];exact hb
            ·
              rcases hda with⟨h0,hsh⟩|⟨b,k,B,o',cs,e',cap',hdb,hk,hloc,hown,hheap,hval,hcap,hroom,hcell,hl0,hl1⟩
              ·
                have hcap0:cap=0:=by
                  grind
                have hss0:ss.rows=[]:=(by grind)
                have hds0:ds.rows.length=0:=by rw[h0];rfl
                have hrun:=Dc (P:=P) (w:=w) t t2 o.type e e2 ei ht ht2 hi base (a.eval y) cap (λw1=>by have:=hlenS w1;rw[hss0] at this;exact this) (λw1 hw=>by
                  have:=hfS w1 hw
                  rw[hss0] at this
                  have hv0:vsr=[]:=wY.1 (by rw[hsl,hss0];simp)
                  rw[hv0] at this;exact this)
                obtain⟨γ',g,hs',bl⟩:=hs.PV (d:=d) (b1:=ds.b) (b2:=ss.b) (k:=⟨ds.size,ds.Qn,ds.rows++ss.rows⟩) hu (by rw[h0,hss0];rfl)
                refine⟨_,_,γ',by rw[pre,zM,hv,hds0,hrun,zN];rfl,g,bl.JH,?_⟩
                have hb:=hs'.put (a:=a) (dst:=some d) (c:=.ref d 0 0) (v:=.slice base 0 cap)
                  (by have : (((st.QJ ds.b).QJ ss.b).Qh d ⟨ds.size, ds.Qn, ds.rows ++ ss.rows⟩).n = st.n := by cases ds.b <;> cases ss.b <;> rfl
                      simpa[H7,this] using hn) (by
                  rw[hcap0]
                  rcases hsh with h1|⟨B',h1⟩<;>(rw[hv] at h1;simp only[Value.slice.injEq] at h1;rw[h1.1])
                  · exact .YW d 0 ⟨ds.size,ds.Qn,ds.rows++ss.rows⟩ (by simp[St.Qh]) hM (by simp_all)
                  · exact .Jk d 0 B' ⟨ds.size,ds.Qn,ds.rows++ss.rows⟩ (by simp[St.Qh]) hM (by simp_all))
                rw[hd,show ds.rows.length+ss.rows.length=0 by rw[hds0,hss0];rfl,<-hds0]
                rw[hds0];exact hb
              ·
                rw[hv] at hval
                simp only[Value.slice.injEq,true_and] at hval
                obtain⟨rfl,rfl⟩:=hval
                rw[e1] at hroom hcell hl1 hv
                have hge:ds.rows.length+ss.rows.length<=cap:=by omega
                have hr1:(ds.off+(ds.rows.length+ss.rows.length)) * ei.size<=(ds.off+cap) * ei.size:=wF _ (by omega)
                simp only[wu] at hr1 hroom hl1
                have hroom2:o'+ds.off * ei.size+ds.rows.length * ei.size+vsr.length<=cs.size:=by rw[hsl];omega
                have hrun:=Mu (P:=P) (w:=w) t t2 o.type e e2 ei ht ht2 hi B (o'+ds.off * ei.size) ds.rows.length cap ss.rows.length (a.eval y) vsr cs e' hlenS hfS hge hheap hone hroom2
                obtain⟨s1,s2⟩:=G9 vsr (o'+ds.off * ei.size+ds.rows.length * ei.size) cs hroom2
                have hBlt:=hs.o B _ hown
                have gp:Qa γ w γ (World.QQ w B (E4 cs (o'+ds.off * ei.size+ds.rows.length * ei.size) vsr) e'):=Qa.QQ hheap s1 (λj v hj hc=>by
                  rw[s2,if_neg (by omega)];exact hc) hown
                have g:Qa γ w (γ.move ds ss d B (o'+ds.off * ei.size) (γ.Qp B)) (World.QQ w B (E4 cs (o'+ds.off * ei.size+ds.rows.length * ei.size) vsr) e'):=by
                  refine⟨gp.os,gp.tape,gp.output,gp.size,gp.NS,λX hX=>?_,λX hX ho=>?_,λX cs2 e2 fz hc=>by
                    obtain⟨cs3,fz',q1,q2,q3⟩:=gp.room X cs2 e2 fz hc
                    refine⟨cs3,fz',q1,q2,q3.imp id λq=>?_⟩
                    simp only[Gh.move];split
                    · rename_i hXB;rw[<-hXB];exact q
                    · exact q⟩
                  · simp only[Gh.move];split
                    · rename_i hXB;rw[hXB];exact zI _
                    · exact zI _
                  · obtain⟨q1,q2,q3⟩:=gp.free X hX ho
                    have hXB:X≠B:=λe=>by subst e;rw[hown] at ho;simp at ho
                    refine⟨q1,?_,?_⟩
                    · simp only[Gh.move];rw[if_neg hXB,ho];rfl
                    · simp only[Gh.move];rw[if_neg hXB]
                have key:=hs.ND (Qp:=γ.Qp B) (B:=B) (o:=o'+ds.off * ei.size) (cs:=E4 cs (o'+ds.off * ei.size+ds.rows.length * ei.size) vsr) (e:=e') hM hu hdo.rd hso.rd (e1.trans e2'.symm) hne (hheap.set s1) (by rw[s1,e1,wu];omega)
                  (λj hj=>by
                    rw[s2]
                    by_cases hjd:j < vd.length
                    · rw[if_neg (by omega),wg hjd];exact hcell j hjd
                    · rw[if_pos (by omega),wl (by omega)]
                      congr 1;omega) g
                  (λb' k' X o2 hk' hnb _ _ hX=>by
                    have hXB:X≠B:=λe=>by
                      subst e;rw[hown] at hX;simp only[zy,K7.ZQ.injEq] at hX
                      exact hnb (by rw[hdb,hX])
                    exact⟨hXB,Ym hXB⟩) (by simpa[World.QQ] using hBlt) (λX t hX=>by simpa[World.QQ] using hs.o X t hX) hl0 (by rw[e1,wu];omega)
                  (λX b' i j hX e=>by subst e;rw[hown] at hX;simp at hX)
                refine⟨_,_,_,by rw[pre,zM,hv,hrun,zN];rfl,g,key.2.JH,?_⟩
                have hb:=key.1.put (a:=a) (dst:=some d) (c:=.ref d 0 (ds.rows.length+ss.rows.length)) (v:=.slice (some ⟨B,o'+ds.off * ei.size,none⟩) (ds.rows.length+ss.rows.length) cap)
                  (by have : (((st.QJ ds.b).QJ ss.b).Qh d ⟨ds.size, ds.Qn, ds.rows ++ ss.rows⟩).n = st.n := by cases ds.b <;> cases ss.b <;> rfl
                      simpa[H7,this] using hn) (by
                  have:=Qu.ref (γ:=γ.move ds ss d B (o'+ds.off * ei.size) (γ.Qp B)) (w:=World.QQ w B (E4 cs (o'+ds.off * ei.size+ds.rows.length * ei.size) vsr) e') (bs:=(((st.QJ ds.b).QJ ss.b).Qh d ⟨ds.size,ds.Qn,ds.rows++ss.rows⟩).b) (u:=(((st.QJ ds.b).QJ ss.b).Qh d ⟨ds.size,ds.Qn,ds.rows++ss.rows⟩).u)
                    d 0 (ds.rows.length+ss.rows.length) B (o'+ds.off * ei.size) cap ⟨ds.size,ds.Qn,ds.rows++ss.rows⟩ (by simp[St.Qh]) (by simp[Gh.move]) (by simp) hge ((hheap.set s1).room (by rw[s1,e1];simp only[zP];omega)) hM (by simpa using hge)
                  simpa using this)
                rw[hd];exact hb
          · simp at ha
        · simp at ha
      · simp at ha
    · simp at ha
theorem LB{P:Program}{G:ze}{o:Oper}{st:St}{x y:Operand}{t t2:TypeId}{d:Nat}{cx cy:V}{ds0 ss0:Src}{k0:Qi}(ho:o.op=.call { callee:=.builtin .append,args:=#[x,y],argTypes:=#[t,t2] })
  (hd:o.dst=some d) (hn:d < st.n) (hu:st.u d=false) (hx:mZ G st x cx) (hy:mZ G st y cy) (ha:MI P st.b t t2 cx cy=some (ds0,ss0,k0)) :
  I2 P G o st ((((st.QJ ds0.b).QJ ss0.b).Qh d k0).QG d (.ref d 0 (ds0.rows.length+ss0.rows.length))):=
 LS (db:=λds=>ds.b) ho hd hn hu hx hy ha (Ib ha)
theorem Na{P:Program}{G:ze}{o:Oper}{st:St}{x y:Operand}{t t2:TypeId}{d:Nat}{cx cy:V}{ds0 ss0:Src}{k0:Qi}(ho:o.op=.call { callee:=.builtin .append,args:=#[x,y],argTypes:=#[t,t2] })
  (hd:o.dst=some d) (hn:d < st.n) (hu:st.u d=false) (hx:st.ev G x=some cx) (hy:st.ev G y=some cy) (ha:MI P st.b t t2 cx cy=some (ds0,ss0,k0)) :
  I2 P G o st ((((st.QJ ds0.b).QJ ss0.b).Qh d k0).QG d (.ref d 0 (ds0.rows.length+ss0.rows.length))):=
 LB ho hd hn hu (λ_ _ _ hs=>hs.ev hx) (λ_ _ _ hs=>hs.ev hy) ha
mutual
def okV(u:zh):V->Bool
 | .ref b _ _=>u b
 | .ptr b _ _=>u b
 | .mp b=>u b
 | .fn _ a c=>Mf u a&&Mf u c
 | .agg l=>Mf u l
 | .Qt l=>Mf u l
 | _=>true
def Mf(u:zh):List V->Bool
 | []=>true
 | c :: l=>okV u c&&Mf u l
end
theorem ZV{u:zh}:∀{l:List V},Mf u l=true->∀{i:Nat} {c:V},l[i]?=some c->okV u c=true
 | [],_,i,c,h=>by simp at h
 | x :: l,hl,i,c,h=>by
  simp only[Mf,zD] at hl
  cases i with
  | zero=>grind
  | succ i=>exact ZV hl.2 (by simpa using h)
theorem Qu.shrink{γ:Gh}{w:World}{bs bs':zg}{u u':zh}(hb:∀b,bs' b=none\/bs' b=bs b){c:V}{v:Value}(h:Qu γ w bs u c v):okV u' c=true->Qu γ w bs' u' c v:=by
 induction h with
 | data h=>exact λ_=>.data h
 | undef v=>exact λ_=>.undef v
 | ref b off len B o cap k h1 h2 h3 h4 h5 h6 h7=>
  intro hu
  rcases hb b with hn|he
  ·exact .Qb b off len _ hn (by simpa[okV] using hu) rfl
  ·exact .ref b off len B o cap k (he.trans h1) h2 h3 h4 h5 h6 h7
 | Jk b off B k h1 h6 h2=>
  intro hu
  rcases hb b with hn|he
  ·exact .Qb b off 0 _ hn (by simpa[okV] using hu) rfl
  ·exact .Jk b off B k (he.trans h1) h6 h2
 | YW b off k h1 h6 h2=>
  intro hu
  rcases hb b with hn|he
  ·exact .Qb b off 0 _ hn (by simpa[okV] using hu) rfl
  ·exact .YW b off k (he.trans h1) h6 h2
 | Qb b off len v h1 h2 h3=>
  intro hu
  refine .Qb b off len v ?_ (by simpa[okV] using hu) h3
  grind
 | ptr b i off B o k h1 h2 h3=>
  intro hu
  rcases hb b with hn|he
  ·exact .QK b i off _ hn (by simpa[okV] using hu) rfl
  ·exact .ptr b i off B o k (he.trans h1) h2 h3
 | mp b B k h1 h2 h3=>
  intro hu
  rcases hb b with hn|he
  ·exact .QT b _ hn (by simpa[okV] using hu) rfl
  ·exact .mp b B k (he.trans h1) h2 h3
 | QT b v h1 h2 h3=>
  intro hu
  refine .QT b v ?_ (by simpa[okV] using hu) h3
  grind
 | QK b i off v h1 h2 h3=>
  intro hu
  refine .QK b i off v ?_ (by simpa[okV] using hu) h3
  grind
 | fn f first captured fs cs h1 h2 _ _ ih1 ih2=>
  intro hu
  simp only[okV,zD] at hu
  exact .fn f first captured fs cs h1 h2 (by grind [ZV]) (by grind [ZV])
 | agg cells vs h1 _ ih=>intro hu;exact .agg cells vs h1 (by grind [ZV,okV])
 | Qt cells vs h1 _ ih=>intro hu;exact .Qt cells vs h1 (by grind [ZV,okV])
structure F9(st st':St):Prop where
 n:st'.n=st.n
 t:∀i,st'.t i=.undef\/(st'.t i=st.t i/\okV st'.u (st.t i)=true)
 b:∀b,st'.b b=none\/(st'.b b=st.b b/\∀k,st.b b=some k->st'.u b=true/\∀r,r∈k.rows->∀c,c∈r->okV st'.u c=true)
 p:∀b,X1 b=true->st'.u b=true
theorem F9.Gq{G:ze}{γ:Gh}{st st':St}{tmps:Array Value}{w:World}(f:F9 st st')(h:Qs G γ st tmps w):Qs G γ st' tmps w where
 n:=by rw[f.n];exact h.n
 t:=λi=>by
  rcases f.t i with e|⟨e,hk⟩
  ·rw[e];exact .undef _
  ·rw[e];exact(h.t i).shrink (λb=>(f.b b).imp id And.left) hk
 b:=λb k hk=>by
  rcases f.b b with e|⟨e,hr⟩
  ·grind
  ·rw[e] at hk
   rcases h.b b k hk with h0|hm|⟨hM,B,o,cs,e',h1,h2,h3,h4,h5,h6,h7,h8⟩
   ·exact .inl h0
   ·obtain⟨hM,B,es,clock,h1,h2,h3,h4,h5,h6,h7⟩:=hm
    refine .inr (.inl ⟨hM,B,es,clock,h1,h2,h3,h4,h5,h6,λi c hc=>?_⟩)
    obtain⟨v,a1,a2,a3⟩:=h7 i c hc
    refine⟨v,a1,a2.shrink (λb=>(f.b b).imp id And.left) ?_,a3⟩
    obtain⟨r,hr1,hr2⟩:=wO.1 (zQ hc)
    grind
   ·refine .inr (.inr ⟨hM,B,o,cs,e',h1,h2,h3,h4,h5,λi c hc=>?_,h7,h8⟩)
    obtain⟨v,a1,a2,a3,a4⟩:=h6 i c hc
    refine⟨v,a1,a2.shrink (λb=>(f.b b).imp id And.left) ?_,a3,a4⟩
    obtain⟨r,hr1,hr2⟩:=wO.1 (zQ hc)
    grind
 u:=λb k hk=>by
  rcases f.b b with e|⟨e,hr⟩
  ·grind
  grind
 g:=h.g
 o:=h.o
theorem F9.JH{G:ze}{γ:Gh}{st st':St}{tmps:Array Value}{w:World}(f:F9 st st')(_:Qs G γ st tmps w):Zr γ st.b st.u γ st'.b st'.u:=λb hb=>by
 refine⟨λ_=>f.p b hb,λ_ hn=>?_,λk hk=>⟨f.p b hb,?_⟩⟩
 ·rcases f.b b with e|⟨e,_⟩
  ·exact e
  grind
 ·rcases f.b b with e|⟨e,_⟩
  ·exact .inl e
  grind
def E6(n:Nat)(ts:List (Nat×V))(bs:List (Nat×Qi))(us:List Nat):St where
 n:=n
 t:=λi=>match ts.find? (λp=>p.1==i) with|some p=>p.2|none=>.undef
 b:=λi=>match bs.find? (λp=>p.1==i) with|some p=>some p.2|none=>none
 u:=λi=>us.contains i || Qk i
theorem CS{st:St}{n:Nat}{ts:List (Nat×V)}{bs:List (Nat×Qi)}{us:List Nat}(hn:n=st.n)(ht:ts.map (λp=>st.t p.1)=ts.map (·.2))(hto:ts.all (λp=>okV (E6 n ts bs us).u p.2)=true)
  (hb:bs.map (λp=>st.b p.1)=bs.map (λp=>some p.2)) (hbu:bs.all (λp=>(E6 n ts bs us).u p.1)=true) (hbo:∀p,p∈bs->∀r,r∈p.2.rows->∀c,c∈r->okV (E6 n ts bs us).u c=true):F9 st (E6 n ts bs us) where
 n:=hn
 t:=λi=>by
  show (match ts.find? (λp=>p.1==i) with|some p=>p.2|none=>V.undef)=.undef\/_
  cases hf:ts.find? (λp=>p.1==i) with
  | none=>exact .inl rfl
  | some p=>
   grind [List.mem_of_find?_eq_some,List.map_inj_left,List.all_eq_true,okV,E6]
 b:=λi=>by
  show (match bs.find? (λp=>p.1==i) with|some p=>some p.2|none=>none)=none\/_
  cases hf:bs.find? (λp=>p.1==i) with
  | none=>exact .inl rfl
  | some p=>
   refine .inr ?_
   have hm:=wW hf
   have hi:p.1=i:=by grind
   have e:st.b p.1=some p.2:=List.map_inj_left.1 hb p hm
   refine⟨?_,λk hk=>?_⟩
   ·show (match bs.find? (λp=>p.1==i) with|some p=>some p.2|none=>none)=st.b i
    grind
   grind
 p:=(by grind [Uw,E6,Qk])
end Go.EV
namespace Go.EV
open Go
inductive Loc where
 | t (i:Nat)
 | b (i:Nat)
 deriving DecidableEq
inductive Wr where
 | t (i:Nat) (c:V)
 | b (i:Nat) (k:Option Qi)
def Wr.loc:Wr->Loc
 | .t i _=>.t i
 | .b i _=>.b i
def St.wr(st:St):Wr->St
 | .t i c=>st.QG i c
 | .b i (some k)=>st.Qh i k
 | .b i none=>st.QC i
def St.app(st:St)(ws:List Wr):St:=ws.foldl St.wr st
def O0(a b:St):Loc->Prop
 | .t i=>a.t i=b.t i
 | .b i=>a.b i=b.b i/\a.u i=b.u i
theorem St.ext'{a b:St}(hn:a.n=b.n)(h:∀l,O0 a b l):a=b:=by
 cases a;cases b
 simp only at hn
 simp only[St.mk.injEq]
 exact⟨hn,funext λi=>h (.t i),funext λi=>(h (.b i)).1,funext λi=>(h (.b i)).2⟩
theorem O0.trans{a b c:St}{l:Loc}(h:O0 a b l)(k:O0 b c l):O0 a c l:=by
 cases l with
 | t i=>exact Eq.trans (show a.t i=b.t i from h) k
 | b i=>exact⟨h.1.trans k.1,h.2.trans k.2⟩
theorem O0.symm{a b:St}{l:Loc}(h:O0 a b l):O0 b a l:=by
 cases l with
 | t i=>exact Eq.symm (show a.t i=b.t i from h)
 | b i=>exact⟨h.1.symm,h.2.symm⟩
theorem O0.refl(a:St)(l:Loc):O0 a a l:=by
 cases l with
 | t i=>rfl
 | b i=>exact⟨rfl,rfl⟩
theorem Qwz(st:St)(x:Wr):(st.wr x).n=st.n:=by
 cases x with
 | t=>rfl
 | b i k=>cases k<;>rfl
theorem Ob(ws:List Wr)(st:St):(st.app ws).n=st.n:=by
 induction ws generalizing st with
 | nil=>rfl
 | cons x ws ih=>exact(ih (st.wr x)).trans (Qwz st x)
theorem Xh(st:St)(x:Wr){l:Loc}(h:x.loc≠l):O0 (st.wr x) st l:=by
 cases x with
 | t i c=>
  cases l with
  | t j=>show (if j=i then c else st.t j)=st.t j;rw[if_neg (by grind [Wr.loc])]
  | b j=>exact⟨rfl,rfl⟩
 | b i k=>
  cases l with
  | t j=>cases k<;>rfl
  | b j=>
   have hj:¬j=i:=(by grind [Wr.loc])
   cases k with
   | none=>exact⟨by show (if j=i then none else st.b j)=_;rw[if_neg hj],by show (if j=i then true else st.u j)=_;rw[if_neg hj]⟩
   | some k=>exact⟨by show (if j=i then some k else st.b j)=_;rw[if_neg hj],by show (if j=i then true else st.u j)=_;rw[if_neg hj]⟩
theorem eQ(a b:St)(x:Wr):O0 (a.wr x) (b.wr x) x.loc:=by
 cases x with
 | t i c=>show (if i=i then c else a.t i)=(if i=i then c else b.t i);simp
 | b i k=>
  cases k with
  | none=>exact⟨by show (if i=i then none else a.b i)=(if i=i then none else b.b i);simp,by show (if i=i then true else a.u i)=(if i=i then true else b.u i);simp⟩
  | some k=>exact⟨by show (if i=i then some k else a.b i)=(if i=i then some k else b.b i);simp,by show (if i=i then true else a.u i)=(if i=i then true else b.u i);simp⟩
theorem TO{a b:St}(x:Wr){l:Loc}(h:O0 a b l):O0 (a.wr x) (b.wr x) l:=by
 by_cases hl:x.loc=l
 ·grind [eQ]
 ·exact(Xh a x hl).trans (h.trans (Xh b x hl).symm)
theorem WY(ws:List Wr){a b:St}{l:Loc}(h:O0 a b l):O0 (a.app ws) (b.app ws) l:=by
 induction ws generalizing a b with
 | nil=>exact h
 | cons x ws ih=>exact ih (TO x h)
theorem O1(ws:List Wr)(st:St){l:Loc}(h:∀x,x∈ws->x.loc≠l):O0 (st.app ws) st l:=by
 induction ws generalizing st with
 | nil=>exact O0.refl _ _
 | cons x ws ih=>exact(ih (st.wr x) λy hy=>h y (by simp[hy])).trans (by grind [Xh])
def UY(ws:List Wr)(ls:List Loc):Bool:=ws.all λx=>!ls.contains x.loc
theorem Jy{ws:List Wr}{ls:List Loc}(h:UY ws ls=true){l:Loc}(hl:l∈ls):∀x,x∈ws->x.loc≠l:=λx hx e=>by
 have:=zG.1 h x hx
 grind
theorem kE{w1 w2:List Wr}(h:UY w1 (w2.map Wr.loc)=true)(st:St):(st.app w1).app w2=(st.app w2).app w1:=by
 refine St.ext' (by simp[Ob]) λl=>?_
 by_cases h2:l∈w2.map Wr.loc
 ·have k1:O0 ((st.app w1).app w2) (st.app w2) l:=WY w2 (O1 w1 st (Jy h h2))
  exact k1.trans (O1 w1 _ (Jy h h2)).symm
 ·have hw2:∀x,x∈w2->x.loc≠l:=(by grind)
  exact(O1 w2 _ hw2).trans (WY w1 (O1 w2 st hw2).symm)
def X4(P:Program)(G:ze)(ops:Array Oper)(i:Nat)(st:St)(R:List Loc)(ws:List Wr):Prop:=
 ∀st2:St,st2.n=st.n->(∀l,l∈R->O0 st st2 l)->P1 P G ops i st2 (st2.app ws)
abbrev Y4:=List (List Loc×List Wr)
def Y4.ws(p:Y4)(i:Nat):List Wr:=(p.getD i ([],[])).2
def Y4.rs(p:Y4)(i:Nat):List Loc:=(p.getD i ([],[])).1
def Y4.st(p:Y4)(D:zh)(st:St):Nat->St
 | 0=>st
 | n+1=>if D n then (Y4.st p D st n).app (p.ws n) else Y4.st p D st n
theorem Y4.Vx(p:Y4)(D:zh)(st:St):∀n,(p.st D st n).n=st.n
 | 0=>rfl
 | n+1=>by
  simp only[Y4.st]
  split
  ·rw[Ob];exact Y4.Vx p D st n
  ·exact Y4.Vx p D st n
theorem Y4.Xr(p:Y4){D E:zh}(st:St):∀n,(∀j,j < n->D j=E j)->p.st D st n=p.st E st n
 | 0,_=>rfl
 | n+1,h=>by
  simp only[Y4.st]
  rw[h n (by omega),Y4.Xr p st n (λj hj=>h j (by omega))]
theorem Y4.agree(p:Y4)(D:zh)(st:St)(i:Nat){l:Loc}:∀n,(∀j,j < n->(j < i↔D j=true)\/∀x,x∈p.ws j->x.loc≠l)->O0 (p.st (λj=>decide (j < i)) st n) (p.st D st n) l
 | 0,_=>O0.refl _ _
 | n+1,h=>by
  have ih:=Y4.agree p D st i (l:=l) n (by grind)
  simp only[Y4.st]
  rcases h n (by omega) with hd|ho
  ·by_cases hn:n < i
   ·simp_all [if_pos,WY]
   grind
  ·have k:∀s:St,O0 (s.app (p.ws n)) s l:=λs=>O1 _ _ ho
   split<;>split
   ·exact WY _ ih
   ·exact(k _).trans ih
   ·exact ih.trans (k _).symm
   ·exact ih
theorem Y4.insert(p:Y4)(D:zh)(st:St)(i:Nat)(hi:D i=false):∀n,i < n->(∀j,i < j->j < n->D j=true->UY (p.ws j) ((p.ws i).map Wr.loc)=true)->
  (p.st D st n).app (p.ws i)=p.st (λj=>D j || decide (j=i)) st n
 | 0,h,_=>by omega
 | n+1,h,hc=>by
  simp only[Y4.st]
  by_cases hn:i=n
  ·subst hn
   rw[if_neg (by rw[hi];simp),if_pos (by simp)]
   congr 1
   exact Y4.Xr p st i λj hj=>by simp;intro e;omega
  ·have ih:=Y4.insert p D st i hi n (by omega) (λj h1 h2 h3=>hc j h1 (by omega) h3)
   by_cases hd:D n=true
   ·rw[if_pos hd,if_pos (by simp[hd]),kE (hc n (by omega) (by omega) hd),ih]
   grind
def YP(ops:List Oper):List Nat:=ops.foldl (λacc o=>acc++[o.after.toList.foldl (λs e=>if Region.binds .any e then s ||| 2 ^ e.on ||| acc.getD e.on 0 else s) 0]) []
def Y4.ok(ops:Array Oper)(p:Y4):Bool:=
 let ms:=YP ops.toList
 (List.range ops.size).all λi=>(List.range i).all λj=>
  (ms.getD i 0).testBit j || (UY (p.ws j) (p.rs i)&&UY (p.ws i) (p.rs j)&&UY (p.ws i) ((p.ws j).map Wr.loc))
def EA(ops:Array Oper)(D:zh):Prop:=∀i o,D i=true->ops[i]?=some o->∀e,e∈o.after->Region.binds .any e=true->D e.on=true
theorem qI{acc:List Nat}{j:Nat}:∀(es:List Edge) (s:Nat),(es.foldl (λs e=>if Region.binds .any e then s ||| 2 ^ e.on ||| acc.getD e.on 0 else s) s).testBit j=true->
  s.testBit j=true\/∃e,e∈es/\Region.binds .any e=true/\(e.on=j\/(acc.getD e.on 0).testBit j=true)
 | [],s,h=>.inl h
 | e :: es,s,h=>by
  simp only[List.foldl_cons] at h
  rcases qI es _ h with h|⟨e',he,hb,hx⟩
  ·grind
  grind
theorem IV:∀(l:List Oper) (acc:List Nat) (done:List Oper),acc.length=done.length->
  (∀(i:Nat) (o:Oper) (j:Nat),done[i]?=some o->(acc.getD i 0).testBit j=true->∃e,e∈o.after.toList/\Region.binds .any e=true/\(e.on=j\/(e.on < i/\(acc.getD e.on 0).testBit j=true)))->
  ∀(i:Nat) (o:Oper) (j:Nat),(done++l)[i]?=some o->
   ((l.foldl (λacc o=>acc++[o.after.toList.foldl (λs e=>if Region.binds .any e then s ||| 2 ^ e.on ||| acc.getD e.on 0 else s) 0]) acc).getD i 0).testBit j=true->
   ∃e,e∈o.after.toList/\Region.binds .any e=true/\(e.on=j\/(e.on < i/\((l.foldl (λacc o=>acc++[o.after.toList.foldl (λs e=>if Region.binds .any e then s ||| 2 ^ e.on ||| acc.getD e.on 0 else s) 0]) acc).getD e.on 0).testBit j=true))
 | [],acc,done,_,h,i,o,j,ho,ht=>by
  grind
 | x :: l,acc,done,hl,h,i,o,j,ho,ht=>by
  have step:=IV l (acc++[x.after.toList.foldl (λs e=>if Region.binds .any e then s ||| 2 ^ e.on ||| acc.getD e.on 0 else s) 0]) (done++[x]) (by simp[hl]) ?_ i o j (by simpa using ho) ht
  ·exact step
  ·intro i o j ho ht
   by_cases hi:i < done.length
   ·rw[wg hi] at ho
    have e1:∀k,k < acc.length->(acc++[x.after.toList.foldl (λs e=>if Region.binds .any e then s ||| 2 ^ e.on ||| acc.getD e.on 0 else s) 0]).getD k 0=acc.getD k 0:=(by grind)
    grind
   ·have hi2:i=done.length:=by
     grind
    subst hi2
    have ho':o=x:=by grind
    subst ho'
    have e2:(acc++[o.after.toList.foldl (λs e=>if Region.binds .any e then s ||| 2 ^ e.on ||| acc.getD e.on 0 else s) 0]).getD done.length 0=o.after.toList.foldl (λs e=>if Region.binds .any e then s ||| 2 ^ e.on ||| acc.getD e.on 0 else s) 0:=by
     grind
    rw[e2] at ht
    rcases qI _ _ ht with h0|⟨e,he,hb,hx⟩
    ·simp at h0
    grind
theorem Pc{ops:Array Oper}{i j:Nat}{o:Oper}(ho:ops[i]?=some o)(h:((YP ops.toList).getD i 0).testBit j=true) :
  ∃e,e∈o.after/\Region.binds .any e=true/\(e.on=j\/(e.on < i/\((YP ops.toList).getD e.on 0).testBit j=true)):=by
 obtain⟨e,he,hb,hx⟩:=IV ops.toList [] [] rfl (by grind) i o j (by simpa using ho) h
 exact⟨e,by simpa using he,hb,hx⟩
theorem S8{ops:Array Oper}{D:zh}(hc:EA ops D)(hin:∀i,D i=true->i < ops.size){j:Nat}:∀(n i:Nat),i < n->∀o,ops[i]?=some o->(D i=true\/∀e,e∈o.after->Region.binds .any e=true->D e.on=true)->
  ((YP ops.toList).getD i 0).testBit j=true->D j=true
 | 0,i,h,_,_,_,_=>by omega
 | n+1,i,hi,o,ho,hd,ht=>by
  obtain⟨e,he,hb,hx⟩:=Pc ho ht
  have hon:D e.on=true:=by
   rcases hd with hd|hd
   ·exact hc i o hd ho e he hb
   grind
  rcases hx with rfl|⟨h1,h2⟩
  ·exact hon
  ·have hs:=hin _ hon
   exact S8 hc hin n e.on (by omega) ops[e.on] (by grind) (.inl hon) h2
def KA(P:Program)(G:ze)(ops:Array Oper)(i:Nat)(st:St)(R:List Loc)(ex:Exit)(ws:List Wr):Prop:=
 ∀st2:St,st2.n=st.n->(∀l,l∈R->O0 st st2 l)->kP P G ops i st2 ex (st2.app ws)
theorem Re{P:Program}{G:ze}{ops:Array Oper}{st:St}{Q:Exit->St->Prop}{p:Y4}{ip:Nat}{ex:Exit}{W:List Wr}(hp:p.ok ops=true)
  (hback:∀i o,ops[i]?=some o->∀e,e∈o.after->Region.binds .any e=true->e.on < i)
  (hstep:∀i,i < ops.size->i≠ip->(ip < ops.size->((YP ops.toList).getD i 0).testBit ip=false)->X4 P G ops i (p.st (λj=>decide (j < i)) st ops.size) (p.rs i) (p.ws i)) (hq:ops.size<=ip->Q .normal (p.st (λ_=>true) st ops.size))
  (hpan:ip < ops.size->KA P G ops ip (p.st (λj=>decide (j < ip)) st ops.size) (p.rs ip) ex W/\∀D,Q ex ((p.st D st ops.size).app W))
  {fx:Fx} {γ0:Gh} {w0:World}:∀(I1:Nat) (D:zh) (listed:Array Bool) (γ:Gh) (a:Act) (w:World),listed.size=ops.size->(∀i,i < ops.size->listed.getD i true=D i/\listed.getD i false=D i)->(∀i,D i=true->i < ops.size/\i≠ip)->EA ops D->
   ((List.range ops.size).filter λi=>!D i).length<=I1->Qs G γ (p.st D st ops.size) a.tmps w->(Qa γ0 w0 γ w/\Zr γ0 st.b st.u γ (p.st D st ops.size).b (p.st D st ops.size).u)->a.defers=fx.ds->
   wpAnyIn (RF fx.ro) 0 P .any ops (L0 G fx γ0 st w0 Q) I1 listed a w:=by
 have pair:∀i j,i < ops.size->j < i->((YP ops.toList).getD i 0).testBit j=true\/(UY (p.ws j) (p.rs i)=true/\UY (p.ws i) (p.rs j)=true/\UY (p.ws i) ((p.ws j).map Wr.loc)=true):=by
  intro i j hi hj
  unfold Y4.ok at hp
  grind
 have readyD:∀(D:zh) (listed:Array Bool),(∀i,i < ops.size->listed.getD i true=D i/\listed.getD i false=D i)->listed.size=ops.size->∀i,i∈Region.ready .any ops listed->i < ops.size/\D i=false/\∀o,ops[i]?=some o->∀e,e∈o.after->Region.binds .any e=true->D e.on=true:=by
  grind [mem_ready,Array.getElem?_eq_some_iff,Option.some.injEq,Nat.lt_or_ge,Array.getD_eq_getD_getElem?,Array.getElem?_eq_none]
 have none_ready:∀(D:zh) (listed:Array Bool),(∀i,i < ops.size->listed.getD i true=D i/\listed.getD i false=D i)->Region.ready .any ops listed=[]->∀i,i < ops.size->D i=true:=by
  intro D listed hl hr i
  induction i using Nat.strongRecOn with
  | _ i ih=>
   intro hi
   cases hd:D i with
   | true=>rfl
   | false=>
    exfalso
    have:i∈Region.ready .any ops listed:=mem_ready.2 ⟨by rw[(hl i hi).1];exact hd,ops[i],we hi,λe he hb=>by
     have hb':=hback i _ (we hi) e he hb
     rw[(hl e.on (by omega)).2]
     exact ih e.on hb' (by omega)⟩
    rw[hr] at this;simp at this
 have fin:∀(D:zh) (γ:Gh) (a:Act) (w:World),(∀i,D i=true->i < ops.size/\i≠ip)->(∀i,i < ops.size->D i=true)->Qs G γ (p.st D st ops.size) a.tmps w->(Qa γ0 w0 γ w/\Zr γ0 st.b st.u γ (p.st D st ops.size).b (p.st D st ops.size).u)->a.defers=fx.ds->L0 G fx γ0 st w0 Q .normal a w:=by
  intro D γ a w hin hall hs hg hd
  have hip:ops.size<=ip:=Nat.le_of_not_lt λh=>(hin ip (hall ip h)).2 rfl
  have e:p.st D st ops.size=p.st (λ_=>true) st ops.size:=Y4.Xr p st _ hall
  exact⟨_,γ,hs,hg,.of hd,by grind⟩
 intro I1
 induction I1 with
 | zero=>
  intro D listed γ a w hsz hl hin hc hf hs hg hd
  have hall:∀i,i < ops.size->D i=true:=by
   intro i hi
   cases hdi:D i with
   | true=>rfl
   | false=>
    exfalso
    have:i∈(List.range ops.size).filter λi=>!D i:=(by grind)
    grind
  refine⟨?_,(by grind)⟩
  refine List.eq_nil_iff_forall_not_mem.2 λi hi=>?_
  obtain⟨h1,h2,_⟩:=readyD D listed hl hsz i hi
  grind
 | succ I1 ih=>
  intro D listed γ a w hsz hl hin hc hf hs hg hd
  refine⟨λhr=>fin D γ a w hin (none_ready D listed hl hr) hs hg hd,λi hi=>?_⟩
  have hin1:∀i,D i=true->i < ops.size:=λi h=>(hin i h).1
  obtain⟨hlt,hDi,hpre⟩:=readyD D listed hl hsz i hi
  have ho:ops[i]?=some ops[i]:=(by grind)
  have hagree:∀l,l∈p.rs i->O0 (p.st (λj=>decide (j < i)) st ops.size) (p.st D st ops.size) l:=by
   intro l hlr
   refine Y4.agree p D st i ops.size λj hj=>?_
   by_cases hji:j=i
   ·grind
   ·by_cases hlt':j < i
    ·rcases pair i j hlt hlt' with hm|⟨h1,_,_⟩
     ·have hDj:D j=true:=S8 hc hin1 (i+1) i (by omega) _ ho (.inr (hpre _ ho)) hm
      grind
     grind [Jy]
    ·rcases pair j i hj (by omega) with hm|⟨_,h2,_⟩
     ·refine .inl ⟨λh=>absurd h hlt',λhDj=>?_⟩
      have hoj:ops[j]?=some ops[j]:=(by grind)
      have:=S8 hc hin1 (j+1) j (by omega) _ hoj (.inl hDj) hm
      rw[hDi] at this;simp at this
     ·exact .inr (Jy h2 hlr)
  by_cases hip:i=ip
  ·subst hip
   obtain⟨h1,h3⟩:=hpan hlt
   obtain⟨o,ho',hnd,hgd,he⟩:=h1 (p.st D st ops.size) (by simp[Y4.Vx]) hagree
   unfold wpOpIn
   rw[ho']
   simp only
   rw[if_pos (W3 hs hgd)]
   exact qO hnd (he fx γ a w hs hd _ _ λa' w' γ' k1 k2 k3 k4=>⟨_,γ',k1,⟨hg.1.trans k2,hg.2.trans k3⟩,.of k4,h3 D⟩)
  have hnw:((YP ops.toList).getD i 0).testBit ip=false:=by
   cases hm:((YP ops.toList).getD i 0).testBit ip with
   | false=>rfl
   | true=>exact absurd rfl (hin ip (S8 hc hin1 (i+1) i (by omega) _ ho (.inr (hpre _ ho)) hm)).2
  have hst:=hstep i hlt hip (λ_=>hnw) (p.st D st ops.size) (by simp[Y4.Vx]) hagree
  have hins:(p.st D st ops.size).app (p.ws i)=p.st (λj=>D j || decide (j=i)) st ops.size:=Y4.insert p D st i hDi ops.size hlt λj h1 h2 h3=>by
   rcases pair j i h2 h1 with hm|⟨_,_,h3'⟩
   ·exfalso
    have hoj:ops[j]?=some ops[j]:=(by grind)
    have:=S8 hc hin1 (j+1) j (by omega) _ hoj (.inl h3) hm
    grind
   ·exact h3'
  rw[hins] at hst
  have next:∀(a':Act) (w':World) (γ':Gh),Qs G γ' (p.st (λj=>D j || decide (j=i)) st ops.size) a'.tmps w'->Qa γ w γ' w'->Zr γ (p.st D st ops.size).b (p.st D st ops.size).u γ' (p.st (λj=>D j || decide (j=i)) st ops.size).b (p.st (λj=>D j || decide (j=i)) st ops.size).u->a'.defers=fx.ds->
    wpAnyIn (RF fx.ro) 0 P .any ops (L0 G fx γ0 st w0 Q) I1 (listed.setIfInBounds i true) a' w':=by
   intro a' w' γ' hs' hg' hp' hd'
   refine ih (λj=>D j || decide (j=i)) (listed.setIfInBounds i true) γ' a' w' (by grind) (λj hj=>?_) (λj hj=>?_) ?_ ?_ hs' ⟨hg.1.trans hg',hg.2.trans hp'⟩ hd'
   ·by_cases hji:j=i
    ·subst hji
     have:j < listed.size:=by omega
     simp[this]
    ·have hne:i≠j:=λe=>hji e.symm
     have e1:(listed.setIfInBounds i true).getD j true=listed.getD j true:=by simp[Array.getElem?_setIfInBounds_ne hne]
     grind
   ·grind
   ·intro k o hk hok e he hb
    simp only[zU,zC] at hk ⊢
    rcases hk with hk|rfl
    ·exact .inl (hc k o hk hok e he hb)
    grind
   ·have hmem:i∈(List.range ops.size).filter λj=>!D j:=(by grind)
    have hlt3:((List.range ops.size).filter λj=>!(D j || decide (j=i))).length < ((List.range ops.size).filter λj=>!D j).length:=by
     have e:(List.range ops.size).filter (λj=>!(D j || decide (j=i)))=((List.range ops.size).filter (λj=>!D j)).filter (λj=>!decide (j=i)):=by
      rw[List.filter_filter]
      congr 1;grind
     grind [Nat.lt_of_le_of_ne,List.length_filter_le,List.length_filter_eq_length_iff]
    omega
  unfold P1 at hst
  unfold wpOpIn
  rw[ho]
  rw[ho] at hst
  simp only at hst ⊢
  rcases hst with⟨hgd,he⟩|⟨hgd,hdst,heq⟩
  ·rw[if_pos (W3 hs hgd)]
   exact IN (he ⟨none,a.defers,false⟩ γ a w hs rfl _ _ λ_ _ _ _ _ _ h=>h) (he fx γ a w hs hd _ _ next)
  ·rw[if_neg (by grind [W3])]
   refine⟨λ_ _=>trivial,next _ w γ ?_ (.refl γ w) ?_ (by rw[D6];exact hd)⟩
   ·rw[heq];exact hs.put hdst (v:=undef) (.Qt [] [] rfl (by grind))
   ·rw[heq];cases ops[i].dst<;>exact Zr.refl hs.u
theorem TV.lN{P:Program}{G:ze}{ops:Array Oper}{id:Nat}{st:St}{Q:Exit->St->Prop}{p:Y4}{ip:Nat}{ex:Exit}{W:List Wr}(hm:P.follows .mixedOrders=true)(hp:p.ok ops=true)
  (hback:(ops.toList.zipIdx.all λx=>x.1.after.all λe=>!Region.binds .any e || decide (e.on < x.2))=true)
  (hstep:∀i,i < ops.size->i≠ip->(ip < ops.size->((YP ops.toList).getD i 0).testBit ip=false)->X4 P G ops i (p.st (λj=>decide (j < i)) st ops.size) (p.rs i) (p.ws i)) (hq:ops.size<=ip->Q .normal (p.st (λ_=>true) st ops.size))
  (hpan:ip < ops.size->KA P G ops ip (p.st (λj=>decide (j < ip)) st ops.size) (p.rs ip) ex W/\∀D,Q ex ((p.st D st ops.size).app W)) :
  TV P G (.region id ops true) st Q:=λfx γ a w hs hd=>by
 have hs0:Qs G γ st a.tmps { w with drawn:=w.drawn+1 }:=by
  have g:Qa γ w γ { w with drawn:=w.drawn+1 }:=⟨rfl,rfl,rfl,zI _,λ_ _ _ _ h=>h,λ_ _=>zI _,(by grind),(by grind)⟩
  have bl:F0 γ st.b st.u γ st.b st.u:=.refl hs.u
  refine⟨hs.n,λi=>(hs.t i).mono g bl,λb k hk=>?_,hs.u,hs.g.grow g,hs.o⟩
  rcases hs.b b k hk with h0|hm|⟨hM,B,o,cs,e',h1,h2,h3,h4,h5,h6,h7,h8⟩
  ·exact .inl h0
  ·exact .inr (.inl (hm.same rfl (by grind) λc v hr=>hr.mono g bl))
  ·refine .inr (.inr ⟨hM,B,o,cs,e',h1,h2,h3,h4,h5,λi c hc=>?_,h7,h8⟩)
   obtain⟨v,a1,a2,a3,a4⟩:=h6 i c hc
   exact⟨v,a1,a2.mono g bl,a3,a4⟩
 have g0:Qa γ w γ { w with drawn:=w.drawn+1 }:=⟨rfl,rfl,rfl,zI _,λ_ _ _ _ h=>h,λ_ _=>zI _,(by grind),(by grind)⟩
 refine wpIn_region_any hm ?_
 have e0:p.st (λ_=>false) st ops.size=st:=by
  have:∀n,p.st (λ_=>false) st n=st:=λn=>by
   induction n with
   | zero=>rfl
   | succ n ih=>simp[Y4.st,ih]
  exact this _
 refine Re hp (λi o ho e he hb=>?_) hstep hq hpan ops.size (λ_=>false) _ γ a _ (by simp) (λi hi=>by simp[hi]) (λi h=>by simp at h) (λi o h=>by simp at h)
  (by grind) (by grind) ⟨g0,by rw[e0];exact .refl hs.u⟩ hd.1
 have hm':(o,i)∈ops.toList.zipIdx:=by
  grind
 grind [List.all_eq_true,Array.all_eq_true_iff_forall_mem]
theorem TV.draw{P:Program}{G:ze}{ops:Array Oper}{id:Nat}{st:St}{Q:Exit->St->Prop}{p:Y4}(hm:P.follows .mixedOrders=true)(hp:p.ok ops=true)
  (hback:(ops.toList.zipIdx.all λx=>x.1.after.all λe=>!Region.binds .any e || decide (e.on < x.2))=true)
  (hstep:∀i,i < ops.size->X4 P G ops i (p.st (λj=>decide (j < i)) st ops.size) (p.rs i) (p.ws i)) (hq:Q .normal (p.st (λ_=>true) st ops.size)) :
  TV P G (.region id ops true) st Q:=TV.lN (ip:=ops.size) (ex:=.normal) (W:=[]) hm hp hback (λi h _ _=>hstep i h) (λ_=>hq) λh=>absurd h (Nat.lt_irrefl _)
end Go.EV
