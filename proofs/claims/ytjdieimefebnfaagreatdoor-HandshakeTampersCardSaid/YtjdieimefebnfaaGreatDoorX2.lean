/- Part X2. -/
import Derived.Test.YtjdieimefebnfaaGreatDoorX1
import Derived.OrdersIn
import Derived.Scope
import Derived.Orders
set_option linter.all false
namespace Go.EV
open Go
theorem FF{v:Value}{c:V}(h:KJ v=some c):c.Zq=true/\c.QK=false:=by
 unfold KJ at h;split at h<;>simp at h<;>subst h<;>exact⟨rfl,rfl⟩
theorem JQ:∀{l:List Value} {cs:List V},l.mapM KJ=some cs->∀c,c∈cs->c.Zq=true/\c.QK=false
 | [],cs,h,c,hc=>by grind
 | x :: l,cs,h,c,hc=>by
  simp only[List.mapM_cons,Option.bind_eq_bind,wq,Option.pure_def,zG] at h;obtain⟨c',h1,cs',h2,rfl⟩:=h;rcases zY.1 hc with rfl|hc
  ·exact FF h1
  ·exact JQ h2 c hc
theorem MM{P:Program}{t:TypeId}{cs:List V}(h:zeroV P t=some cs):∀c,c∈cs->c.Zq=true/\c.QK=false:=by
 replace h:=(O7 h).1;unfold LD at h;split at h
 ·split at h
  ·exact JQ h
  ·simp at h
 ·simp at h
theorem Qs.SO{G:zi}{γ:Gh}{st:St}{a:Act}{w:World}(h:Qs G γ st a.tmps w){d:Nat}{cells:List V}{vs:Array Value}{e:TypeId}(hM:cells.length < J0)(hu:st.u d=false)(hd:d < st.n)
  (hr:U4 γ w st.b st.u cells vs) (hc:∀c,c∈cells->c.Zq=true/\c.QK=false) :
  ∃γ',Qe γ w γ' { w with heap:=w.heap.push (.cells vs e) }/\Zf γ st.b st.u γ' (st.Qj d ⟨cells.length,true,[cells]⟩).b (st.Qj d ⟨cells.length,true,[cells]⟩).u/\
   Qs G γ' ((st.Qj d ⟨cells.length,true,[cells]⟩).QG d (.ptr d 0 0)) (a.put (some d) (.pointer (some ⟨w.heap.size,0,none⟩))).tmps { w with heap:=w.heap.push (.cells vs e) }:=by
 have key:=h.Iq (d:=d) (size:=cells.length) (rows:=[cells]) (cs:=vs) (e:=e) (w1:={ w with heap:=w.heap.push (.cells vs e) }) hM hu rfl ⟨rfl,rfl,rfl⟩ (by simp) (by simp[hr.1]) (λi c hi=>by
  simp only[List.flatten_cons,List.flatten_nil,wS] at hi;have hlt:i < vs.size:=by rw[hr.1];grind
  have hv:vs[i]?=some vs[i]:=(by grind);obtain⟨c1,c2⟩:=hc c (wd hi);exact⟨vs[i],hv,hr.2 i c _ hi hv,(hr.2 i c _ hi hv).ZW c1,c2⟩)
 refine⟨_,key.2.1,key.2.2.Ue,?_⟩;have hp:=key.1.put (a:=a) (dst:=some d) (c:=.ptr d 0 0) (v:=.pointer (some ⟨w.heap.size,0,none⟩)) (by simpa[W2,St.Qj] using hd) (by
  have:=Qz.ptr (γ:=γ.add d w.heap.size) (w:={ w with heap:=w.heap.push (.cells vs e) }) (u:=(st.Qj d ⟨cells.length,true,[cells]⟩).u) (bs:=(st.Qj d ⟨cells.length,true,[cells]⟩).b) d 0 0 w.heap.size 0 ⟨cells.length,true,[cells]⟩ (by simp[St.Qj]) (by simp[Gh.add]) hM;grind)
 exact hp
theorem IJ{P:Program}{G:zi}{o:Oper}{st:St}{elem:TypeId}{d:Nat}{cs:List V}(ho:o.op=.alloc elem)(hd:o.dst=some d)(hn:d < st.n)(hu:st.u d=false)(hz:zeroV P elem=some cs) :
  I9 P G o st ((st.Qj d ⟨cs.length,true,[cs]⟩).QG d (.ptr d 0 0)):=
 M7 λγ a w hs=>by
  obtain⟨z,hz1,hz2⟩:=Uh (P:=P) (γ:=γ) (w:=w) (bs:=st.b) (u:=st.u) hz;obtain⟨γ',g,pn,hs'⟩:=hs.SO (e:=elem) (O7 hz).2 hu hn hz2 (MM hz);refine⟨_,_,γ',?_,g,pn,by rw[hd];exact hs'⟩;simp[execOp,ho,Instr.alloc,hz1,newVar,newRow]
def RB(c:V):Option (List V):=Fj <|
 match c.cellsOf with
 | some cs=>if cs.all V.Zq then some (cs.map V.strip) else none
 | none=>none
theorem MA{c:V}(h:c.Zq=true):c.strip.Zq=true:=by cases c<;>simp_all [V.Zq,V.strip]
theorem U4.strip{γ:Gh}{w:World}{bs:zj}{u:zl}{cs:List V}{vs:Array Value}(h:U4 γ w bs u cs vs):U4 γ w bs u (cs.map V.strip) vs:=by
 refine⟨by simpa using h.1,λi c v hc hv=>?_⟩;rw[wm,zJ] at hc;obtain⟨c',h1,rfl⟩:=hc;exact(h.2 i c' v h1 hv).strip
theorem UH{c:V}{cs:List V}(h:RB c=some cs){γ:Gh}{w:World}{bs:zj}{u:zl}{v:Value}(hr:Qz γ w bs u c v) :
  U4 γ w bs u cs v.cells/\∀c,c∈cs->c.Zq=true/\c.QK=false:=by
 replace h:=(O7 h).1;split at h
 ·rename_i cs0 h0;split at h<;>simp at h;rename_i ha;subst h;refine⟨(hr.xB h0).strip,λc hc=>?_⟩;obtain⟨c',h1,rfl⟩:=zP.1 hc;grind [MA,List.all_eq_true,YD]
 ·simp at h
theorem xZ{P:Program}{G:zi}{o:Oper}{st:St}{elem:TypeId}{x:Operand}{d:Nat}{c:V}{cs:List V}(ho:o.op=.box elem x)(hd:o.dst=some d)(hn:d < st.n)(hu:st.u d=false)
  (hx:st.ev G x=some c) (hc:RB c=some cs):I9 P G o st ((st.Qj d ⟨cs.length,true,[cs]⟩).QG d (.ptr d 0 0)):=
 M7 λγ a w hs=>by
  obtain⟨h1,h2⟩:=UH hc (hs.ev hx);obtain⟨γ',g,pn,hs'⟩:=hs.SO (e:=elem) (O7 hc).2 hu hn h1 h2;refine⟨_,_,γ',?_,g,pn,by rw[hd];exact hs'⟩;simp[execOp,ho,Instr.box,newVar,newRow]
def chunk(s:Nat):Nat->List V->List (List V)
 | 0,_=>[]
 | n+1,l=>l.take s :: chunk s n (l.drop s)
theorem IA(s:Nat):∀(n:Nat) (l:List V),l.length=n * s->(chunk s n l).flatten=l/\(chunk s n l).length=n/\∀r,r∈chunk s n l->r.length=s
 | 0,l,h=>by
  have:l=[]:=qo.1 (by simpa using h);subst this;exact⟨rfl,rfl,λr hr=>by simp[chunk] at hr⟩
 | n+1,l,h=>by
  have hl:l.length=n * s+s:=by grind
  obtain⟨h1,h2,h3⟩:=IA s n (l.drop s) (by simp[hl]);refine⟨by simp[chunk,h1],by simp[chunk,h2],λr hr=>?_⟩;simp only[chunk,zY] at hr;grind
def XR(z:List V)(n:Nat):List V:=(List.range n).map λi=>z.getD (i % z.length) .undef
theorem Pv{γ:Gh}{w:World}{bs:zj}{u:zl}{z:List V}{zv:Array Value}(h:U4 γ w bs u z zv)(n:Nat) :
  U4 γ w bs u (XR z n) ((Array.range n).map (zv[· % zv.size]!)):=by
 refine⟨by simp[XR],λi c v hc hv=>?_⟩;simp only[XR,wm,zJ] at hc;obtain⟨j,hj,rfl⟩:=hc;have hlt:i < n:=by
  grind
 have hji:j=i:=by
  grind
 subst hji;simp only[Array.getElem?_map,zJ] at hv;obtain⟨k,hk,rfl⟩:=hv;have hkj:k=j:=by
  grind
 subst hkj;rw[<-h.1];by_cases hz:k % zv.size < zv.size
 ·have h1:z[k % zv.size]?=some (z[k % zv.size]'(by rw[<-h.1];exact hz)):=wA _;have h2:zv[k % zv.size]?=some (zv[k % zv.size]):=(by grind);rw[getElem!_pos zv _ hz];have:z.getD (k % zv.size) .undef=z[k % zv.size]'(by grind):=by grind
  rw[this];exact h.2 _ _ _ h1 h2
 ·have:z.getD (k % zv.size) .undef=.undef:=by
   rw[wP,qp (by rw[<-h.1];omega)];rfl
  rw[this];exact .undef _
def Yd(P:Program)(t:TypeId)(n:Nat)(parts:List (Nat×V)):Option Qd:=
 match P.underlying t with
 | some (.slice e)=>match P.info? e,zeroV P e with
  | some ei,some z=>if n * ei.size<=16777216/\ei.size < J0 then
    match IQ (λi=>some (i * ei.size,ei.size)) (if n * ei.size=0 then [] else XR z (n * ei.size)) parts with
    | some out=>if out.all V.Zq&&out.length==n * ei.size then some ⟨ei.size,true,chunk ei.size n (out.map V.strip)⟩ else none
    | none=>none
   else none
  | _,_=>none
 | _=>none
theorem Us{P:Program}{G:zi}{o:Oper}{st:St}{t:TypeId}{n:Nat}{ps:Array (Nat×Operand)}{d:Nat}{parts:List (Nat×V)}{k:Qd}(ho:o.op=.buildSlice t n ps)(hd:o.dst=some d)(hn:d < st.n)(hu:st.u d=false)
  (hx:∀(γ:Gh) (a:Act) (w:World),Qs G γ st a.tmps w->ps.toList.length=parts.length/\∀(j:Nat) (p:Nat×V) (x:Nat×Value),parts[j]?=some p->(ps.toList.map λy=>(y.1,a.eval y.2))[j]?=some x->p.1=x.1/\Qz γ w st.b st.u p.2 x.2) (hk:Yd P t n parts=some k):I9 P G o st ((st.Qj d k).QG d (.ref d 0 n)):=
 M7 λγ a w hs=>by
  unfold Yd at hk;split at hk
  ·rename_i e hut;split at hk
   ·rename_i ei z hi hz;split at hk
    ·rename_i hsmall;obtain⟨hsmall,hM⟩:=hsmall;split at hk
     ·rename_i out hf;split at hk<;>simp at hk;rename_i hall;subst hk;simp only[zL,beq_iff_eq] at hall;obtain⟨hall,hlen⟩:=hall;obtain⟨zv,hz1,hz2⟩:=Uh (P:=P) (γ:=γ) (w:=w) (bs:=st.b) (u:=st.u) hz;obtain⟨l,hp⟩:=hx γ a w hs;have hp':∀(j:Nat) (p:Nat×V) (x:Nat×Value),parts[j]?=some p->(ps.map λ(i,x)=>(i,a.eval x)).toList[j]?=some x->p.1=x.1/\Qz γ w st.b st.u p.2 x.2:=by
       grind
      have hcr:U4 γ w st.b st.u (if n * ei.size=0 then [] else XR z (n * ei.size)) ((Array.range (n * ei.size)).map ((if n * ei.size=0 then #[] else zv.cells)[· % (if n * ei.size=0 then #[] else zv.cells).size]!)):=by
       by_cases h0:n * ei.size=0
       ·simp only[h0,if_true];exact⟨by simp,(by grind)⟩
       ·simp only[h0,if_false];exact Pv hz2 _
      obtain⟨r,hr1,hr2⟩:=Ed (γ:=γ) (w:=w) (bs:=st.b) (u:=st.u) _ parts (ps.map λ(i,x)=>(i,a.eval x)).toList _ out _ hf hcr (by simpa using l) hp';obtain⟨c1,c2,c3⟩:=IA ei.size n (out.map V.strip) (by simpa using hlen);have hr3:=hr2.strip;have key:=hs.Iq (d:=d) (size:=ei.size) (rows:=chunk ei.size n (out.map V.strip)) (cs:=r) (e:=e) (w1:={ w with heap:=w.heap.push (.cells r e) }) hM hu rfl ⟨rfl,rfl,rfl⟩ c3 (by rw[c2,hr2.1,hlen];grind) (λi c hc=>by
       rw[c1] at hc;have hlt:i < r.size:=by rw[hr3.1];grind
       have hv:r[i]?=some r[i]:=(by grind);obtain⟨c',h1,rfl⟩:=zP.1 (wd hc);exact⟨r[i],hv,hr3.2 i _ _ hc hv,(hr3.2 i _ _ hc hv).ZW (by grind [MA,List.all_eq_true]),YD c'⟩)
      refine⟨.slice (some ⟨w.heap.size,0,none⟩) n n,_,γ.add d w.heap.size,?_,key.2.1,key.2.2.Ue,?_⟩
      ·have hns:¬(n * ei.size > 2 ^ 24):=by omega
       by_cases h0:n * ei.size=0
       ·simp only[h0,if_true] at hr1;simp[execOp,ho,Instr.buildSlice,zO hut,sizeOf,typeInfo,hi,h0,newRow];simp at hr1;rw[hr1];simp
       ·simp only[h0,if_false] at hr1;have hr1':Instr.fill (λi=>some (i * ei.size,ei.size)) (Array.map (λx=>zv.cells[x % zv.cells.size]!) (Array.range (n * ei.size))) (ps.map λ(i,x)=>(i,a.eval x)).toList=some r:=hr1;have hzr : (do let v <- zeroValue e; pure v.cells : Sem (Array Value)).run P w = .ok zv.cells w := by simp [hz1]
        simp only[execOp,ho,Instr.buildSlice,zX,zO hut,zZ,sizeOf,typeInfo,run_program,hi,wI,hns,h0,if_false,Sem.run_ite,hz1,hr1',newRow,run_newObj]
      ·have hb:=key.1.put (a:=a) (dst:=some d) (c:=.ref d 0 n) (v:=.slice (some ⟨w.heap.size,0,none⟩) n n) (by simpa[W2,St.Qj] using hn) (by
        have:=Qz.ref (γ:=γ.add d w.heap.size) (w:={ w with heap:=w.heap.push (.cells r e) }) (bs:=(st.Qj d ⟨ei.size,true,chunk ei.size n (out.map V.strip)⟩).b) (u:=(st.Qj d ⟨ei.size,true,chunk ei.size n (out.map V.strip)⟩).u)
         d 0 n w.heap.size 0 n ⟨ei.size,true,chunk ei.size n (out.map V.strip)⟩ (by simp[St.Qj]) (by simp[Gh.add]) (by simp[c2]) (zQ _) ⟨r,e,(0,0),by simp,by rw[hr2.1,hlen];simp⟩ hM (by simp[c2])
        grind)
       rw[hd];exact hb
     ·simp at hk
    ·simp at hk
   ·simp at hk
  ·simp at hk
theorem Xn{P:Program}{G:zi}{o:Oper}{st:St}{t:TypeId}{n:Nat}{ps:Array (Nat×Operand)}{d:Nat}{parts:List (Nat×V)}{k:Qd}(ho:o.op=.buildSlice t n ps)(hd:o.dst=some d)(hn:d < st.n)(hu:st.u d=false)
  (hx:Hj (st.ev G) ps.toList=some parts) (hk:Yd P t n parts=some k):I9 P G o st ((st.Qj d k).QG d (.ref d 0 n)):=
 (by grind [Us,JW])
def E9(cs:Array Value)(o:Nat):List Value->Array Value
 | []=>cs
 | v :: vs=>E9 (cs.setIfInBounds o v) (o+1) vs
theorem P2:∀(vs:List Value) (o:Nat) (cs:Array Value),o+vs.length<=cs.size->
  (E9 cs o vs).size=cs.size/\∀j:Nat,(E9 cs o vs)[j]?=if o<=j/\j < o+vs.length then vs[j - o]? else cs[j]?
 | [],o,cs,_=>⟨rfl,λj=>by rw[if_neg (by simp)];rfl⟩
 | v :: vs,o,cs,h=>by
  simp only[wV] at h;obtain⟨h1,h2⟩:=P2 vs (o+1) (cs.setIfInBounds o v) (by simp;omega);refine⟨by rw[E9,h1];simp,λj=>?_⟩;rw[E9,h2];grind
theorem D5.unique{w:World}{B:Nat}{cs cs':Array Value}{e e':TypeId}(h:D5 w B cs e)(h':D5 w B cs' e'):cs=cs'/\e=e':=by
 obtain⟨fz,h,_⟩:=h;obtain⟨fz',h',_⟩:=h';grind
def Rc(w:World)(B:Nat):Nat×Nat:=match w.heap[B]? with|some (.cells _ _ fz)=>fz|_=>(0,0)
def World.Qv(w:World)(B:Nat)(cs:Array Value)(e:TypeId):World:={ w with heap:=w.heap.setIfInBounds B (.cells cs e (Rc w B)) }
theorem Ee{w:World}{B:Nat}{cs:Array Value}{e:TypeId}{fz:Nat×Nat}(h:w.heap[B]?=some (.cells cs e fz)):Rc w B=fz:=by
 unfold Rc;rw[h]
theorem PB{w:World}{B o:Nat}{cs:Array Value}{e:TypeId}(h:D5 w B cs e)(v:Value) :
  w.setCell ⟨B,o,none⟩ v=World.Qv w B (cs.setIfInBounds o v) e:=by
 obtain⟨fz,h,_⟩:=h;unfold World.setCell World.Qv;rw[Ee h];congr 1;grind
theorem HV{w:World}{B:Nat}{cs:Array Value}{e:TypeId}(hB:B < w.heap.size):(World.Qv w B cs e).heap[B]?=some (.cells cs e (Rc w B)):=by
 simp[World.Qv,hB]
theorem D5.set{w:World}{B:Nat}{cs cs':Array Value}{e:TypeId}(h:D5 w B cs e)(hs:cs'.size=cs.size):D5 (World.Qv w B cs' e) B cs' e:=by
 have hB:=h.lt;obtain⟨fz,h,hf⟩:=h;exact⟨fz,by rw[HV hB,Ee h],λi hi=>hf i (by omega)⟩
theorem YA{w:World}{B i:Nat}{cs:Array Value}{e:TypeId}(h:i≠B):(World.Qv w B cs e).heap[i]?=w.heap[i]?:=by
 simp only[World.Qv,Array.getElem?_setIfInBounds];grind
theorem Rb(w:World)(B:Nat)(cs:Array Value)(e:TypeId):Rc (World.Qv w B cs e) B=Rc w B:=by
 grind [Nat.lt_or_ge,Ee,HV,Array.getElem?_eq_none,Rc,World.Qv]
theorem Om(w:World)(B:Nat)(cs cs':Array Value)(e:TypeId):World.Qv (World.Qv w B cs e) B cs' e=World.Qv w B cs' e:=by
 grind [Rb,Array.setIfInBounds_setIfInBounds,World.Qv,Rc]
theorem G9{P:Program}{B o:Nat}{e:TypeId}:∀(vs:List Value) (i:Nat) (w:World) (cs:Array Value),D5 w B cs e->(∀v,v∈vs->v.oneCell'=true)->o+i+vs.length<=cs.size->
  (storeCells ⟨B,o,none⟩ vs i).run P w=.ok () (World.Qv w B (E9 cs (o+i) vs) e)
 | [],i,w,cs,h,_,_=>by
  have:World.Qv w B cs e=w:=by
   obtain⟨fz,h,_⟩:=h;unfold World.Qv;rw[Ee h];have:w.heap.setIfInBounds B (.cells cs e fz)=w.heap:=by
    grind
   rw[this]
  simp[storeCells,E9,this]
 | v :: vs,i,w,cs,h,h1,hl=>by
  simp only[wV] at hl;have hc:w.cell? ⟨B,o+i,none⟩=some (cs[o+i]'(by omega)):=by
   rw[h.cell];grind
  have hf:w.frozen? ⟨B,o+i,none⟩=false:=by
   obtain⟨fz,h,hf⟩:=h;have:=hf (o+i) (by omega);grind [World.frozen?]
  have hst:(store ((⟨B,o,none⟩:Addr).add i) v).run P w=.ok () (World.Qv w B (cs.setIfInBounds (o+i) v) e):=by
   rw[run_store P w _ v .plain (h1 v (by simp)),Addr.add_eq];simp only[hc,hf,Bool.false_eq_true,if_false,PB h]
  have ih:=G9 (P:=P) (B:=B) (o:=o) vs (i+1) (World.Qv w B (cs.setIfInBounds (o+i) v) e) (cs.setIfInBounds (o+i) v) (h.set (by simp)) (by grind) (by simp;omega);rw[Om] at ih;rw[show storeCells ⟨B,o,none⟩ (v :: vs) i=(store ((⟨B,o,none⟩:Addr).add i) v >>= λ_=>storeCells ⟨B,o,none⟩ vs (i+1)) from rfl,zX,hst,zZ,ih];rfl
theorem Dt{w:World}{B B' o:Nat}{cs:Array Value}{e:TypeId}(h:B'≠B):cellAt (World.Qv w B cs e) B' o=cellAt w B' o:=by
 grind [YA,cellAt,World.cell?]
theorem Qe.Qv{γ:Gh}{w:World}{B:Nat}{cs cs':Array Value}{e:TypeId}{x:M3}(h:D5 w B cs e)(hs:cs'.size=cs.size)(hl:∀o v,o < γ.Qr B->cs[o]?=some v->cs'[o]?=some v)(hown:γ.own B=some x):Qe γ w γ (World.Qv w B cs' e) where
 os:=rfl
 tape:=rfl
 output:=rfl
 size:=by simp[World.Qv]
 Pf:=λB' o v ho hc=>by
  by_cases hb:B'=B
  ·subst hb;rw[(h.set hs).cellAt];rw[h.cellAt] at hc;grind
  grind [Dt]
 Qr:=λ_ _=>zQ _
 free:=λB' hB ho=>⟨(by grind [YA]),ho,rfl⟩
 room:=λB' cs2 e2 fz hc=>by
  by_cases hb:B'=B
  ·subst hb;have hB:=h.lt;obtain⟨fz',h,_⟩:=h;rw[h] at hc;simp only[zG,Obj.cells.injEq] at hc;obtain⟨rfl,rfl,rfl⟩:=hc;exact⟨cs',_,by rw[HV hB,Ee h],hs,.inl rfl⟩
  ·exact⟨cs2,fz,by grind [YA],rfl,.inl rfl⟩
theorem Qs.Ak{G:zi}{γ:Gh}{st:St}{tmps:Array Value}{w:World}(h:Qs G γ st tmps w){b:Nat}{k:Qd}(hk:st.b b=some k)(hM:k.size < J0){B o:Nat}{cs cs':Array Value}{e:TypeId}{rows':List (List V)}
  (hloc:γ.loc b=some (B,o)) (hown:γ.own B=some (.Zs b)) (hheap:D5 w B cs e) (hsz:cs'.size=cs.size) (hlim:γ.Qr B=0)
  (hrows:∀r,r∈rows'->r.length=k.size) (hlen:rows'.length=k.rows.length) (hroom:o+k.rows.length * k.size<=cs.size)
  (hcells:∀(i:Nat) (c:V),rows'.flatten[i]?=some c->∃v,cs'[o+i]?=some v/\Qz γ w st.b st.u c v/\v.oneCell'=true/\D6 γ w (.nest b (i / k.size) (i % k.size)) c v) :
  Qs G γ (st.Qj b ⟨k.size,k.Ql,rows'⟩) tmps (World.Qv w B cs' e)/\Qe γ w γ (World.Qv w B cs' e)/\G7 γ st.b st.u γ (st.Qj b ⟨k.size,k.Ql,rows'⟩).b (st.Qj b ⟨k.size,k.Ql,rows'⟩).u:=by
 have g:Qe γ w γ (World.Qv w B cs' e):=(by grind [Qe.Qv])
 have hu:=h.u b k hk;have bl:G7 γ st.b st.u γ (st.Qj b ⟨k.size,k.Ql,rows'⟩).b (st.Qj b ⟨k.size,k.Ql,rows'⟩).u:=by
  refine⟨(by grind [St.Qj]),λb' hb hn=>?_,λb' k' hk'=>?_⟩
  ·have:b'≠b:=(by grind);simp_all [if_neg,St.Qj]
  ·by_cases hb:b'=b
   ·subst hb;rw[hk] at hk';simp only[zG] at hk';subst hk';exact⟨by simp[St.Qj],.inr ⟨⟨k.size,k.Ql,rows'⟩,by simp[St.Qj],rfl,λ_=>hlen,rfl⟩⟩
   ·exact⟨by simp only[St.Qj];rw[if_neg hb];exact h.u b' k' hk',.inr ⟨k',by simp_all [if_neg,St.Qj],rfl,λ_=>rfl,rfl⟩⟩
 have hB:B < w.heap.size:=h.o B _ hown;refine⟨⟨h.n,λi=>(h.t i).mono g bl,λb' k' hk'=>?_,λb' k' hk'=>?_,h.g.grow g,λB' x hx=>by simpa[World.Qv] using h.o B' x hx⟩,g,bl⟩
 ·simp only[St.Qj] at hk';by_cases hb:b'=b
  ·subst hb;rw[if_pos rfl] at hk';simp only[zG] at hk';subst hk';refine .inr (.inr ⟨hM,B,o,cs',e,hloc,hown,hheap.set hsz,hrows,by grind,λi c hc=>?_,λ_=>hlim,by grind⟩);obtain⟨v,h1,h2,h3,h4⟩:=hcells i c hc;exact⟨v,h1,h2.mono g bl,h3,h4.grow g⟩
  ·rw[if_neg hb] at hk';rcases h.b b' k' hk' with⟨v1,v2⟩|hm|⟨hM2,B2,o2,cs2,e2,h1,h2,h3,h4,h5,h6,h7,h8⟩
   ·exact .inl ⟨v1,v2⟩
   ·exact .inr (.inl (hm.same rfl (by grind [YA,Option.some.injEq,M3.Zs.injEq]) λc v hr=>hr.mono g bl))
   have hne:B2≠B:=(by grind);refine .inr (.inr ⟨hM2,B2,o2,cs2,e2,h1,h2,h3.of_eq (YA hne),h4,h5,λi c hc=>?_,h7,h8⟩);obtain⟨v,a1,a2,a3,a4⟩:=h6 i c hc;exact⟨v,a1,a2.mono g bl,a3,a4.grow g⟩
 ·simp only[St.Qj] at hk' ⊢;by_cases hb:b'=b
  ·subst hb;simp
  ·rw[if_neg hb] at hk';rw[if_neg hb];exact h.u b' k' hk'
def ZQ(P:Program)(t:TypeId)(k:Qd)(i off:Nat)(c:V):Option Qd:=
 match P.info? t,RB c,k.rows[i]? with
 | some ti,some cs,some r=>if ti.size=cs.length/\off+cs.length<=k.size/\k.Ql=true then some ⟨k.size,k.Ql,k.rows.set i (N9 r off cs)⟩ else none
 | _,_,_=>none
theorem PL(r:List V)(off:Nat)(cs:List V)(h:off+cs.length<=r.length)(j:Nat) :
  (N9 r off cs)[j]?=if off<=j/\j < off+cs.length then cs[j - off]? else r[j]?:=by
 unfold N9;have lt:(r.take off).length=off:=by simp;omega
 grind
theorem JX(r:List V)(off:Nat)(cs:List V)(h:off+cs.length<=r.length):(N9 r off cs).length=r.length:=by
 simp[N9];omega
def iW(G:zi)(st:St)(x:Operand)(c:V):Prop:=∀(γ:Gh) (a:Act) (w:World),Qs G γ st a.tmps w->Qz γ w st.b st.u c (a.eval x)
theorem Wv{P:Program}{G:zi}{o:Oper}{st:St}{t:TypeId}{x y:Operand}{b i off:Nat}{c:V}{k k':Qd}(ho:o.op=.store t x y)(hd:o.dst=none)
    (hx:iW G st x (.ptr b i off)) (hy:iW G st y c) (hk:st.b b=some k) (hs:ZQ P t k i off c=some k'):I9 P G o st (st.Qj b k'):=
  Dl λγ a w hsim=>by
    unfold ZQ at hs;split at hs
    · rename_i ti cs r hti hcs Zr;split at hs<;>simp at hs;rename_i hb;subst hs;obtain⟨hsz,hoff,hex⟩:=hb;obtain⟨B,o',hv,hl⟩:=(hx γ a w hsim).Zh hk;have hM:=(hx γ a w hsim).Za hk;obtain⟨hcr,hcell⟩:=UH hcs (hy γ a w hsim);rcases hsim.b b k hk with⟨v1,_⟩|hm|⟨_,B2,o2,cs2,e2,h1,h2,h3,h4,h5,h6,h7,h8⟩
      · grind
      · exact(hm.small hM).elim
      rw[hl] at h1;simp only[zG,zT] at h1;obtain⟨rfl,rfl⟩:=h1;have hi:i < k.rows.length:=(by grind);have hrl:=h4 r (wd Zr);have hin:(i+1) * k.size<=k.rows.length * k.size:=wT _ hi;rw[wK] at hin;have hvl:(a.eval y).cells.toList.length=cs.length:=by simpa using hcr.1
      have hone:∀v,v∈(a.eval y).cells.toList->v.oneCell'=true:=λv hv=>by
        obtain⟨j,hj,rfl⟩:=List.getElem_of_mem hv;have hjc:j < cs.length:=by grind
        have:=hcr.2 j cs[j] _ (by grind) (by rw[wB (by simpa using hj)]);exact this.ZW (by grind)
      have hrun:=G9 (P:=P) (B:=B) (o:=o'+(i * k.size+off)) (e:=e2) (a.eval y).cells.toList 0 w cs2 h3 hone (by grind);obtain⟨r1,r2⟩:=P2 (a.eval y).cells.toList (o'+(i * k.size+off)+0) cs2 (by rw[hvl];omega);have key:=hsim.Ak (cs':=E9 cs2 (o'+(i * k.size+off)+0) (a.eval y).cells.toList) (rows':=k.rows.set i (N9 r off cs)) hk hM hl h2 h3 r1 (h7 hex)
        (λq hq=>by
          rcases List.mem_or_eq_of_mem_set hq with hq|rfl
          · exact h4 q hq
          grind [JX])
        (by simp) h5 (λidx c' hc'=>by
          rcases qk k.size with hz|hpos
          · exfalso;have:((k.rows.set i (N9 r off cs)).flatten)=[]:=by
              rw[List.flatten_eq_nil_iff];intro q hq;have:q.length=k.size:=by
                rcases List.mem_or_eq_of_mem_set hq with hq|rfl
                · exact h4 q hq
                grind [JX]
              grind
            rw[this] at hc';simp at hc'
          · have e:idx=(idx / k.size) * k.size+idx % k.size:=by rw[wX];exact(Nat.div_add_mod idx k.size).symm
            have hm:=Nat.mod_lt idx hpos;have hall:∀q,q∈k.rows.set i (N9 r off cs)->q.length=k.size:=λq hq=>by
              rcases List.mem_or_eq_of_mem_set hq with hq|rfl
              · exact h4 q hq
              · rw[JX r off cs (by omega),hrl]
            have hget:=H2 _ hall (idx / k.size) (idx % k.size) hm;rw[<-e,hc'] at hget;rw[r2,hvl];by_cases hq:idx / k.size=i
            · rw[hq,List.getElem?_set_self hi] at hget;simp only[qf] at hget;rw[PL r off cs (by omega)] at hget;rw[hq] at e;by_cases hin2:off<=idx % k.size/\idx % k.size < off+cs.length
              · rw[if_pos hin2] at hget;rw[if_pos (by omega)];have hj:idx % k.size - off < (a.eval y).cells.toList.length:=by rw[hvl];omega
                refine⟨(a.eval y).cells.toList[idx % k.size - off],?_,?_,hone _ (List.getElem_mem hj),.QN (hcell c' (wd hget.symm)).2⟩
                · rw[show o'+idx - (o'+(i * k.size+off)+0)=idx % k.size - off by omega];exact wA hj
                · exact hcr.2 (idx % k.size - off) c' _ hget.symm (by rw[wB (by simpa using hj)];simp)
              · rw[if_neg hin2] at hget;rw[if_neg (by omega)];exact h6 idx c' (by rw[e,H2 k.rows h4 i (idx % k.size) hm,Zr];exact hget.symm)
            · rw[List.getElem?_set_ne (λx=>hq x.symm)] at hget;have hno:¬(o'+(i * k.size+off)+0<=o'+idx/\o'+idx < o'+(i * k.size+off)+0+cs.length):=by
                intro hc;apply hq;have a1:i * k.size<=idx:=by omega
                have a2:idx < (i+1) * k.size:=by rw[wK];omega
                exact Nat.div_eq_of_lt_le a1 a2
              rw[if_neg hno];exact h6 idx c' (by rw[e,H2 k.rows h4 _ (idx % k.size) hm];exact hget.symm))
      refine⟨_,γ,?_,key.2.1,key.2.2.Ue,by rw[hd];exact key.1⟩;have hsize:¬((a.eval y).cells.size≠ti.size):=by rw[hcr.1,hsz];simp
      simp only[execOp,ho,Instr.storeAt,hv,Instr.sureAddr,storeVar,sizeOf,typeInfo,hti,zX,run_program,wI,zZ,Sem.run_ite,hsize,if_false,hrun]
    · simp at hs
theorem Bl{P:Program}{G:zi}{o:Oper}{st:St}{t:TypeId}{x y:Operand}{b i off:Nat}{c:V}{k k':Qd}(ho:o.op=.store t x y)(hd:o.dst=none)
  (hx:st.ev G x=some (.ptr b i off)) (hy:st.ev G y=some c) (hk:st.b b=some k) (hs:ZQ P t k i off c=some k'):I9 P G o st (st.Qj b k'):=
 Wv ho hd (λ_ _ _ h=>h.ev hx) (λ_ _ _ h=>h.ev hy) hk hs
def RF(ro:Option Nat):Fence:={ Fence.wide with round:=ro }
theorem RF.room(ro:Option Nat)(n:Nat):(RF ro).room n:=λ_ h=>by simp[RF,Fence.wide] at h
theorem RF.fenced(ro:Option Nat)(P:Program)(m:Machine):m.fenced P (RF ro):=fenced_wide P m
abbrev CW(ro:Option Nat)(P:Program)(c:Code)(Q:Exit->Act->World->Prop)(a:Act)(w:World):Prop:=c.wpIn (RF ro) 0 P Q a w
theorem RL{ro:Option Nat}{P:Program}{f:FuncId}{args:Array Value}{w:World}{R:Ending->World->Prop}(h:Calls P f args w R):CallsIn (RF ro) 0 P f args w R:=(callsIn_wide (n:=0)).2 h
theorem lX{ro:Option Nat}{P:Program}{row:String}{args:Array Value}{w:World}{R:Value->World->Prop}(h:Rows P row args w R):RowsIn (RF ro) 0 P row args w R:=
 λc cs _=>let ⟨v,w',r,s⟩:=h c cs;⟨v,w',r,stepsIn_wide.2 s⟩
theorem BR{ro:Option Nat}{P:Program}{o:Oper}{a:Act}{next:Act->World->Prop}{Q:Exit->Act->World->Prop}:∀{r:Result Next},o.upon P a next Q r->o.uponIn (RF ro) 0 P a next Q r
 | .ok (.value _) _,h=>h
 | .ok .skip _,h=>h
 | .ok (.defer _) _,h=>h
 | .ok (.enter _ _) _,h=>⟨(by grind [RF,Fence.wide]),RL h⟩
 | .ok (.row _ _) _,h=>⟨(by grind [RF,Fence.wide]),lX h⟩
 | .halt (.panic _) _,h=>h
theorem Lj{ro:Option Nat}{P:Program}{o:Oper}{a:Act}{w:World}{next:Act->World->Prop}{Q:Exit->Act->World->Prop}
  (h0:o.wp P a w (λa' _=>a'.defers=a.defers) (λ_ _ _=>False)) (h:o.wp P a w next Q):o.wpIn (RF ro) 0 P a w next Q:=by
 refine⟨λ_ _=>trivial,?_⟩;have hnd:∀c,o.op≠.defer c:=by
  intro c hc;unfold Oper.wp at h0;have e : execOp a.eval o = (do let d <- resolve a.eval c o.type; pure (Next.defer d)) := by
   unfold execOp;rw[hc]
  rw[e,zX] at h0;cases hr:(resolve a.eval c o.type).run P w with
  | ok d w'=>
   rw[hr,zZ] at h0;have h1:({ a with defers:=d :: a.defers }.put o.dst undef).defers=a.defers:=h0;simp_all [X4]
  | halt x w'=>
   rw[hr] at h0;cases x<;>first|exact h0|exact h0.elim
 rw[Oper.semAt_eq _ _ _ hnd];exact BR h
theorem hC{ro:Option Nat}{P:Program}{o:Oper}{a:Act}{w:World}{next:Act->World->Prop}{Q:Exit->Act->World->Prop}
  (hnd:∀c,o.op≠.defer c) (h:o.wp P a w next Q):o.wpIn (RF ro) 0 P a w next Q:=
 ⟨λ_ _=>trivial,by rw[Oper.semAt_eq _ _ _ hnd];exact BR h⟩
section
variable {ro:Option Nat} {P:Program} {Q:Exit->Act->World->Prop} {a:Act} {w:World}
theorem B5{b:Frame}{k:List Item}{cs:List Frame}{c:Code}:step P (lone (b.atR a (.code (.scope c) :: k)) cs w)=.next (lone (b.atR a (.code c :: .inScope c :: k)) cs w):=
 step_lone_go (by simp[stepG,stepG.exec,Frame.atR])
theorem Oh{b:Frame}{k:List Item}{cs:List Frame}{c:Code}:step P (lone (b.atR a (.inScope c :: k)) cs w)=.next (lone (b.atR a k) cs w):=
 step_lone_go (by simp[stepG,stepG.exec,Frame.atR])
theorem Eo{c:Code}(h:CW ro P c (Exit.noGoto Q) a w):CW ro P (.scope c) Q a w:=by
 intro b k cs hro hb hr;have h0:(lone (b.atR a (.code (.scope c) :: k)) cs w).fenced P (RF ro):=RF.fenced _ _ _;obtain⟨e,a₁,w₁,hq,harr⟩:=h b (.inScope c :: k) cs hro hb hr;cases e with
 | normal=>exact⟨.normal,a₁,w₁,hq,.head h0 B5 (StepsIn.trans harr (.one (RF.fenced _ _ _) Oh))⟩
 | exit id=>
  have hx:exitTo id (.inScope c :: k)=exitTo id k:=by simp[exitTo]
  exact⟨.exit id,a₁,w₁,hq,λk' hk=>.head h0 B5 (harr.1 k' (by grind)),
   λhr' hk=>let ⟨k₁,h1,h2⟩:=harr.2 hr' (by grind);⟨k₁,h1,.head h0 B5 h2⟩⟩
 | goto l=>exact hq.elim
 | ret=>exact⟨_,a₁,w₁,hq,.of_steps (.one h0 B5) harr⟩
 | panic ch=>exact⟨_,a₁,w₁,hq,.of_steps (.one h0 B5) harr⟩
 | outgrown=>exact⟨_,a₁,w₁,hq,.of_steps (.one h0 B5) harr⟩
def GN(ro:Option Nat)(P:Program)(c:Code)(Q:Exit->Act->World->Prop)(a:Act)(w:World):Prop:=
 ∀(b:Frame) (k:List Item) (cs:List Frame),b.roundOf=ro->∃e a' w',Q e a' w'/\ArrivesIn (Machine.fenced P (RF ro)) P (lone (b.atR a (.inLoop c :: k)) cs w) b k cs e a' w'
theorem KN{c:Code}{m:Frame->List Item->List Frame->Machine}
  (hm:∀b k cs,StepsIn (Machine.fenced P (RF ro)) P (m b k cs) (lone (b.atR a (.code c :: .inLoop c :: k)) cs w)) (h:CW ro P c (Exit.then (GN ro P c Q) Q) a w) :
  ∀(b:Frame) (k:List Item) (cs:List Frame),b.roundOf=ro->∃e a' w',Q e a' w'/\ArrivesIn (Machine.fenced P (RF ro)) P (m b k cs) b k cs e a' w':=by
 intro b k cs hro;obtain⟨e,a₁,w₁,hq,harr⟩:=h b (.inLoop c :: k) cs hro trivial (RF.room _ _);cases e with
 | normal=>
  obtain⟨e₂,a₂,w₂,hq₂,harr₂⟩:=hq b k cs hro;exact⟨e₂,a₂,w₂,hq₂,.of_steps (StepsIn.trans (hm b k cs) harr) harr₂⟩
 | exit id=>exact⟨_,a₁,w₁,hq,.of_steps (hm b k cs) (.pass (x:=.inLoop c) rfl (λ_ _=>.inl (by simp)) harr)⟩
 | goto l=>exact⟨_,a₁,w₁,hq,.of_steps (hm b k cs) (.pass (x:=.inLoop c) rfl (λ_ _=>.inl (by simp)) harr)⟩
 | ret=>exact⟨_,a₁,w₁,hq,.of_steps (hm b k cs) (.pass (x:=.inLoop c) rfl (λ_ _=>.inl (by simp)) harr)⟩
 | panic ch=>exact⟨_,a₁,w₁,hq,.of_steps (hm b k cs) (.pass (x:=.inLoop c) rfl (λ_ _=>.inl (by simp)) harr)⟩
 | outgrown=>exact⟨_,a₁,w₁,hq,.of_steps (hm b k cs) (.pass (x:=.inLoop c) rfl (λ_ _=>.inl (by simp)) harr)⟩
theorem El{c:Code}(h:CW ro P c (Exit.then (GN ro P c Q) Q) a w):CW ro P (.loop c) Q a w:=λb k cs hro _ _=>
 KN (m:=λb k cs=>lone (b.atR a (.code (.loop c) :: k)) cs w) (λ_ _ _=>.one (RF.fenced _ _ _) stepR_loop) h b k cs hro
theorem Ls{c:Code}(h:CW ro P c (Exit.then (GN ro P c Q) Q) a w):GN ro P c Q a w:=
 KN (m:=λb k cs=>lone (b.atR a (.inLoop c :: k)) cs w) (λ_ _ _=>.one (RF.fenced _ _ _) stepR_inLoop) h
theorem qZ{Q':Exit->Act->World->Prop}{c:Code}(h:GN ro P c Q a w)(hq:∀e a w,Q e a w->Q' e a w):GN ro P c Q' a w:=λb k cs hro=>by
 obtain⟨e,a',w',h1,h2⟩:=h b k cs hro;grind
theorem RW{c:Code}(I:Nat->Act->World->Prop)
  (round:∀n a w,I n a w->CW ro P c (Exit.then (λa' w'=>∃m,m < n/\I m a' w') Q) a w):∀(n:Nat) (a:Act) (w:World),I n a w->CW ro P (.loop c) Q a w:=by
 intro n;induction n using Nat.strongRecOn with
 | _ n ih=>
  intro a w hI;have key:∀n a w,I n a w->GN ro P c Q a w:=by
   intro n;induction n using Nat.strongRecOn with
   | _ n ih=>exact λa w hI=>Ls (wpIn_mono (round n a w hI) λe a' w' hq=>by
     cases e with
     | normal=>obtain⟨m,hm,h⟩:=hq;exact ih m hm a' w' h
     | _=>exact hq)
  exact El (wpIn_mono (round n a w hI) λe a' w' hq=>by
   cases e with
   | normal=>obtain⟨m,hm,h⟩:=hq;exact key m a' w' h
   | _=>exact hq)
theorem H9{F:Fence}{n:Nat}{ops:Array Oper}{Q Q':Exit->Act->World->Prop}(hq:∀e a w,Q e a w->Q' e a w):∀(l:List Nat) (a:Act) (w:World),wpOpsIn F n P ops Q l a w->wpOpsIn F n P ops Q' l a w
 | [],a,w,h=>hq _ _ _ h
 | i :: rest,a,w,h=>by
  simp only[wpOpsIn] at h ⊢;split
  ·rename_i hi;rw[hi] at h;exact H9 hq rest a w h
  ·rename_i o hi;rw[hi] at h;simp only at h ⊢;split
   ·rename_i hw;rw[if_pos hw] at h;refine⟨h.1,?_⟩;have h:=h.2;unfold Oper.uponIn at h ⊢;split at h
    ·exact H9 hq rest _ _ h
    ·exact H9 hq rest _ _ h
    ·exact H9 hq rest _ _ h
    ·refine⟨h.1,CallsIn.mono h.2 λe w' hr=>?_⟩;cases e with
     | returned v=>exact H9 hq rest _ _ hr
     | panicked ch=>grind
     | outgrown=>obtain⟨a0,w0,h2⟩:=hr;exact⟨a0,w0,hq _ _ _ h2⟩
    ·exact⟨h.1,RowsIn.mono h.2 λv w' hr=>H9 hq rest _ _ hr⟩
    ·refine⟨h.1,RoundIn.mono h.2 λe w' hr=>?_⟩;cases e with
     | returned v=>exact H9 hq rest _ _ hr
     | panicked ch=>grind
     | outgrown=>obtain⟨a0,w0,h2⟩:=hr;exact⟨a0,w0,hq _ _ _ h2⟩
    ·grind
    grind
   ·rename_i hw;rw[if_neg hw] at h;exact⟨h.1,H9 hq rest _ _ h.2⟩
end
def YQ(D:Nat):Deferred:={ target:=.collected D,args:=#[] }
def Marks(mk:Bool)(w:World)(γ':Gh)(w':World)(ds ds':List Deferred):Prop:=
 ∃Ds:List Nat,(mk=false->Ds=[])/\ds'=Ds.map YQ++ds/\Ds.Nodup/\∀D,D∈Ds->w.heap.size<=D/\w'.heap[D]?=some (.deferred (some []))/\γ'.own D=none
theorem Marks.of{mk:Bool}{w w':World}{γ':Gh}{ds ds':List Deferred}(h:ds'=ds):Marks mk w γ' w' ds ds':=⟨[],λ_=>rfl,by simpa using h,by simp,λD hD=>by simp at hD⟩
theorem Marks.start{mk:Bool}{w w1 w':World}{γ':Gh}{ds ds':List Deferred}(h:Marks mk w1 γ' w' ds ds')(hw:w.heap.size<=w1.heap.size):Marks mk w γ' w' ds ds':=by
 obtain⟨Ds,h0,h1,h2,h3⟩:=h;exact⟨Ds,h0,h1,h2,(by grind)⟩
theorem Marks.trans{mk:Bool}{w w1 w2:World}{γ1 γ2:Gh}{ds ds1 ds2:List Deferred}(h:Marks mk w γ1 w1 ds ds1)(g:Qe γ1 w1 γ2 w2)(k:Marks mk w1 γ2 w2 ds1 ds2)(hw:w.heap.size<=w1.heap.size):Marks mk w γ2 w2 ds ds2:=by
 obtain⟨Ds,h0,h1,h2,h3⟩:=h;obtain⟨Es,k0,k1,k2,k3⟩:=k;have lt:∀D,D∈Ds->D < w1.heap.size:=(by grind);refine⟨Es++Ds,(by grind),by grind,List.nodup_append.2 ⟨k2,h2,λx hx y hy e=>?_⟩,λD hD=>?_⟩
 ·grind
 ·rcases ww.1 hD with hD|hD
  ·grind
  ·obtain⟨a1,a2,a3⟩:=h3 D hD;obtain⟨b1,b2,_⟩:=g.free D (lt D hD) a3;grind
def L7(G:zi)(fx:Fx)(γ:Gh)(st:St)(w:World)(Q:Exit->St->Prop)(e:Exit)(a':Act)(w':World):Prop:=
 ∃st' γ',Qs G γ' st' a'.tmps w'/\(Qe γ w γ' w'/\Zf γ st.b st.u γ' st'.b st'.u)/\Marks fx.mx w γ' w' fx.ds a'.defers/\Q e st'
def UE(fx:Fx)(γ:Gh)(ds:List Deferred)(w:World):Prop:=
 ds=fx.ds/\fx.mx=true/\∀l,fx.ro=some l->(∃r,w.heap[l]?=some (.loop r))/\γ.own l=none
theorem UE.grow{fx:Fx}{γ γ':Gh}{ds ds':List Deferred}{w w':World}(h:UE fx γ ds w)(g:Qe γ w γ' w')(hd:ds'=fx.ds):UE fx γ' ds' w':=
 ⟨hd,h.2.1,λl hl=>by
  obtain⟨⟨r,h1⟩,h2⟩:=h.2.2 l hl;obtain⟨g1,g2,_⟩:=g.free l (by grind) h2;grind⟩
theorem UE.step{fx:Fx}{γ γ':Gh}{ds ds':List Deferred}{w w':World}(h:UE fx γ ds w)(g:Qe γ w γ' w'):UE ⟨fx.ro,ds',fx.mx⟩ γ' ds' w':=
 ⟨rfl,(h.grow g h.1).2⟩
theorem UE.free{ds:List Deferred}(γ:Gh)(w:World):UE ⟨none,ds,true⟩ γ ds w:=⟨rfl,rfl,λ_ h=>by simp at h⟩
def TV(P:Program)(G:zi)(c:Code)(st:St)(Q:Exit->St->Prop):Prop:=
 ∀(fx:Fx) (γ:Gh) (a:Act) (w:World),Qs G γ st a.tmps w->UE fx γ a.defers w->CW fx.ro P c (L7 G fx γ st w Q) a w
def DW(next:St->Prop)(Q:Exit->St->Prop):Exit->St->Prop
 | .normal,st=>next st
 | e,st=>Q e st
def Yw(id:Nat)(Q:Exit->St->Prop):Exit->St->Prop
 | .exit id',st=>if id'=id then Q .normal st else Q (.exit id') st
 | e,st=>Q e st
section
variable {P:Program} {G:zi} {st:St} {Q:Exit->St->Prop}
theorem L7.mono{fx:Fx}{γ:Gh}{w:World}{Q Q':Exit->St->Prop}{e:Exit}{a:Act}{w':World}(h:L7 G fx γ st w Q e a w')(hq:∀e st,Q e st->Q' e st):L7 G fx γ st w Q' e a w':=
 let ⟨st',γ',h1,h2,h3,h4⟩:=h;⟨st',γ',h1,h2,h3,hq _ _ h4⟩
theorem L7.grow{fx:Fx}{γ γ1:Gh}{st1:St}{w w1:World}{e:Exit}{a:Act}{w':World}(g:Qe γ w γ1 w1/\Zf γ st.b st.u γ1 st1.b st1.u)(h:L7 G fx γ1 st1 w1 Q e a w'):L7 G fx γ st w Q e a w':=
 let ⟨st',γ',h1,h2,h3,h4⟩:=h;⟨st',γ',h1,⟨g.1.trans h2.1,g.2.trans h2.2⟩,h3.start g.1.size,h4⟩
theorem L7.Lf{fx:Fx}{ds1:List Deferred}{γ γ1:Gh}{st1:St}{w w1:World}{e:Exit}{a:Act}{w':World}(g:Qe γ w γ1 w1/\Zf γ st.b st.u γ1 st1.b st1.u)(hm:Marks fx.mx w γ1 w1 fx.ds ds1)(h:L7 G ⟨fx.ro,ds1,fx.mx⟩ γ1 st1 w1 Q e a w'):L7 G fx γ st w Q e a w':=
 let ⟨st',γ',h1,h2,h3,h4⟩:=h;⟨st',γ',h1,⟨g.1.trans h2.1,g.2.trans h2.2⟩,hm.trans h2.1 h3 g.1.size,h4⟩
theorem TV.mono{c:Code}{Q':Exit->St->Prop}(h:TV P G c st Q)(hq:∀e st,Q e st->Q' e st):TV P G c st Q':=
 λfx γ a w hs hd=>wpIn_mono (h fx γ a w hs hd) λ_ _ _ hl=>hl.mono hq
theorem TV.skip(h:Q .normal st):TV P G .skip st Q:=λ_ γ _ w hs hd=>wpIn_skip ⟨st,γ,hs,⟨.refl γ w,.refl hs.u⟩,.of hd.1,h⟩
theorem TV.seq{x y:Code}(h:TV P G x st (DW (λst=>TV P G y st Q) Q)):TV P G (.seq x y) st Q:=λfx γ a w hs hd=>by
 refine wpIn_seq (wpIn_mono (h fx γ a w hs hd) λe a' w' hl=>?_);obtain⟨st',γ',h1,h2,h3,h4⟩:=hl;cases e with
 | normal=>exact wpIn_mono (h4 ⟨fx.ro,a'.defers,fx.mx⟩ γ' a' w' h1 (hd.step h2.1)) λ_ _ _ hl=>hl.Lf h2 h3
 | _=>exact⟨st',γ',h1,h2,h3,h4⟩
theorem TV.cond{c:Operand}{x y:Code}{t:Bool}(hc:st.ev G c=some (.bool t))(h:TV P G (if t then x else y) st Q):TV P G (.cond c x y) st Q:=λfx γ a w hs hd=>
 wpIn_cond ((hs.ev hc).QF) (h fx γ a w hs hd)
theorem TV.block{id:Nat}{c:Code}(h:TV P G c st (Yw id Q)):TV P G (.block id c) st Q:=λfx γ a w hs hd=>by
 refine wpIn_block (wpIn_mono (h fx γ a w hs hd) λe a' w' hl=>?_);obtain⟨st',γ',h1,h2,h3,h4⟩:=hl;cases e with
 | exit id'=>
  simp only[Yw] at h4;simp only[Exit.inBlock];split
  ·rename_i he;rw[if_pos he] at h4;exact⟨st',γ',h1,h2,h3,h4⟩
  ·rename_i he;rw[if_neg he] at h4;exact⟨st',γ',h1,h2,h3,h4⟩
 | _=>exact⟨st',γ',h1,h2,h3,h4⟩
theorem TV.scope{c:Code}(h:TV P G c st Q)(hq:∀l st,¬Q (.goto l) st):TV P G (.scope c) st Q:=λfx γ a w hs hd=>by
 refine Eo (wpIn_mono (h fx γ a w hs hd) λe a' w' hl=>?_);cases e with
 | goto l=>obtain⟨st',_,_,_,_,h4⟩:=hl;grind
 | _=>exact hl
end
theorem TV.loop{P:Program}{G:zi}{Q:Exit->St->Prop}{c:Code}(I:Nat->St->Prop)
  (round:∀n st,I n st->TV P G c st (DW (λst'=>∃m,m < n/\I m st') Q)) {n:Nat} {st:St} (h:I n st):TV P G (.loop c) st Q:=λfx γ a w hs hd=>by
 refine RW (λn a' w'=>∃st' γ',I n st'/\Qs G γ' st' a'.tmps w'/\(Qe γ w γ' w'/\Zf γ st.b st.u γ' st'.b st'.u)/\Marks fx.mx w γ' w' fx.ds a'.defers) (λn a' w' hI=>?_) n a w ⟨st,γ,h,hs,⟨.refl γ w,.refl hs.u⟩,.of hd.1⟩;obtain⟨st',γ',h1,h2,h3,h4⟩:=hI;refine wpIn_mono (round n st' h1 ⟨fx.ro,a'.defers,fx.mx⟩ γ' a' w' h2 (hd.step h3.1)) λe a2 w2 hl=>?_;obtain⟨st2,γ2,k1,k2,k3,k4⟩:=hl;cases e with
 | normal=>obtain⟨m,hm,hI⟩:=k4;exact⟨m,hm,st2,γ2,hI,k1,⟨h3.1.trans k2.1,h3.2.trans k2.2⟩,h4.trans k2.1 k3 h3.1.size⟩
 | _=>exact⟨st2,γ2,k1,⟨h3.1.trans k2.1,h3.2.trans k2.2⟩,h4.trans k2.1 k3 h3.1.size,k4⟩
def E4(ops:Array Oper)(st:St)(o:Oper):Option Bool:=
 match o.guard with
 | none=>some true
 | some (j,want)=>match (ops[j]?).bind (·.dst) with
  | some d=>if d < st.n then (match st.t d with|.bool b=>some (b==want)|.Qc []=>some false|_=>none) else none
  | none=>none
theorem K2{G:zi}{γ:Gh}{st:St}{a:Act}{w:World}(hs:Qs G γ st a.tmps w){ops:Array Oper}{o:Oper}{r:Bool}(h:E4 ops st o=some r) :
  Region.wanted o (yielded ops a.tmps)=r:=by
 unfold E4 at h;unfold Region.wanted;split at h
 ·grind
 ·rename_i j want hg;rw[hg];split at h
  ·rename_i d hj;split at h
   ·rename_i hd;split at h
    ·rename_i b hb;simp only[zG] at h;subst h;have:=hs.t d;rw[hb] at this;have hv:=this.QF;have hsz:d < a.tmps.size:=by rw[hs.n];exact hd
     simp_all [wB,dif_pos,qf,bool,Array.getD,yielded]
    ·rename_i hb;simp only[zG] at h;subst h;have:=hs.t d;rw[hb] at this;obtain⟨vs,hv,hl,_⟩:=this.WI;have hv0:vs=[]:=(by grind);subst hv0;have hsz:d < a.tmps.size:=by rw[hs.n];exact hd
     simp_all [wB,dif_pos,qf,Array.getD,yielded]
    ·simp at h
   ·simp at h
  ·simp at h
def C1(P:Program)(G:zi)(ops:Array Oper)(i:Nat)(st st':St):Prop:=
 match ops[i]? with
 | none=>st'=st
 | some o=>(E4 ops st o=some true/\I9 P G o st st')\/(E4 ops st o=some false/\W2 st.n o.dst=true/\st'=st.put o.dst (.Qc []))
def U8(P:Program)(G:zi)(ops:Array Oper)(l:List Nat)(st:St)(Q:Exit->St->Prop):Prop:=
 ∀(fx:Fx) (γ:Gh) (a:Act) (w:World),Qs G γ st a.tmps w->UE fx γ a.defers w->wpOpsIn (RF fx.ro) 0 P ops (L7 G fx γ st w Q) l a w
section
variable {P:Program} {G:zi} {ops:Array Oper} {st:St} {Q:Exit->St->Prop}
theorem U8.nil(h:Q .normal st):U8 P G ops [] st Q:=λ_ γ _ w hs hd=>⟨st,γ,hs,⟨.refl γ w,.refl hs.u⟩,.of hd.1,h⟩
theorem U8.cons{i:Nat}{rest:List Nat}{st':St}(h:C1 P G ops i st st')(hr:U8 P G ops rest st' Q):U8 P G ops (i :: rest) st Q:=λfx γ a w hs hd=>by
 unfold C1 at h;simp only[wpOpsIn];split at h
 ·rename_i hi;subst h;rw[hi];exact hr fx γ a w hs hd
 ·rename_i o hi;rw[hi];simp only;rcases h with⟨hg,he⟩|⟨hg,hdst,rfl⟩
  ·rw[if_pos (K2 hs hg)];refine Lj (he ⟨none,a.defers,false⟩ γ a w hs rfl _ _ (by grind)) (he fx γ a w hs hd.1 _ _ λa' w' γ' h1 h2 hp h3=>?_);exact H9 (λe a2 w2 hl=>hl.grow ⟨h2,hp⟩) rest a' w' (hr fx γ' a' w' h1 (hd.grow h2 h3))
  ·rw[if_neg (by rw[K2 hs hg];simp)];exact⟨λ_ _=>trivial,H9 (λe a2 w2 hl=>hl.grow (st:=st) ⟨.refl γ w,by cases o.dst<;>exact Zf.refl hs.u⟩) rest _ w (hr fx γ _ w (hs.put hdst (v:=undef) (.Qc [] [] rfl (by grind))) (by rw[X4];exact hd))⟩
def aV(P:Program)(G:zi)(ops:Array Oper)(i:Nat)(s:St)(ex:Exit)(s':St):Prop:=∃o,ops[i]?=some o/\(∀c,o.op≠.defer c)/\E4 ops s o=some true/\Qd5 P G o s ex s'
theorem U8.stop{i:Nat}{rest:List Nat}{ex:Exit}{st':St}(h:aV P G ops i st ex st')(hq:Q ex st'):U8 P G ops (i :: rest) st Q:=λfx γ a w hs hd=>by
 obtain⟨o,hi,hnd,hg,he⟩:=h;simp only[wpOpsIn];rw[hi];simp only;rw[if_pos (K2 hs hg)];exact hC hnd (he fx γ a w hs hd.1 _ _ λa' w' γ' h1 h2 hp h3=>⟨st',γ',h1,⟨h2,hp⟩,.of h3,hq⟩)
theorem TV.region{id:Nat}(h:U8 P G ops (List.range ops.size) st Q):TV P G (.region id ops false) st Q:=λfx γ a w hs hd=>wpIn_region (h fx γ a w hs hd)
end
def jU(P:Program)(G:zi)(o:Oper)(st:St):Option St:=
 match o.op,o.dst with
 | .alloc e,some d=>if d < st.n/\st.u d=false then (zeroV P e).map λcs=>(st.Qj d ⟨cs.length,true,[cs]⟩).QG d (.ptr d 0 0) else none
 | .box _ x,some d=>if d < st.n/\st.u d=false then ((st.ev G x).bind RB).map λcs=>(st.Qj d ⟨cs.length,true,[cs]⟩).QG d (.ptr d 0 0) else none
 | .store t x y,none=>match st.ev G x,st.ev G y with
  | some (.ptr b i off),some c=>match st.b b with
   | some k=>(ZQ P t k i off c).map (st.Qj b)
   | none=>none
  | _,_=>none
 | .buildSlice t n ps,some d=>if d < st.n/\st.u d=false then ((Hj (st.ev G) ps.toList).bind (Yd P t n)).map λk=>(st.Qj d k).QG d (.ref d 0 n) else none
 | op,dst=>if W2 st.n dst then (Jp P (st.ev G) st.b op).map (st.put dst) else none
theorem PA{P:Program}{G:zi}{o:Oper}{st st':St}(h:jU P G o st=some st'):I9 P G o st st':=by
 unfold jU at h;split at h
 ·rename_i e d ho hd;split at h
  ·rename_i hc;obtain⟨cs,hz,rfl⟩:=zJ.1 h;grind [IJ]
  ·simp at h
 ·rename_i e x d ho hd;split at h
  ·rename_i hc;obtain⟨cs,hz,rfl⟩:=zJ.1 h;grind [Option.bind_eq_some_iff,xZ]
  ·simp at h
 ·rename_i t x y ho hd;split at h
  ·rename_i b i off c hx hy;split at h
   ·rename_i k hk;obtain⟨k',hs,rfl⟩:=zJ.1 h;grind [Bl]
   ·simp at h
  ·simp at h
 ·rename_i t n ps d ho hd;split at h
  ·rename_i hc;obtain⟨k,hz,rfl⟩:=zJ.1 h;grind [Option.bind_eq_some_iff,Xn]
  ·simp at h
 ·rename_i op dst;split at h
  ·rename_i hd;obtain⟨c,hr,rfl⟩:=zJ.1 h;exact VN hr hd
  ·simp at h
def stepG(P:Program)(G:zi)(ops:Array Oper)(i:Nat)(st:St):Option St:=
 match ops[i]? with
 | none=>some st
 | some o=>match E4 ops st o with
  | some true=>jU P G o st
  | some false=>if W2 st.n o.dst then some (st.put o.dst (.Qc [])) else none
  | none=>none
theorem ZZ{P:Program}{G:zi}{ops:Array Oper}{i:Nat}{st st':St}(h:stepG P G ops i st=some st'):C1 P G ops i st st':=by
 grind [Option.some.injEq,PA,stepG,C1]
def Qw:Nat->Bool:=λb=>decide (1000000<=b)
theorem HA{b:Nat}(h:X8 b=true):Qw b=true:=by unfold Qw;exact wg (Jg h)
def WX(P:Program)(G:zi)(f:FuncId)(args:List V)(ins:zj)(E:Value->Ending)(res:V)(outs:zj):Prop:=
 ∀(γ:Gh) (w:World) (as:Array Value),Ha G γ w->(∀B x,γ.own B=some x->B < w.heap.size)->U4 γ w ins Qw args as->
  (∀b k,ins b=some k->Qw b=true/\X3 γ w ins Qw b k)->
  Calls P f as w λe w'=>∃v γ',e=E v/\Qe γ w γ' w'/\Zf γ ins Qw γ' outs (λ_=>true)/\Qz γ' w' outs (λ_=>true) res v/\
   (∀b k,outs b=some k->X3 γ' w' outs (λ_=>true) b k)/\(∀B x,γ'.own B=some x->B < w'.heap.size)
def QR(P:Program)(G:zi)(f:FuncId)(args:List V)(ins:zj)(res:V)(outs:zj):Prop:=WX P G f args ins .returned res outs
def K7(v:Value):List PanicEntry:=[{ v:=v,recovered:=false }]
def EK(P:Program)(G:zi)(f:FuncId)(args:List V)(ins:zj)(v:List PanicEntry)(outs:zj):Prop:=WX P G f args ins (λ_=>.panicked v) .undef outs
def Ot:zj:=λ_=>none
def iY(P:Program)(G:zi)(f:FuncId)(args:List V)(res:V):Prop:=QR P G f args Ot res Ot
def U3(n:Nat)(args:List V)(ins:zj):St:={ n,t:=λi=>args.getD i .undef,b:=ins,u:=Qw }
def WU(look:zj)(c:V):Option (List V):=
 match c with
 | .ptr b 0 0=>(look b).map λk=>k.rows.flatten
 | _=>none
theorem Qs.WU{G:zi}{γ:Gh}{st:St}{tmps:Array Value}{w:World}(h:Qs G γ st tmps w){c:V}{cells:List V}(hc:WU st.b c=some cells)
  {v:Value} (hr:Qz γ w st.b st.u c v):∃B o,v=.pointer (some ⟨B,o,none⟩)/\R4 γ w st.b st.u B o cells:=by
 unfold EV.WU at hc;split at hc
 ·rename_i b;obtain⟨k,hk,rfl⟩:=zJ.1 hc;obtain⟨B,o,rfl,hl⟩:=hr.Zh hk;refine⟨B,o+(0 * k.size+0),rfl,?_⟩;rcases h.b b k hk with⟨v1,_⟩|hm|⟨_,B2,o2,cs2,e2,h1,h2,h3,h4,h5,h6,h7,h8⟩
  ·grind
  ·exact(hm.small (hr.Za hk)).elim
  rw[hl] at h1;simp only[zG,zT] at h1;obtain⟨rfl,rfl⟩:=h1;intro j c' hc';obtain⟨v,q1,q2,_⟩:=h6 j c' hc';refine⟨v,?_,q2⟩;rw[h3.cellAt];simpa using q1
 ·simp at hc
def Vz(P:Program)(st:St):ResultVar->Option V
 | .tmp t=>some (st.t t)
 | .cell a t=>match Ie P st.b t (st.t a) with
  | some c=>some c
  | none=>(WU st.b (st.t a)).bind (N5 P t)
def F1(P:Program)(st:St)(rs:List ResultVar):Option V:=
 match rs.mapM (Vz P st) with
 | some [c]=>some c
 | some cs=>some (.Qc cs)
 | none=>none
def Fv(tmps:Array Value):ResultVar->Sem Value
 | .tmp t=>pure (tmps.getD t undef)
 | .cell a t => do loadVar t (<- asAddr (tmps.getD a undef))
theorem Ac(fn : Func)(tmps : Array Value) : results fn tmps = (do let vs <- fn.results.mapM (Fv tmps); pure (if h : vs.size = 1 then vs[0] else .tuple vs)) := by
 rfl
theorem uY{P:Program}{G:zi}{γ:Gh}{st:St}{tmps:Array Value}{w:World}(hs:Qs G γ st tmps w){r:ResultVar}{c:V}(h:Vz P st r=some c) :
  ∃v,(Fv tmps r).run P w=.ok v w/\Qz γ w st.b st.u c v:=by
 cases r with
 | tmp t=>simp only[Vz,zG] at h;subst h;exact⟨_,rfl,hs.t t⟩
 | cell a t=>
  obtain⟨B,o,cells,hv,hc,h2⟩:∃B o cells,tmps.getD a undef=.pointer (some ⟨B,o,none⟩)/\R4 γ w st.b st.u B o cells/\N5 P t cells=some c:=by
   simp only[Vz] at h;split at h
   ·rename_i c' hl;simp only[zG] at h;subst h;obtain⟨cells,h1,h2⟩:=wq.1 hl;obtain⟨B,o,hv,hc⟩:=hs.JR h1 (hs.t a);grind
   ·obtain⟨cells,h1,h2⟩:=wq.1 h;obtain⟨B,o,hv,hc⟩:=hs.WU h1 (hs.t a);grind
  obtain⟨x,hx,hd⟩:=YV (P:=P) h2 hc;refine⟨x,?_,hd⟩;show (do loadVar t (<- asAddr (tmps.getD a undef)) : Sem Value).run P w = _;grind [Sem.run_bind,Sem.run_pure,Result.andThen_ok,asAddr]
theorem DD{P:Program}{G:zi}{γ:Gh}{st:St}{tmps:Array Value}{w:World}(hs:Qs G γ st tmps w):∀{rs:List ResultVar} {cs:List V},rs.mapM (Vz P st)=some cs->
  ∃vs:List Value,(rs.mapM (Fv tmps)).run P w=.ok vs w/\U4 γ w st.b st.u cs vs.toArray
 | [],cs,h=>by simp at h;subst h;exact⟨[],rfl,rfl,(by grind)⟩
 | r :: rs,cs,h=>by
  simp only[List.mapM_cons,Option.bind_eq_bind,wq,Option.pure_def,zG] at h;obtain⟨c,h1,cs',h2,rfl⟩:=h;obtain⟨v,hv,hr⟩:=uY hs h1;obtain⟨vs,hvs,hl,hp⟩:=DD hs h2;refine⟨v :: vs,?_,?_,?_⟩
  ·simp_all
  ·grind
  grind
theorem C6{P:Program}{G:zi}{γ:Gh}{st:St}{tmps:Array Value}{w:World}(hs:Qs G γ st tmps w){fn:Func}{c:V}(h:F1 P st fn.results.toList=some c) :
  ∃v,(results fn tmps).run P w=.ok v w/\Qz γ w st.b st.u c v:=by
 unfold F1 at h;cases hm:fn.results.toList.mapM (Vz P st) with
 | none=>simp[hm] at h
 | some cs=>
  obtain⟨vs,hvs,hl,hp⟩:=DD hs hm;have hrun:(fn.results.mapM (Fv tmps)).run P w=.ok vs.toArray w:=by
   rw[Array.mapM_eq_mapM_toList,Sem.run_map,hvs,zZ]
  have hres:(results fn tmps).run P w=.ok (if h:vs.toArray.size=1 then vs.toArray[0] else .tuple vs.toArray) w:=by
   rw[Ac,zX,hrun,zZ];rfl
  rw[hm] at h;have hlen:vs.length=cs.length:=by simpa using hl
  rcases cs with _|⟨c1,_|⟨c2,cs'⟩⟩
  ·obtain rfl:vs=[]:=(by grind);obtain rfl:V.Qc []=c:=wu h;exact⟨.tuple #[],by rw[hres];rfl,.Qc [] [] rfl (by grind)⟩
  ·rcases vs with _|⟨v1,_|⟨v2,vs'⟩⟩
   ·simp at hlen
   ·obtain rfl:c1=c:=wu h;exact⟨v1,by rw[hres];rfl,hp 0 _ _ rfl rfl⟩
   grind
  ·rcases vs with _|⟨v1,_|⟨v2,vs'⟩⟩
   ·simp at hlen
   ·simp at hlen
   ·obtain rfl:V.Qc (c1 :: c2 :: cs')=c:=wu h;exact⟨.tuple (v1 :: v2 :: vs').toArray,by grind,.Qc _ _ hlen (by grind)⟩
def Pl(P:Program)(rs:List ResultVar)(res:V)(outs:zj)(e:Exit)(st:St):Prop:=
 (e=.normal\/e=.ret)/\F1 P st rs=some res/\∀b k,outs b=some k->st.b b=some k
mutual
def Jm:V->Bool
 | .int _ _=>true|.bool _=>true|.str _=>true|.Zi=>true|.Zd=>true|.Qu=>true|.QP _=>true
 | .sl _ _ _=>true|.snap _=>true|.Zu _=>true
 | .fn _ a b=>IK a&&IK b
 | .agg l=>IK l
 | .Qc l=>IK l
 | .ref _ _ _=>false|.ptr _ _ _=>false|.undef=>false|.mp _=>false
def IK:List V->Bool
 | []=>true
 | c :: l=>Jm c&&IK l
end
mutual
def G6:V->Bool
 | .int _ _=>true|.bool _=>true|.str _=>true|.Zi=>true|.Zd=>true|.Qu=>true|.QP _=>true
 | .agg l=>Ib l
 | .Qc l=>Ib l
 | .fn _ a b=>Ib a&&Ib b
 | .sl _ _ _=>false|.snap _=>false|.ref _ _ _=>false|.ptr _ _ _=>false|.undef=>false|.mp _=>false|.Zu _=>true
def Ib:List V->Bool
 | []=>true
 | c :: l=>G6 c&&Ib l
end
theorem UZ:∀{l:List V},IK l=true->∀{i:Nat} {c:V},l[i]?=some c->Jm c=true
 | [],_,i,c,h=>by simp at h
 | x :: l,hl,i,c,h=>by
  simp only[IK,zL] at hl;cases i with
  | zero=>grind
  | succ i=>exact UZ hl.2 (by simpa using h)
theorem ZM:∀{l:List V},Ib l=true->∀{i:Nat} {c:V},l[i]?=some c->G6 c=true
 | [],_,i,c,h=>by simp at h
 | x :: l,hl,i,c,h=>by
  simp only[Ib,zL] at hl;cases i with
  | zero=>grind
  | succ i=>exact ZM hl.2 (by simpa using h)
theorem K9.flat{Qr lim':Nat->Nat}{w w':World}{c:V}{v:Value}(h:K9 Qr w c v):G6 c=true->K9 lim' w' c v:=by
 induction h with
 | int k n=>exact λ_=>.int k n
 | bool b=>exact λ_=>.bool b
 | str s=>exact λ_=>.str s
 | Zi=>exact λ_=>.Zi
 | Zd=>exact λ_=>.Zd
 | QP l=>exact λ_=>.QP l
 | Qu=>exact λ_=>.Qu
 | Zu x hx=>exact λ_=>.Zu x hx
 | sl=>grind [G6]
 | Zc=>grind [G6]
 | snap=>grind [G6]
 | fn f first captured fs cs h1 h2 _ _ ih1 ih2=>
  intro h;simp only[G6,zL] at h;exact .fn f first captured fs cs h1 h2 (by grind [ZM]) (by grind [ZM])
theorem Qz.flat{γ γ':Gh}{w w':World}{bs bs':zj}{u u':zl}{c:V}{v:Value}(h:Qz γ w bs u c v):G6 c=true->Qz γ' w' bs' u' c v:=by
 induction h with
 | data h=>exact λhf=>.data (h.flat hf)
 | undef=>grind [G6]
 | ref=>grind [G6]
 | ZC=>grind [G6]
 | ZY=>grind [G6]
 | Qp=>grind [G6]
 | ptr=>grind [G6]
 | QH=>grind [G6]
 | mp=>grind [G6]
 | QX=>grind [G6]
 | fn f first captured fs cs h1 h2 _ _ ih1 ih2=>
  intro h;simp only[G6,zL] at h;exact .fn f first captured fs cs h1 h2 (by grind [ZM]) (by grind [ZM])
 | agg cells vs h1 _ ih=>intro h;exact .agg cells vs h1 (by grind [ZM,G6])
 | Qc cells vs h1 _ ih=>intro h;exact .Qc cells vs h1 (by grind [ZM,G6])
theorem Qz.IW{γ γ':Gh}{w w':World}{bs bs':zj}{u u':zl}(hm:∀B o v,o < γ.Qr B->cellAt w B o=some v->o < γ'.Qr B/\cellAt w' B o=some v){c:V}{v:Value}(h:Qz γ w bs u c v) :
  Jm c=true->Qz γ' w' bs' u' c v:=by
 induction h with
 | data h=>exact λ_=>.data (h.mono hm)
 | undef=>grind [Jm]
 | ref=>grind [Jm]
 | ZC=>grind [Jm]
 | ZY=>grind [Jm]
 | Qp=>grind [Jm]
 | ptr=>grind [Jm]
 | QH=>grind [Jm]
 | mp=>grind [Jm]
 | QX=>grind [Jm]
 | fn f first captured fs cs h1 h2 _ _ ih1 ih2=>
  intro h;simp only[Jm,zL] at h;exact .fn f first captured fs cs h1 h2 (by grind [UZ]) (by grind [UZ])
 | agg cells vs h1 _ ih=>intro h;exact .agg cells vs h1 (by grind [UZ,Jm])
 | Qc cells vs h1 _ ih=>intro h;exact .Qc cells vs h1 (by grind [UZ,Jm])
theorem uH{P:Program}{w:World}{a:Act}{o:Oper}{x:Operand}{xs:Array Operand}{ts:Array TypeId}{f:FuncId}{fn:Func}{fs cs:Array Value}(ho:o.op=.call { callee:=.value x,args:=xs,argTypes:=ts })
  (hx:a.eval x=.func (.func f) fs cs) (hfn:P.funcs[f]?=some fn) (hname:(fn.name== "runtime.NumGoroutine")=false) (hbody:fn.body.isNone=false) :
  (execOp a.eval o).run P w=.ok (.enter f (fs++xs.map a.eval++cs)) w:=by
 have e : execOp a.eval o = (do let d <- Deferred.ofValue (a.eval x) (xs.map a.eval); invoke d.target d.args) := by
  unfold execOp;rw[ho];rfl
 rw[e,hx];have hname':¬fn.name= "runtime.NumGoroutine":=by grind
 have hbody':¬fn.body=none:=by grind
 simp[Deferred.ofValue,invoke,callFunc,hfn,hname',hbody']
theorem U4.append{γ:Gh}{w:World}{bs:zj}{u:zl}{c1 c2:List V}{v1 v2:Array Value}(h1:U4 γ w bs u c1 v1)(h2:U4 γ w bs u c2 v2):U4 γ w bs u (c1++c2) (v1++v2):=by
 refine⟨by simp[h1.1,h2.1],λi c v hc hv=>?_⟩;by_cases hi:i < c1.length
 ·rw[wD hi] at hc;rw[Array.getElem?_append_left (by rw[h1.1];exact hi)] at hv;exact h1.2 i c v hc hv
 ·rw[wJ (by omega)] at hc;rw[Array.getElem?_append_right (by rw[h1.1];omega),h1.1] at hv;exact h2.2 _ c v hc hv
def Ye(G:zi)(st:St)(x:Operand)(xs:List Operand):Option (FuncId×List V):=
 match st.ev G x,rO (st.ev G) xs with
 | some (.fn f first captured),some cs=>some (f,first++cs++captured)
 | _,_=>none
theorem KR{P:Program}{G:zi}{γ:Gh}{st:St}{a:Act}{w:World}(hs:Qs G γ st a.tmps w){o:Oper}{x:Operand}{xs:Array Operand}{ts:Array TypeId}{f:FuncId}{cs:List V}{fn:Func}
  (ho:o.op=.call { callee:=.value x,args:=xs,argTypes:=ts }) (h:Ye G st x xs.toList=some (f,cs)) (hfn:P.funcs[f]?=some fn) (hname:(fn.name== "runtime.NumGoroutine")=false) (hbody:fn.body.isNone=false) :
  ∃as:Array Value,(execOp a.eval o).run P w=.ok (.enter f as) w/\U4 γ w st.b st.u cs as:=by
 unfold Ye at h;split at h
 ·rename_i f' first captured cs' hx hcs
  simp only[zG,zT] at h;obtain⟨rfl,rfl⟩:=h;obtain⟨fs,caps,hv,l1,l2,p1,p2⟩:=(hs.ev hx).Hq;have hm:=Kd hs hcs;have k:(xs.toList.map a.eval).toArray=xs.map a.eval:=(by grind);rw[k] at hm;refine⟨_,uH ho hv hfn hname hbody,?_⟩;exact(U4.append (U4.append ⟨by simpa using l1,(by grind)⟩ hm) ⟨by simpa using l2,(by grind)⟩)
 ·simp at h
end Go.EV
namespace Go.EV
open Go
structure Src where
 b:Option Nat
 off:Nat
 size:Nat
 Ql:Bool
 rows:List (List V)
def St.QJ(st:St)(b:Option Nat):St:=match b with|some i=>st.QT i|none=>st
theorem Gt(st:St)(x:Option Nat)(b:Nat):(st.QJ x).b b=if x=some b then none else st.b b:=by
 cases x with
 | none=>simp[St.QJ]
 | some i=>
  simp only[St.QJ,St.QT,zG];grind
def Gb(look:zj)(size:Nat)(c:V):Option Src:=
 match c with
 | .Qu=>some ⟨none,0,size,true,[]⟩
 | .ref b off len=>match look b with
  | some k=>if k.size=size/\off+len<=k.rows.length/\(k.Ql=true\/off+len=k.rows.length) then some ⟨some b,off,size,k.Ql,(k.rows.drop off).take len⟩ else none
  | none=>none
 | _=>none
def Ad(look:zj)(size:Nat)(dst:Option Nat)(c:V):Option Src:=
 match c with
 | .Qu=>some ⟨none,0,size,true,[]⟩
 | .sl _ s rows=>if s=size then some ⟨none,0,size,true,rows.map (·.map V.strip)⟩ else none
 | .ref b off len=>match look b with
  | some k=>if k.size=size/\off+len<=k.rows.length then
    (if dst=some b then some ⟨none,0,size,true,((k.rows.drop off).take len).map (·.map V.strip)⟩ else some ⟨some b,off,size,true,(k.rows.drop off).take len⟩) else none
  | none=>none
 | _=>none
def Eb(P:Program)(look:zj)(t t2:TypeId)(x y:V):Option (Src×Src×Qd):=
 match P.underlying t,P.underlying t2 with
 | some (.slice e),some (.slice _)=>match P.info? e with
  | some ei=>match Gb look ei.size x with
   | some ds=>match Ad look ei.size ds.b y with
    | some ss=>if (ds.rows.length+ss.rows.length) * ei.bytes<=140737488355328/\0 < ei.bytes/\(zeroV P e).map List.length=some ei.size then some (ds,ss,⟨ei.size,ds.Ql,ds.rows++ss.rows⟩) else none
    | none=>none
   | none=>none
  | none=>none
 | _,_=>none
def Kh(ds ss:Src)(d:Nat)(x:Option M3):Option M3:=
 match x with
 | some (.nest b i j)=>
  if ds.b=some b then (if ds.off<=i/\i < ds.off+ds.rows.length then some (.nest d (i - ds.off) j) else none)
  else if ss.b=some b then (if ss.off<=i/\i < ss.off+ss.rows.length then some (.nest d (ds.rows.length+(i - ss.off)) j) else none)
  else some (.nest b i j)
 | x=>x
def Gh.move(γ:Gh)(ds ss:Src)(d B o:Nat)(Qr:Nat):Gh where
 loc:=λb=>if b=d then some (B,o) else γ.loc b
 own:=λX=>if X=B then some (.Zs d) else Kh ds ss d (γ.own X)
 Qr:=λX=>if X=B then Qr else γ.Qr X
theorem Ov{ds ss:Src}{d b i j:Nat}(h1:ds.b≠some b)(h2:ss.b≠some b):Kh ds ss d (some (.nest b i j))=some (.nest b i j):=by
 simp_all [if_neg,Kh]
def WM(γ:Gh)(w:World)(bs:zj)(u:zl)(s:Src)(vs:List Value):Prop:=
 (∀r,r∈s.rows->r.length=s.size)/\vs.length=s.rows.length * s.size/\
  ∀(i:Nat) (c:V),s.rows.flatten[i]?=some c->∃v,vs[i]?=some v/\Qz γ w bs u c v/\v.oneCell'=true/\
   (match s.b with|some b=>D6 γ w (.nest b (s.off+i / s.size) (i % s.size)) c v|none=>c.QK=false)
theorem Ws{s:Nat}(rows:List (List V))(hs:∀r,r∈rows->r.length=s)(off len i:Nat)(c:V)(h:((rows.drop off).take len).flatten[i]?=some c) :
  rows.flatten[off * s+i]?=some c/\i < len * s:=by
 have hs':∀r,r∈(rows.drop off).take len->r.length=s:=(by grind);rcases qk s with h0|hpos
 ·grind [List.flatten_eq_nil_iff,List.length_eq_zero_iff]
 ·have e:i=(i / s) * s+i % s:=by grind [Nat.mul_comm,Nat.div_add_mod]
  have hm:=Nat.mod_lt i hpos;rw[e,H2 _ hs' _ _ hm] at h;obtain⟨r,hr,hc⟩:=wq.1 h;rw[List.getElem?_take] at hr;split at hr
  ·rename_i hlt;rw[List.getElem?_drop] at hr;refine⟨?_,?_⟩
   ·rw[e,show off * s+(i / s * s+i % s)=(off+i / s) * s+i % s by rw[wK];omega,H2 _ hs _ _ hm,hr];exact hc
   ·have:(i / s+1) * s<=len * s:=wT _ hlt;grind
  ·simp at hr
theorem Tp.rd{γ:Gh}{w:World}{bs:zj}{u:zl}{b:Nat}{k:Qd}{o:Nat}{cs:Array Value}{off len:Nat}(Ql:Bool)
  (h4:∀r,r∈k.rows->r.length=k.size) (h5:o+k.rows.length * k.size<=cs.size)
  (h6:∀(i:Nat) (c:V),k.rows.flatten[i]?=some c->∃v,cs[o+i]?=some v/\Qz γ w bs u c v/\v.oneCell'=true/\D6 γ w (.nest b (i / k.size) (i % k.size)) c v)
  (hlen:off+len<=k.rows.length) :
  WM γ w bs u ⟨some b,off,k.size,Ql,(k.rows.drop off).take len⟩ ((cs.toList.drop (o+off * k.size)).take (len * k.size)):=by
 have hl:((k.rows.drop off).take len).length=len:=by simp;omega
 refine⟨(by grind),?_,λi c hc=>?_⟩
 ·simp only[qh,List.length_drop,hl,Array.length_toList];have:(off+len) * k.size<=k.rows.length * k.size:=wT _ hlen;grind
 ·obtain⟨hc',hi⟩:=Ws k.rows h4 off len i c hc;obtain⟨v,a1,a2,a3,a4⟩:=h6 _ c hc';refine⟨v,?_,a2,a3,?_⟩
  ·grind
  grind [Nat.eq_zero_or_pos,Nat.mul_comm,Nat.mul_add_div,Nat.mul_add_mod,D6]
theorem Qs.Pj{G:zi}{γ:Gh}{st:St}{tmps:Array Value}{w w1:World}(h:Qs G γ st tmps w){d:Nat}{ds ss:Src}{vd vsr:List Value}{B o Qr:Nat}{cs:Array Value}{e:TypeId}
  (hM:ds.size < J0) (hu:st.u d=false) (hd:WM γ w st.b st.u ds vd) (hss:WM γ w st.b st.u ss vsr) (hsz:ds.size=ss.size) (hne:∀b,ds.b=some b->ss.b≠some b)
  (hw1:D5 w1 B cs e) (hroom:o+(ds.rows.length+ss.rows.length) * ds.size<=cs.size)
  (hcells:∀j,j < vd.length+vsr.length->cs[o+j]?=(vd++vsr)[j]?)
  (g:Qe γ w (γ.move ds ss d B o Qr) w1) (hkeep:∀b k X o',st.b b=some k->ds.b≠some b->ss.b≠some b->γ.loc b=some (X,o')->γ.own X=some (.Zs b)->X≠B/\w1.heap[X]?=w.heap[X]?)
  (hB:B < w1.heap.size) (hold:∀X t,γ.own X=some t->X < w1.heap.size)
  (hlim:ds.Ql=true->Qr=0) (hlim2:Qr<=o+(ds.rows.length+ss.rows.length) * ds.size)
  (hnest:∀X b i j,γ.own X=some (.nest b i j)->X≠B) :
  Qs G (γ.move ds ss d B o Qr) (((st.QJ ds.b).QJ ss.b).Qj d ⟨ds.size,ds.Ql,ds.rows++ss.rows⟩) tmps w1/\
   G7 γ st.b st.u (γ.move ds ss d B o Qr) (((st.QJ ds.b).QJ ss.b).Qj d ⟨ds.size,ds.Ql,ds.rows++ss.rows⟩).b (((st.QJ ds.b).QJ ss.b).Qj d ⟨ds.size,ds.Ql,ds.rows++ss.rows⟩).u:=by
 have hb2:∀b,b≠d->(((st.QJ ds.b).QJ ss.b).Qj d ⟨ds.size,ds.Ql,ds.rows++ss.rows⟩).b b=if ds.b=some b\/ss.b=some b then none else st.b b:=by
  intro b hb;simp only[St.Qj];rw[if_neg hb,Gt,Gt];grind
 have hu2:∀b,st.u b=true->(((st.QJ ds.b).QJ ss.b).Qj d ⟨ds.size,ds.Ql,ds.rows++ss.rows⟩).u b=true:=by
  intro b hb;simp only[St.Qj];split
  ·rfl
  ·cases ds.b<;>cases ss.b<;>simp only[St.QJ,St.QT]<;>(try split)<;>(try split)<;>first|rfl|exact hb
 have bl:G7 γ st.b st.u (γ.move ds ss d B o Qr) (((st.QJ ds.b).QJ ss.b).Qj d ⟨ds.size,ds.Ql,ds.rows++ss.rows⟩).b (((st.QJ ds.b).QJ ss.b).Qj d ⟨ds.size,ds.Ql,ds.rows++ss.rows⟩).u:=by
  refine⟨hu2,λb hb hn=>?_,λb k hk=>⟨hu2 b (h.u b k hk),?_⟩⟩
  ·grind
  ·have:b≠d:=λe=>by subst e;rw[h.Ge hu] at hk;simp at hk
   rw[hb2 b this];split
   ·exact .inl rfl
   ·exact .inr ⟨k,hk,rfl,λ_=>rfl,by simp only[Gh.move];rw[if_neg this]⟩
 refine⟨⟨?_,λi=>?_,λb k hk=>?_,λb k hk=>?_,h.g.grow g,λX t hX=>?_⟩,bl⟩
 ·have:(((st.QJ ds.b).QJ ss.b).Qj d ⟨ds.size,ds.Ql,ds.rows++ss.rows⟩).n=st.n:=by cases ds.b<;>cases ss.b<;>rfl
  rw[this];exact h.n
 ·have:(((st.QJ ds.b).QJ ss.b).Qj d ⟨ds.size,ds.Ql,ds.rows++ss.rows⟩).t=st.t:=by cases ds.b<;>cases ss.b<;>rfl
  rw[this];exact(h.t i).mono g bl
 ·by_cases hbd:b=d
  ·subst hbd;simp only[St.Qj,if_pos] at hk;simp only[zG] at hk;subst hk;refine .inr (.inr ⟨hM,B,o,cs,e,by simp[Gh.move],by simp[Gh.move],hw1,λr hr=>?_,by grind,λi c hc=>?_,(by grind [Gh.move]),by grind [Gh.move]⟩)
   ·rcases ww.1 hr with hr|hr
    ·exact hd.1 r hr
    ·rw[hsz];exact hss.1 r hr
   ·simp only[List.flatten_append] at hc;have dl:ds.rows.flatten.length=ds.rows.length * ds.size:=by
     rw[List.length_flatten];have:ds.rows.map List.length=List.replicate ds.rows.length ds.size:=List.eq_replicate_iff.2 ⟨by simp,λx hx=>by obtain⟨r,hr,rfl⟩:=zP.1 hx;exact hd.1 r hr⟩;rw[this];simp
    by_cases hi:i < ds.rows.flatten.length
    ·rw[wD hi] at hc;obtain⟨v,a1,a2,a3,a4⟩:=hd.2.2 i c hc;refine⟨v,?_,a2.mono g bl,a3,?_⟩
     ·grind
     ·cases hdb:ds.b with
      | none=>rw[hdb] at a4;exact .QN a4
      | some b0=>
       rw[hdb] at a4;simp only at a4;replace a4:=a4.grow g (λX hX=>by
        simp only[Gh.move];grind)
       unfold D6 at a4 ⊢;split at a4
       ·rename_i size' rows' a l cp;rcases a4 with a4|a4
        ·exact .inl a4
        refine .inr ?_;have hne':a.block≠B:=hnest _ _ _ _ a4.1.1;have hpos:0 < ds.size:=by
         grind
        have hq:i / ds.size < ds.rows.length:=by rw[Nat.div_lt_iff_lt_mul hpos];omega
        simp only[Gh.move];simp_all [if_neg,if_true,if_pos,Kh]
       ·trivial
    ·rw[wJ (by omega)] at hc;obtain⟨v,a1,a2,a3,a4⟩:=hss.2.2 _ c hc;have hsl:i - ds.rows.flatten.length < vsr.length:=(by grind);refine⟨v,?_,a2.mono g bl,a3,?_⟩
     ·rw[hcells i (by rw[hd.2.1];omega),wJ (by rw[hd.2.1];omega),hd.2.1,<-dl];exact a1
     ·cases hsb:ss.b with
      | none=>rw[hsb] at a4;exact .QN a4
      | some b0=>
       rw[hsb] at a4;simp only at a4;replace a4:=a4.grow g (λX hX=>by
        simp only[Gh.move];grind)
       unfold D6 at a4 ⊢;split at a4
       ·rename_i size' rows' a l cp;rcases a4 with a4|a4
        ·exact .inl a4
        refine .inr ?_;have hne':a.block≠B:=hnest _ _ _ _ a4.1.1;have hpos:0 < ss.size:=by
         rcases qk ss.size with h0|h0
         ·rw[hss.2.1,h0] at hsl;omega
         ·exact h0
        have hdsb:ds.b≠some b0:=λhx=>hne b0 hx hsb;have hq:(i - ds.rows.length * ds.size) / ss.size < ss.rows.length:=by rw[Nat.div_lt_iff_lt_mul hpos];rw[dl,hss.2.1] at hsl;exact hsl
        simp only[Gh.move];rw[if_neg hne',if_neg hne',a4.1.1];refine⟨⟨?_,a4.1.2⟩,a4.2⟩;simp only[Kh,hsb,if_true];rw[if_neg hdsb,dl];have hin:ss.off<=ss.off+(i - ds.rows.length * ds.size) / ss.size/\ss.off+(i - ds.rows.length * ds.size) / ss.size < ss.off+ss.rows.length:=(by grind);rw[if_pos hin,Nat.add_sub_cancel_left];have hge:ds.rows.length * ss.size<=i:=by grind
        have e1:i / ds.size=ds.rows.length+(i - ds.rows.length * ds.size) / ss.size:=by
         rw[hsz]
         conv=>lhs;rw[show i=ss.size * ds.rows.length+(i - ds.rows.length * ss.size) by rw[wX];omega]
         rw[Nat.mul_add_div hpos]
        have e2:i % ds.size=(i - ds.rows.length * ds.size) % ss.size:=by
         rw[hsz]
         conv=>lhs;rw[show i=ss.size * ds.rows.length+(i - ds.rows.length * ss.size) by rw[wX];omega]
         rw[Nat.mul_add_mod]
        rw[e1,e2]
       ·trivial
  ·rw[hb2 b hbd] at hk;split at hk
   ·simp at hk
   ·rename_i hno;simp only[not_or] at hno;rcases h.b b k hk with⟨v1,v2⟩|hm|⟨hM2,X,o',cs',e',a1,a2,a3,a4,a5,a6,a7,a8⟩
    ·exact .inl ⟨by simp only[Gh.move];rw[if_neg hbd];exact v1,v2⟩
    ·refine .inr (.inl (hm.same (by simp only[Gh.move];rw[if_neg hbd]) (λX q1 q2=>?_) λc v hr=>hr.mono g bl));obtain⟨hXB,hX⟩:=hkeep b k X 0 hk hno.1 hno.2 q1 q2;exact⟨by simp only[Gh.move];rw[if_neg hXB,q2];rfl,hX⟩
    ·obtain⟨hXB,hX⟩:=hkeep b k X o' hk hno.1 hno.2 a1 a2;refine .inr (.inr ⟨hM2,X,o',cs',e',by simp only[Gh.move];rw[if_neg hbd];exact a1,by simp only[Gh.move];rw[if_neg hXB,a2];rfl,a3.of_eq hX,a4,a5,λi c hc=>?_,
      by simp only[Gh.move];rw[if_neg hXB];exact a7,by simp only[Gh.move];rw[if_neg hXB];exact a8⟩)
     obtain⟨v,b1,b2,b3,b4⟩:=a6 i c hc;refine⟨v,b1,b2.mono g bl,b3,(b4.grow g (λX hX=>by
      simp only[Gh.move];rw[if_neg (hnest X _ _ _ hX)];exact zQ _)).mono λY hY=>?_⟩
     have hYB:=hnest _ _ _ _ hY;simp only[Gh.move];rw[if_neg hYB,if_neg hYB,hY];exact⟨Ov hno.1 hno.2,zQ _⟩
 ·by_cases hbd:b=d
  ·subst hbd;simp[St.Qj]
  ·rw[hb2 b hbd] at hk;split at hk
   ·simp at hk
   ·exact hu2 b (h.u b k hk)
 ·simp only[Gh.move] at hX;split at hX
  ·rename_i hXB;rw[hXB];exact hB
  ·cases ho:γ.own X with
   | none=>rw[ho] at hX;simp[Kh] at hX
   | some t'=>exact hold X t' ho
section
variable {P:Program}
theorem Kb{w:World}(t t2 ty e e2:TypeId)(i:TypeInfo)(z:Value)(ht:P.underlying t=some (.slice e))(ht2:P.underlying t2=some (.slice e2))(hi:P.info? e=some i)(hz:i.zero=some z)
  (base:Option Addr) (n cap m:Nat) (y:Value) (olds news:List Value) (hlen:∀w1,(Builtin.lenOf y).run P w1=.ok m w1)
  (hold:∀w1:World,w1.heap=w.heap->(Builtin.firstCells i.size n (.slice base n cap)).run P w1=.ok olds.toArray w1)
  (hnew:∀w1:World,w1.heap=w.heap->(Builtin.firstCells i.size m y).run P w1=.ok news.toArray w1)
  (hg:cap < n+m) (h63:((n+m:Nat):Int)<=9223372036854775807) (hfit:Builtin.nextslicecap (n+m) cap * i.bytes<=281474976710656) :
  (Builtin.append_ #[t,t2] ty #[.slice base n cap,y]).run P w =
   .ok (.slice (some ⟨w.heap.size,0,none⟩) (n+m) (grownCap w (n+m) cap e)) (w.drew.alloc (.cells (olds.toArray++news.toArray++Builtin.zeroCells z.cells (grownCap w (n+m) cap e - (n+m))) e)):=by
 have hn:¬(n+m<=cap):=by omega
 have h63':¬(9223372036854775807 < ((n:Int)+(m:Int))):=by omega
 have h48':¬(281474976710656 < Builtin.nextslicecap (n+m) cap * i.bytes):=by omega
 have hf:=hnew w.drew rfl;have hfo:=hold w.drew rfl;simp[Builtin.append_,zO ht,zO ht2,sizeOf,typeInfo,zeroValue,hi,hz,hlen,hn,h63',h48',Question.forced,hf,hfo,newRow,grownCap];grind
theorem MN{w:World}(t t2 ty e e2:TypeId)(i:TypeInfo)(ht:P.underlying t=some (.slice e))(ht2:P.underlying t2=some (.slice e2))(hi:P.info? e=some i)
  (B o n cap m:Nat) (y:Value) (news:List Value) (cs:Array Value) (ce:TypeId) (hlen:∀w1,(Builtin.lenOf y).run P w1=.ok m w1)
  (hnew:∀w1:World,w1.heap=w.heap->(Builtin.firstCells i.size m y).run P w1=.ok news.toArray w1)
  (hg:n+m<=cap) (hh:D5 w B cs ce) (h1:∀v,v∈news->v.oneCell'=true) (hroom:o+n * i.size+news.length<=cs.size) :
  (Builtin.append_ #[t,t2] ty #[.slice (some ⟨B,o,none⟩) n cap,y]).run P w=.ok (.slice (some ⟨B,o,none⟩) (n+m) cap) (World.Qv w B (E9 cs (o+n * i.size) news) ce):=by
 have hs:=G9 (P:=P) (B:=B) (o:=o+n * i.size) (e:=ce) news 0 w cs hh h1 (by omega);have hf:=hnew w rfl;simp[Builtin.append_,zO ht,zO ht2,sizeOf,typeInfo,hi,hlen,hg,hf,Addr.add_eq,hs]
theorem Xx{w:World}(t t2 ty e e2:TypeId)(i:TypeInfo)(ht:P.underlying t=some (.slice e))(ht2:P.underlying t2=some (.slice e2))(hi:P.info? e=some i)
  (base:Option Addr) (y:Value) (cap:Nat) (hlen:∀w1,(Builtin.lenOf y).run P w1=.ok 0 w1) (hnew:∀w1:World,w1.heap=w.heap->(Builtin.firstCells i.size 0 y).run P w1=.ok #[] w1) :
  (Builtin.append_ #[t,t2] ty #[.slice base 0 cap,y]).run P w=.ok (.slice base 0 cap) w:=by
 have hf:=hnew w rfl;cases base<;>simp[Builtin.append_,zO ht,zO ht2,sizeOf,typeInfo,hi,hlen,hf,storeCells]
end
theorem KI{P:Program}{w:World}{B o n size l cap:Nat}{vs:List Value}(hl:vs.length=n * size)(hv:∀(j:Nat) (v:Value),vs[j]?=some v->cellAt w B (o+j)=some v) :
  ∀w1:World,w1.heap=w.heap->(Builtin.firstCells size n (.slice (some ⟨B,o,none⟩) l cap)).run P w1=.ok vs.toArray w1:=(by grind [run_firstCells_some,Addr.add_eq,cellAt,World.cell?])
structure To(P:Program)(γ:Gh)(w:World)(bs:zj)(u:zl)(s:Src)(v:Value)(vs:List Value):Prop where
 rd:WM γ w bs u s vs
 len:∀w1,(Builtin.lenOf v).run P w1=.ok s.rows.length w1
 first:∀w1:World,w1.heap=w.heap->(Builtin.firstCells s.size s.rows.length v).run P w1=.ok vs.toArray w1
theorem YX{P:Program}{γ:Gh}{w:World}{bs:zj}{u:zl}(b:Option Nat)(off size:Nat)(Ql:Bool){v:Value}(h:v=.slice none 0 0\/∃a,v=.slice (some a) 0 0) :
  To P γ w bs u ⟨b,off,size,Ql,[]⟩ v [] where
 rd:=⟨λr hr=>by simp at hr,by simp,λi c hc=>by simp at hc⟩
 len:=by rcases h with rfl|⟨a,rfl⟩<;>exact λ_=>rfl
 first:=by
  rcases h with rfl|⟨a,rfl⟩
  ·exact λ_ _=>rfl
  ·intro w1 _;show (loadCells a (0 * size)).run P w1=_;rw[Nat.zero_mul];rfl
theorem T7(rows:List (List V)):(rows.map (·.map V.strip)).flatten=rows.flatten.map V.strip:=by
 grind
theorem WM.strip{γ:Gh}{w:World}{bs:zj}{u:zl}{s:Src}{vs:List Value}(h:WM γ w bs u s vs)(b:Option Nat)(off:Nat)(hb:b=none)(Ql:Bool):WM γ w bs u ⟨b,off,s.size,Ql,s.rows.map (·.map V.strip)⟩ vs:=by
 subst hb;refine⟨λr hr=>?_,by rw[wO];exact h.2.1,λi c hc=>?_⟩
 ·obtain⟨r',hr',rfl⟩:=zP.1 hr;rw[wO];exact h.1 r' hr'
 ·simp only[T7,wm,zJ] at hc;obtain⟨c',hc',rfl⟩:=hc;obtain⟨v,a1,a2,a3,_⟩:=h.2.2 i c' hc';exact⟨v,a1,a2.strip,a3,YD c'⟩
def Qd6(γ:Gh)(w:World)(st:St)(s:Src)(v:Value)(vs:List Value):Prop:=
 (s.rows=[]/\(v=.slice none 0 0\/∃B,v=.slice (some B) 0 0))\/
  ∃b k B o cs e cap,s.b=some b/\st.b b=some k/\γ.loc b=some (B,o)/\γ.own B=some (.Zs b)/\D5 w B cs e/\
   v=.slice (some ⟨B,o+s.off * s.size,none⟩) s.rows.length cap/\s.rows.length<=cap/\o+(s.off+cap) * s.size<=cs.size/\
   (∀j,j < vs.length->cs[o+s.off * s.size+j]?=vs[j]?)/\(s.Ql=true->γ.Qr B=0)/\γ.Qr B<=o+(s.off+s.rows.length) * s.size
theorem ER{P:Program}{G:zi}{γ:Gh}{st:St}{tmps:Array Value}{w:World}(h:Qs G γ st tmps w){b off len:Nat}{k:Qd}(hk:st.b b=some k)(hlen:off+len<=k.rows.length){v:Value}
  (hr:Qz γ w st.b st.u (.ref b off len) v) (Ql:Bool) :
  ∃vs,To P γ w st.b st.u ⟨some b,off,k.size,Ql,(k.rows.drop off).take len⟩ v vs/\
   ((((k.rows.drop off).take len)=[]/\(v=.slice none 0 0\/∃B,v=.slice (some B) 0 0))\/
    ∃B o cs e cap,γ.loc b=some (B,o)/\γ.own B=some (.Zs b)/\D5 w B cs e/\v=.slice (some ⟨B,o+off * k.size,none⟩) len cap/\len<=cap/\o+(off+cap) * k.size<=cs.size/\
     vs=(cs.toList.drop (o+off * k.size)).take (len * k.size)/\(k.Ql=true->γ.Qr B=0)/\γ.Qr B<=o+k.rows.length * k.size):=by
 have hl:((k.rows.drop off).take len).length=len:=by simp;omega
 rcases hr.ZO hk with⟨B,o,cap,rfl,hloc,_,hcap,hroom,hM,_⟩|⟨B,rfl,rfl,_⟩|⟨rfl,rfl,_⟩
 ·rcases h.b b k hk with⟨v1,_⟩|hm|⟨_,B',o',cs,e,h1,h2,h3,h4,h5,h6,h7,h8⟩
  ·grind
  ·exact(hm.small hM).elim
  ·rw[hloc] at h1;simp only[zG,zT] at h1;obtain⟨rfl,rfl⟩:=h1;have rd:=Tp.rd (b:=b) (w:=w) (γ:=γ) (bs:=st.b) (u:=st.u) Ql h4 h5 h6 hlen;obtain⟨cs',e',fz,r1,r2⟩:=hroom;obtain⟨fz3,h3e,_⟩:=id h3;rw[h3e] at r1;simp only[zG,Obj.cells.injEq] at r1;obtain⟨rfl,rfl,rfl⟩:=r1;refine⟨_,⟨rd,λ_=>by simp[Builtin.lenOf,hl],?_⟩,(by grind)⟩;simp only[hl];refine KI (by have:=rd.2.1;grind) λj v hv=>?_;rw[List.getElem?_take] at hv;split at hv
   ·rw[List.getElem?_drop] at hv;rw[h3.cellAt];simpa using hv
   ·simp at hv
 ·have e0:(k.rows.drop off).take 0=[]:=by simp
  rw[e0];exact⟨[],YX _ _ _ _ (.inr ⟨_,rfl⟩),(by grind)⟩
 ·have e0:(k.rows.drop off).take 0=[]:=by simp
  rw[e0];exact⟨[],YX _ _ _ _ (.inl rfl),.inl ⟨rfl,.inl rfl⟩⟩
theorem TW{P:Program}{G:zi}{γ:Gh}{st:St}{tmps:Array Value}{w:World}(h:Qs G γ st tmps w){size:Nat}{db:Option Nat}{c:V}{s:Src}(hs:Ad st.b size db c=some s){v:Value}
  (hr:Qz γ w st.b st.u c v):s.size=size/\(∀b,db=some b->s.b≠some b)/\∃vs,To P γ w st.b st.u s v vs:=by
 unfold Ad at hs;split at hs
 ·simp only[zG] at hs;subst hs;have:=hr.QI;subst this;exact⟨rfl,λb _=>by simp,[],YX _ _ _ _ (.inl rfl)⟩
 ·rename_i own sz rows;split at hs<;>simp at hs;rename_i hsz;subst hsz;subst hs;refine⟨rfl,λb _=>by simp,?_⟩;obtain⟨a,rfl,rfl⟩|⟨B,o,cap,vs,rfl,h1,h2,h3,h4⟩:=hr.HB
  ·cases a with
   | none=>exact⟨[],YX _ _ _ _ (.inl rfl)⟩
   | some a=>exact⟨[],YX _ _ _ _ (.inr ⟨a,rfl⟩)⟩
  ·have fl:rows.flatten.length=rows.length * sz:=by
    rw[List.length_flatten];have:rows.map List.length=List.replicate rows.length sz:=List.eq_replicate_iff.2 (by grind);rw[this];simp
   have rd:WM γ w st.b st.u ⟨none,0,sz,true,rows.map (·.map V.strip)⟩ ((List.range (rows.length * sz)).map vs):=by
    refine⟨λr hr=>?_,by simp,λi c hc=>?_⟩
    ·grind
    ·simp only[T7,wm,zJ] at hc;obtain⟨c',hc',rfl⟩:=hc;have hlt:i < rows.length * sz:=by grind
     exact⟨vs i,by simp[hlt],(Qz.data (h4 i c' hc')).strip,(h4 i c' hc').XY,YD c'⟩
   refine⟨_,rd,λ_=>by simp[Builtin.lenOf],?_⟩;simp only[wO];refine KI (by simp) λj v hv=>?_;simp only[wm,zJ] at hv;obtain⟨j',hj,rfl⟩:=hv;have hlt:j < rows.length * sz:=by grind
   simp_all
 ·rename_i b off len;split at hs
  ·rename_i k hk;split at hs
   ·rename_i hc;obtain⟨hsz,hlen⟩:=hc;subst hsz;split at hs
    ·simp only[zG] at hs;subst hs;obtain⟨vs,ho,_⟩:=ER (P:=P) h hk hlen hr true;refine⟨rfl,λb _=>by simp,vs,⟨ho.rd.strip none 0 rfl true,?_,?_⟩⟩
     ·have:=ho.len;grind
     ·have:=ho.first;grind
    ·rename_i hdb;simp only[zG] at hs;subst hs;obtain⟨vs,ho,_⟩:=ER (P:=P) h hk hlen hr true;grind
   ·simp at hs
  ·simp at hs
 ·simp at hs
theorem Lr{P:Program}{G:zi}{γ:Gh}{st:St}{tmps:Array Value}{w:World}(h:Qs G γ st tmps w){size:Nat}{c:V}{s:Src}(hs:Gb st.b size c=some s){v:Value}
  (hr:Qz γ w st.b st.u c v):s.size=size/\∃vs,To P γ w st.b st.u s v vs/\Qd6 γ w st s v vs:=by
 unfold Gb at hs;split at hs
 ·simp only[zG] at hs;subst hs;have:=hr.QI;subst this;exact⟨rfl,[],YX _ _ _ _ (.inl rfl),.inl ⟨rfl,.inl rfl⟩⟩
 ·rename_i b off len;split at hs
  ·rename_i k hk;split at hs<;>simp at hs;rename_i hc;obtain⟨hsz,hlen,hex⟩:=hc;subst hsz;subst hs;have hl:((k.rows.drop off).take len).length=len:=by simp;omega
   obtain⟨vs,ho,hsh⟩:=ER (P:=P) h hk hlen hr k.Ql;refine⟨rfl,vs,ho,?_⟩;rcases hsh with⟨h1,h2⟩|⟨B,o,cs,e,cap,h1,h2,h3,h4,h5,h6,h7,h8,h9⟩
   ·exact .inl ⟨h1,h2⟩
   ·refine .inr ⟨b,k,B,o,cs,e,cap,rfl,hk,h1,h2,h3,by rw[h4,hl],by rw[hl];exact h5,h6,?_,h8,?_⟩
    ·grind
    ·simp only[hl];grind
  ·simp at hs
 ·simp at hs
theorem Qs.BH{G:zi}{γ:Gh}{st:St}{tmps:Array Value}{w:World}(h:Qs G γ st tmps w){d:Nat}{b1 b2:Option Nat}{k:Qd}(hu:st.u d=false)(hk:k.rows=[]) :
  ∃γ',Qe γ w γ' w/\Qs G γ' (((st.QJ b1).QJ b2).Qj d k) tmps w/\G7 γ st.b st.u γ' (((st.QJ b1).QJ b2).Qj d k).b (((st.QJ b1).QJ b2).Qj d k).u:=by
 let γ':Gh:={ loc:=λb=>if b=d then none else γ.loc b,own:=γ.own,Qr:=γ.Qr }
 have hb2:∀b,b≠d->(((st.QJ b1).QJ b2).Qj d k).b b=if b1=some b\/b2=some b then none else st.b b:=by
  intro b hb;simp only[St.Qj];rw[if_neg hb,Gt,Gt];grind
 have hu2:∀b,st.u b=true->(((st.QJ b1).QJ b2).Qj d k).u b=true:=by
  intro b hb;simp only[St.Qj];split
  ·rfl
  ·cases b1<;>cases b2<;>simp only[St.QJ,St.QT]<;>(try split)<;>(try split)<;>first|rfl|exact hb
 have g:Qe γ w γ' w:=⟨rfl,rfl,rfl,zQ _,λ_ _ _ _ h=>h,λ_ _=>zQ _,(by grind),(by grind)⟩
 have bl:G7 γ st.b st.u γ' (((st.QJ b1).QJ b2).Qj d k).b (((st.QJ b1).QJ b2).Qj d k).u:=by
  refine⟨hu2,λb hb hn=>?_,λb k' hk'=>⟨hu2 b (h.u b k' hk'),?_⟩⟩
  ·grind
  ·have:b≠d:=λe=>by subst e;rw[h.Ge hu] at hk';simp at hk'
   grind
 refine⟨γ',g,⟨?_,λi=>?_,λb k' hk'=>?_,λb k' hk'=>?_,h.g.grow g,h.o⟩,bl⟩
 ·have:(((st.QJ b1).QJ b2).Qj d k).n=st.n:=by cases b1<;>cases b2<;>rfl
  rw[this];exact h.n
 ·have:(((st.QJ b1).QJ b2).Qj d k).t=st.t:=by cases b1<;>cases b2<;>rfl
  rw[this];exact(h.t i).mono g bl
 ·by_cases hbd:b=d
  ·subst hbd;simp only[St.Qj,if_pos] at hk';simp only[zG] at hk';subst hk';exact .inl ⟨by simp[γ'],hk⟩
  ·rw[hb2 b hbd] at hk';split at hk'
   ·simp at hk'
   ·rcases h.b b k' hk' with⟨v1,v2⟩|hm|⟨hM2,X,o',cs',e',a1,a2,a3,a4,a5,a6,a7,a8⟩
    ·exact .inl (by grind)
    ·exact .inr (.inl (hm.same (by grind) (by grind) λc v hr=>hr.mono g bl))
    ·refine .inr (.inr ⟨hM2,X,o',cs',e',by grind,a2,a3,a4,a5,λi c hc=>?_,a7,a8⟩);obtain⟨v,b1,b2,b3,b4⟩:=a6 i c hc;exact⟨v,b1,b2.mono g bl,b3,b4.mono (by grind)⟩
 ·by_cases hbd:b=d
  ·grind [St.Qj]
  ·rw[hb2 b hbd] at hk';split at hk'
   ·simp at hk'
   ·exact hu2 b (h.u b k' hk')
def Tx(P:Program)(look:zj)(t t2:TypeId)(db:Src->Option Nat)(x y:V):Option (Src×Src×Qd):=
 match P.underlying t,P.underlying t2 with
 | some (.slice e),some (.slice _)=>match P.info? e with
  | some ei=>match Gb look ei.size x with
   | some ds=>match Ad look ei.size (db ds) y with
    | some ss=>if (ds.rows.length+ss.rows.length) * ei.bytes<=140737488355328/\0 < ei.bytes/\(zeroV P e).map List.length=some ei.size then some (ds,ss,⟨ei.size,ds.Ql,ds.rows++ss.rows⟩) else none
    | none=>none
   | none=>none
  | none=>none
 | _,_=>none
theorem PI{look:zj}{size:Nat}{db:Option Nat}{c:V}{s:Src}(h:Ad look size db c=some s):∀b,db=some b->s.b≠some b:=by
 intro b hb;unfold Ad at h;grind
theorem OM{P:Program}{look:zj}{t t2:TypeId}{x y:V}{ds ss:Src}{k:Qd}(h:Eb P look t t2 x y=some (ds,ss,k)):∀b,ds.b=some b->ss.b≠some b:=by
 unfold Eb at h;split at h
 ·split at h
  ·split at h
   ·split at h
    ·rename_i hss;split at h<;>simp at h;obtain⟨rfl,rfl,_⟩:=h;exact PI hss
    ·simp at h
   ·simp at h
  ·simp at h
 ·simp at h
theorem Gr{P:Program}{G:zi}{o:Oper}{st:St}{x y:Operand}{t t2:TypeId}{d:Nat}{cx cy:V}{ds0 ss0:Src}{k0:Qd}(ho:o.op=.call { callee:=.builtin .append,args:=#[x,y],argTypes:=#[t,t2] })
    (hd:o.dst=some d) (hn:d < st.n) (hu:st.u d=false) (hx:iW G st x cx) (hy:iW G st y cy) {db:Src->Option Nat} (ha:Tx P st.b t t2 db cx cy=some (ds0,ss0,k0)) (hnn:∀b,ds0.b=some b->ss0.b≠some b) :
    I9 P G o st ((((st.QJ ds0.b).QJ ss0.b).Qj d k0).QG d (.ref d 0 (ds0.rows.length+ss0.rows.length))):=
  M7 λγ a w hs=>by
    unfold Tx at ha;split at ha
    · rename_i e e2 ht ht2;split at ha
      · rename_i ei hi;split at ha
        · rename_i ds hds;split at ha
          · rename_i ss hss;split at ha<;>simp at ha;rename_i hcond;obtain⟨rfl,rfl,rfl⟩:=ha;obtain⟨hbytes,hbpos,hzl⟩:=hcond;obtain⟨zc,hzc,hzlen⟩:=zJ.1 hzl;have hM:ds.size < J0:=by
              rw[(Lr (P:=P) hs hds (hx γ a w hs)).1,<-hzlen];exact(O7 hzc).2
            obtain⟨e1,vd,hdo,hda⟩:=Lr (P:=P) hs hds (hx γ a w hs);obtain⟨e2',_,vsr,hso⟩:=TW (P:=P) hs hss (hy γ a w hs);have hne:∀b,ds.b=some b->ss.b≠some b:=hnn;have pre : execOp a.eval o = (do let v <- Builtin.append_ #[t, t2] o.type #[a.eval x, a.eval y]; pure (.value v)) := by
              have h1:execOp a.eval o=builtin .append #[t,t2] o.type (#[x,y].map fun|.const _=>true|_=>false) (#[x,y].map a.eval):=by
                show (execOp a.eval o)=_;unfold execOp;rw[ho];rfl
              rw[h1];simp[builtin]
            obtain⟨z,hz1,hz2⟩:∃z,ei.zero=some z/\z.cells.size=ei.size:=by
              obtain⟨zv,hr,hcr⟩:=Uh (P:=P) (γ:=γ) (w:=w) (bs:=st.b) (u:=st.u) hzc;replace hzc:=(O7 hzc).1;unfold LD at hzc;rw[hi] at hzc;simp only at hzc;cases hz:ei.zero with
              | none=>grind
              | some z=>
                have:(zeroValue e).run P w=.ok z w:=by simp[zeroValue,typeInfo,hi,hz]
                rw[this] at hr;simp only[Result.ok.injEq,and_true] at hr;subst hr;exact⟨z,rfl,by rw[hcr.1,hzlen]⟩
            have hdl:vd.length=ds.rows.length * ei.size:=by rw[<-e1];exact hdo.rd.2.1
            have hsl:vsr.length=ss.rows.length * ei.size:=by rw[<-e2'];exact hso.rd.2.1
            have h63:((ds.rows.length+ss.rows.length:Nat):Int)<=9223372036854775807:=by
              have:ds.rows.length+ss.rows.length<=(ds.rows.length+ss.rows.length) * ei.bytes:=Nat.le_mul_of_pos_right _ hbpos;omega
            have hone:∀v,v∈vsr->v.oneCell'=true:=λv hv=>by
              obtain⟨j,hj,rfl⟩:=List.getElem_of_mem hv;have fl:ss.rows.flatten.length=ss.rows.length * ss.size:=by
                rw[List.length_flatten];have:ss.rows.map List.length=List.replicate ss.rows.length ss.size:=List.eq_replicate_iff.2 ⟨by simp,λx hx=>by obtain⟨r,hr,rfl⟩:=zP.1 hx;exact hso.rd.1 r hr⟩;rw[this];simp
              have hjl:j < ss.rows.flatten.length:=by grind
              obtain⟨v,a1,_,a3,_⟩:=hso.rd.2.2 j _ (wA hjl);grind
            obtain⟨base,cap,hv⟩:∃base cap,a.eval x=.slice base ds.rows.length cap:=by
              rcases hda with⟨h0,h1|⟨B,h1⟩⟩|⟨b,k,B,o',cs,e',cap,_,_,_,_,_,h1,_⟩
              · grind
              · grind
              grind
            have hlenS:=hso.len;have hfS:=hso.first;have hfD:=hdo.first;rw[e2'] at hfS;rw[e1,hv] at hfD;rw[show (⟨ei.size,ds.Ql,ds.rows++ss.rows⟩:Qd)=⟨ds.size,ds.Ql,ds.rows++ss.rows⟩ by rw[e1]];by_cases hg:cap < ds.rows.length+ss.rows.length
            ·
              have hrun:=Kb (P:=P) (w:=w) t t2 o.type e e2 ei z ht ht2 hi hz1 base ds.rows.length cap ss.rows.length (a.eval y) vd vsr hlenS hfD hfS hg h63 (growslice_fits hg hbytes)
              let N:=grownCap w (ds.rows.length+ss.rows.length) cap e
              have hN:ds.rows.length+ss.rows.length<=N:=by
                show _<=(Question.appendCap _ _ _).cut _;grind [Question.cut]
              let cs:Array Value:=vd.toArray++vsr.toArray++Builtin.zeroCells z.cells (N - (ds.rows.length+ss.rows.length))
              have hzc:(Builtin.zeroCells z.cells (N - (ds.rows.length+ss.rows.length))).size=(N - (ds.rows.length+ss.rows.length)) * ei.size:=by simp[Builtin.zeroCells,hz2]
              have hcs:cs.size=N * ei.size:=by
                simp only[cs,Array.size_append,hzc,List.size_toArray,hdl,hsl];rw[<-wK,<-wK];congr 1;omega
              have hh:(w.drew.alloc (.cells cs e)).heap=w.heap.push (.cells cs e):=rfl;have gp:Qe γ w (γ.add d w.heap.size) (w.drew.alloc (.cells cs e)):=Qe.push hh ⟨rfl,rfl,rfl⟩ d;have g:Qe γ w (γ.move ds ss d w.heap.size 0 0) (w.drew.alloc (.cells cs e)):=by
                refine⟨gp.os,gp.tape,gp.output,gp.size,gp.Pf,gp.Qr,λB hB ho=>?_,gp.room⟩;obtain⟨q1,q2,q3⟩:=gp.free B hB ho;refine⟨q1,?_,q3⟩;simp only[Gh.move];rw[if_neg (by omega),ho];rfl
              have hlt:∀X t,γ.own X=some t->X≠w.heap.size:=λX t hX=>by have:=hs.o X t hX;omega
              have hroomcs:(ds.rows.length+ss.rows.length) * ei.size<=cs.size:=by grind
              have key:=hs.Pj (Qr:=0) (B:=w.heap.size) (o:=0) (cs:=cs) (e:=e) (w1:=w.drew.alloc (.cells cs e)) hM hu hdo.rd hso.rd (e1.trans e2'.symm) hne (.of (by rw[hh];simp)) (by grind)
                (by grind) g
                (by grind) (by rw[hh];simp) (λX t hX=>by rw[hh];have:=hs.o X t hX;simp;omega) (λ_=>rfl) (Nat.zero_le _) (by grind)
              refine⟨_,_,_,by rw[pre,zX,hv,hrun,zZ];rfl,g,key.2.Ue,?_⟩;have hb:=key.1.put (a:=a) (dst:=some d) (c:=.ref d 0 (ds.rows.length+ss.rows.length)) (v:=.slice (some ⟨w.heap.size,0,none⟩) (ds.rows.length+ss.rows.length) N)
                (by have : (((st.QJ ds.b).QJ ss.b).Qj d ⟨ds.size, ds.Ql, ds.rows ++ ss.rows⟩).n = st.n := by cases ds.b <;> cases ss.b <;> rfl
                    grind [W2]) (by
                have:=Qz.ref (γ:=γ.move ds ss d w.heap.size 0 0) (w:=w.drew.alloc (.cells cs e)) (bs:=(((st.QJ ds.b).QJ ss.b).Qj d ⟨ds.size,ds.Ql,ds.rows++ss.rows⟩).b) (u:=(((st.QJ ds.b).QJ ss.b).Qj d ⟨ds.size,ds.Ql,ds.rows++ss.rows⟩).u)
                  d 0 (ds.rows.length+ss.rows.length) w.heap.size 0 N ⟨ds.size,ds.Ql,ds.rows++ss.rows⟩ (by simp[St.Qj]) (by simp[Gh.move]) (by simp) hN ⟨cs,e,(0,0),by rw[hh];simp,by grind⟩ hM (by simpa using hN)
                grind)
              rw[hd];exact hb
            ·
              rcases hda with⟨h0,hsh⟩|⟨b,k,B,o',cs,e',cap',hdb,hk,hloc,hown,hheap,hval,hcap,hroom,hcell,hl0,hl1⟩
              ·
                have hcap0:cap=0:=by
                  grind
                have hss0:ss.rows=[]:=(by grind)
                have hds0:ds.rows.length=0:=by rw[h0];rfl
                have hrun:=Xx (P:=P) (w:=w) t t2 o.type e e2 ei ht ht2 hi base (a.eval y) cap (λw1=>by have:=hlenS w1;rw[hss0] at this;exact this) (λw1 hw=>by
                  have:=hfS w1 hw;rw[hss0] at this;have hv0:vsr=[]:=qo.1 (by rw[hsl,hss0];simp);rw[hv0] at this;exact this)
                obtain⟨γ',g,hs',bl⟩:=hs.BH (d:=d) (b1:=ds.b) (b2:=ss.b) (k:=⟨ds.size,ds.Ql,ds.rows++ss.rows⟩) hu (by rw[h0,hss0];rfl);refine⟨_,_,γ',by rw[pre,zX,hv,hds0,hrun,zZ];rfl,g,bl.Ue,?_⟩;have hb:=hs'.put (a:=a) (dst:=some d) (c:=.ref d 0 0) (v:=.slice base 0 cap)
                  (by have : (((st.QJ ds.b).QJ ss.b).Qj d ⟨ds.size, ds.Ql, ds.rows ++ ss.rows⟩).n = st.n := by cases ds.b <;> cases ss.b <;> rfl
                      simpa[W2,this] using hn) (by
                  rw[hcap0];rcases hsh with h1|⟨B',h1⟩<;>(rw[hv] at h1;simp only[Value.slice.injEq] at h1;rw[h1.1])
                  · exact .ZY d 0 ⟨ds.size,ds.Ql,ds.rows++ss.rows⟩ (by simp[St.Qj]) hM (by simp_all)
                  · exact .ZC d 0 B' ⟨ds.size,ds.Ql,ds.rows++ss.rows⟩ (by simp[St.Qj]) hM (by simp_all))
                rw[hd,show ds.rows.length+ss.rows.length=0 by rw[hds0,hss0];rfl,<-hds0];rw[hds0];exact hb
              ·
                rw[hv] at hval;simp only[Value.slice.injEq,true_and] at hval;obtain⟨rfl,rfl⟩:=hval;rw[e1] at hroom hcell hl1 hv;have hge:ds.rows.length+ss.rows.length<=cap:=by omega
                have hr1:(ds.off+(ds.rows.length+ss.rows.length)) * ei.size<=(ds.off+cap) * ei.size:=wT _ (by omega);simp only[wK] at hr1 hroom hl1;have hroom2:o'+ds.off * ei.size+ds.rows.length * ei.size+vsr.length<=cs.size:=by rw[hsl];omega
                have hrun:=MN (P:=P) (w:=w) t t2 o.type e e2 ei ht ht2 hi B (o'+ds.off * ei.size) ds.rows.length cap ss.rows.length (a.eval y) vsr cs e' hlenS hfS hge hheap hone hroom2;obtain⟨s1,s2⟩:=P2 vsr (o'+ds.off * ei.size+ds.rows.length * ei.size) cs hroom2;have hBlt:=hs.o B _ hown;have gp:Qe γ w γ (World.Qv w B (E9 cs (o'+ds.off * ei.size+ds.rows.length * ei.size) vsr) e'):=Qe.Qv hheap s1 (λj v hj hc=>by
                  rw[s2,if_neg (by omega)];exact hc) hown
                have g:Qe γ w (γ.move ds ss d B (o'+ds.off * ei.size) (γ.Qr B)) (World.Qv w B (E9 cs (o'+ds.off * ei.size+ds.rows.length * ei.size) vsr) e'):=by
                  refine⟨gp.os,gp.tape,gp.output,gp.size,gp.Pf,λX hX=>?_,λX hX ho=>?_,λX cs2 e2 fz hc=>by
                    obtain⟨cs3,fz',q1,q2,q3⟩:=gp.room X cs2 e2 fz hc;refine⟨cs3,fz',q1,q2,q3.imp id λq=>?_⟩;simp only[Gh.move];split
                    · rename_i hXB;rw[<-hXB];exact q
                    · exact q⟩
                  · simp only[Gh.move];split
                    · rename_i hXB;rw[hXB];exact zQ _
                    · exact zQ _
                  · obtain⟨q1,q2,q3⟩:=gp.free X hX ho;have hXB:X≠B:=λe=>by subst e;rw[hown] at ho;simp at ho
                    refine⟨q1,?_,?_⟩
                    · simp only[Gh.move];rw[if_neg hXB,ho];rfl
                    · simp only[Gh.move];rw[if_neg hXB]
                have key:=hs.Pj (Qr:=γ.Qr B) (B:=B) (o:=o'+ds.off * ei.size) (cs:=E9 cs (o'+ds.off * ei.size+ds.rows.length * ei.size) vsr) (e:=e') hM hu hdo.rd hso.rd (e1.trans e2'.symm) hne (hheap.set s1) (by rw[s1,e1,wK];omega)
                  (λj hj=>by
                    rw[s2];by_cases hjd:j < vd.length
                    · rw[if_neg (by omega),wD hjd];exact hcell j hjd
                    · rw[if_pos (by omega),wJ (by omega)];congr 1;omega) g
                  (λb' k' X o2 hk' hnb _ _ hX=>by
                    have hXB:X≠B:=λe=>by
                      subst e;rw[hown] at hX;simp only[zG,M3.Zs.injEq] at hX;exact hnb (by rw[hdb,hX])
                    exact⟨hXB,YA hXB⟩) (by simpa[World.Qv] using hBlt) (λX t hX=>by simpa[World.Qv] using hs.o X t hX) hl0 (by rw[e1,wK];omega)
                  (λX b' i j hX e=>by subst e;rw[hown] at hX;simp at hX)
                refine⟨_,_,_,by rw[pre,zX,hv,hrun,zZ];rfl,g,key.2.Ue,?_⟩;have hb:=key.1.put (a:=a) (dst:=some d) (c:=.ref d 0 (ds.rows.length+ss.rows.length)) (v:=.slice (some ⟨B,o'+ds.off * ei.size,none⟩) (ds.rows.length+ss.rows.length) cap)
                  (by have : (((st.QJ ds.b).QJ ss.b).Qj d ⟨ds.size, ds.Ql, ds.rows ++ ss.rows⟩).n = st.n := by cases ds.b <;> cases ss.b <;> rfl
                      simpa[W2,this] using hn) (by
                  have:=Qz.ref (γ:=γ.move ds ss d B (o'+ds.off * ei.size) (γ.Qr B)) (w:=World.Qv w B (E9 cs (o'+ds.off * ei.size+ds.rows.length * ei.size) vsr) e') (bs:=(((st.QJ ds.b).QJ ss.b).Qj d ⟨ds.size,ds.Ql,ds.rows++ss.rows⟩).b) (u:=(((st.QJ ds.b).QJ ss.b).Qj d ⟨ds.size,ds.Ql,ds.rows++ss.rows⟩).u)
                    d 0 (ds.rows.length+ss.rows.length) B (o'+ds.off * ei.size) cap ⟨ds.size,ds.Ql,ds.rows++ss.rows⟩ (by simp[St.Qj]) (by simp[Gh.move]) (by simp) hge ((hheap.set s1).room (by rw[s1,e1];simp only[we];omega)) hM (by simpa using hge)
                  simpa using this)
                rw[hd];exact hb
          · simp at ha
        · simp at ha
      · simp at ha
    · simp at ha
theorem Gp{P:Program}{G:zi}{o:Oper}{st:St}{x y:Operand}{t t2:TypeId}{d:Nat}{cx cy:V}{ds0 ss0:Src}{k0:Qd}(ho:o.op=.call { callee:=.builtin .append,args:=#[x,y],argTypes:=#[t,t2] })
  (hd:o.dst=some d) (hn:d < st.n) (hu:st.u d=false) (hx:iW G st x cx) (hy:iW G st y cy) (ha:Eb P st.b t t2 cx cy=some (ds0,ss0,k0)) :
  I9 P G o st ((((st.QJ ds0.b).QJ ss0.b).Qj d k0).QG d (.ref d 0 (ds0.rows.length+ss0.rows.length))):=
 Gr (db:=λds=>ds.b) ho hd hn hu hx hy ha (OM ha)
theorem RZ{P:Program}{G:zi}{o:Oper}{st:St}{x y:Operand}{t t2:TypeId}{d:Nat}{cx cy:V}{ds0 ss0:Src}{k0:Qd}(ho:o.op=.call { callee:=.builtin .append,args:=#[x,y],argTypes:=#[t,t2] })
  (hd:o.dst=some d) (hn:d < st.n) (hu:st.u d=false) (hx:st.ev G x=some cx) (hy:st.ev G y=some cy) (ha:Eb P st.b t t2 cx cy=some (ds0,ss0,k0)) :
  I9 P G o st ((((st.QJ ds0.b).QJ ss0.b).Qj d k0).QG d (.ref d 0 (ds0.rows.length+ss0.rows.length))):=
 Gp ho hd hn hu (λ_ _ _ hs=>hs.ev hx) (λ_ _ _ hs=>hs.ev hy) ha
mutual
def okV(u:zl):V->Bool
 | .ref b _ _=>u b
 | .ptr b _ _=>u b
 | .mp b=>u b
 | .fn _ a c=>Mn u a&&Mn u c
 | .agg l=>Mn u l
 | .Qc l=>Mn u l
 | _=>true
def Mn(u:zl):List V->Bool
 | []=>true
 | c :: l=>okV u c&&Mn u l
end
theorem YJ{u:zl}:∀{l:List V},Mn u l=true->∀{i:Nat} {c:V},l[i]?=some c->okV u c=true
 | [],_,i,c,h=>by simp at h
 | x :: l,hl,i,c,h=>by
  simp only[Mn,zL] at hl;cases i with
  | zero=>grind
  | succ i=>exact YJ hl.2 (by simpa using h)
theorem Qz.shrink{γ:Gh}{w:World}{bs bs':zj}{u u':zl}(hb:∀b,bs' b=none\/bs' b=bs b){c:V}{v:Value}(h:Qz γ w bs u c v):okV u' c=true->Qz γ w bs' u' c v:=by
 induction h with
 | data h=>exact λ_=>.data h
 | undef v=>exact λ_=>.undef v
 | ref b off len B o cap k h1 h2 h3 h4 h5 h6 h7=>
  intro hu;rcases hb b with hn|he
  ·exact .Qp b off len _ hn (by simpa[okV] using hu) rfl
  ·exact .ref b off len B o cap k (he.trans h1) h2 h3 h4 h5 h6 h7
 | ZC b off B k h1 h6 h2=>
  intro hu;rcases hb b with hn|he
  ·exact .Qp b off 0 _ hn (by simpa[okV] using hu) rfl
  ·exact .ZC b off B k (he.trans h1) h6 h2
 | ZY b off k h1 h6 h2=>
  intro hu;rcases hb b with hn|he
  ·exact .Qp b off 0 _ hn (by simpa[okV] using hu) rfl
  ·exact .ZY b off k (he.trans h1) h6 h2
 | Qp b off len v h1 h2 h3=>
  intro hu;refine .Qp b off len v ?_ (by simpa[okV] using hu) h3;grind
 | ptr b i off B o k h1 h2 h3=>
  intro hu;rcases hb b with hn|he
  ·exact .QH b i off _ hn (by simpa[okV] using hu) rfl
  ·exact .ptr b i off B o k (he.trans h1) h2 h3
 | mp b B k h1 h2 h3=>
  intro hu;rcases hb b with hn|he
  ·exact .QX b _ hn (by simpa[okV] using hu) rfl
  ·exact .mp b B k (he.trans h1) h2 h3
 | QX b v h1 h2 h3=>
  intro hu;refine .QX b v ?_ (by simpa[okV] using hu) h3;grind
 | QH b i off v h1 h2 h3=>
  intro hu;refine .QH b i off v ?_ (by simpa[okV] using hu) h3;grind
 | fn f first captured fs cs h1 h2 _ _ ih1 ih2=>
  intro hu;simp only[okV,zL] at hu;exact .fn f first captured fs cs h1 h2 (by grind [YJ]) (by grind [YJ])
 | agg cells vs h1 _ ih=>intro hu;exact .agg cells vs h1 (by grind [YJ,okV])
 | Qc cells vs h1 _ ih=>intro hu;exact .Qc cells vs h1 (by grind [YJ,okV])
structure N7(st st':St):Prop where
 n:st'.n=st.n
 t:∀i,st'.t i=.undef\/(st'.t i=st.t i/\okV st'.u (st.t i)=true)
 b:∀b,st'.b b=none\/(st'.b b=st.b b/\∀k,st.b b=some k->st'.u b=true/\∀r,r∈k.rows->∀c,c∈r->okV st'.u c=true)
 p:∀b,X8 b=true->st'.u b=true
theorem N7.Nc{G:zi}{γ:Gh}{st st':St}{tmps:Array Value}{w:World}(f:N7 st st')(h:Qs G γ st tmps w):Qs G γ st' tmps w where
 n:=by rw[f.n];exact h.n
 t:=λi=>by
  rcases f.t i with e|⟨e,hk⟩
  ·rw[e];exact .undef _
  ·rw[e];exact(h.t i).shrink (λb=>(f.b b).imp id And.left) hk
 b:=λb k hk=>by
  rcases f.b b with e|⟨e,hr⟩
  ·grind
  ·rw[e] at hk;rcases h.b b k hk with h0|hm|⟨hM,B,o,cs,e',h1,h2,h3,h4,h5,h6,h7,h8⟩
   ·exact .inl h0
   ·obtain⟨hM,B,es,clock,h1,h2,h3,h4,h5,h6,h7⟩:=hm;refine .inr (.inl ⟨hM,B,es,clock,h1,h2,h3,h4,h5,h6,λi c hc=>?_⟩);obtain⟨v,a1,a2,a3⟩:=h7 i c hc;refine⟨v,a1,a2.shrink (λb=>(f.b b).imp id And.left) ?_,a3⟩;obtain⟨r,hr1,hr2⟩:=wU.1 (wd hc);grind
   ·refine .inr (.inr ⟨hM,B,o,cs,e',h1,h2,h3,h4,h5,λi c hc=>?_,h7,h8⟩);obtain⟨v,a1,a2,a3,a4⟩:=h6 i c hc;refine⟨v,a1,a2.shrink (λb=>(f.b b).imp id And.left) ?_,a3,a4⟩;obtain⟨r,hr1,hr2⟩:=wU.1 (wd hc);grind
 u:=λb k hk=>by
  rcases f.b b with e|⟨e,hr⟩
  ·grind
  grind
 g:=h.g
 o:=h.o
theorem N7.Ue{G:zi}{γ:Gh}{st st':St}{tmps:Array Value}{w:World}(f:N7 st st')(_:Qs G γ st tmps w):Zf γ st.b st.u γ st'.b st'.u:=λb hb=>by
 refine⟨λ_=>f.p b hb,λ_ hn=>?_,λk hk=>⟨f.p b hb,?_⟩⟩
 ·rcases f.b b with e|⟨e,_⟩
  ·exact e
  grind
 ·rcases f.b b with e|⟨e,_⟩
  ·exact .inl e
  grind
def D2(n:Nat)(ts:List (Nat×V))(bs:List (Nat×Qd))(us:List Nat):St where
 n:=n
 t:=λi=>match ts.find? (λp=>p.1==i) with|some p=>p.2|none=>.undef
 b:=λi=>match bs.find? (λp=>p.1==i) with|some p=>some p.2|none=>none
 u:=λi=>us.contains i || Qw i
theorem VO{st:St}{n:Nat}{ts:List (Nat×V)}{bs:List (Nat×Qd)}{us:List Nat}(hn:n=st.n)(ht:ts.map (λp=>st.t p.1)=ts.map (·.2))(hto:ts.all (λp=>okV (D2 n ts bs us).u p.2)=true)
  (hb:bs.map (λp=>st.b p.1)=bs.map (λp=>some p.2)) (hbu:bs.all (λp=>(D2 n ts bs us).u p.1)=true) (hbo:∀p,p∈bs->∀r,r∈p.2.rows->∀c,c∈r->okV (D2 n ts bs us).u c=true):N7 st (D2 n ts bs us) where
 n:=hn
 t:=λi=>by
  show (match ts.find? (λp=>p.1==i) with|some p=>p.2|none=>V.undef)=.undef\/_;cases hf:ts.find? (λp=>p.1==i) with
  | none=>exact .inl rfl
  | some p=>
   grind [List.mem_of_find?_eq_some,List.map_inj_left,List.all_eq_true,okV,D2]
 b:=λi=>by
  show (match bs.find? (λp=>p.1==i) with|some p=>some p.2|none=>none)=none\/_;cases hf:bs.find? (λp=>p.1==i) with
  | none=>exact .inl rfl
  | some p=>
   refine .inr ?_;have hm:=ql hf;have hi:p.1=i:=by grind
   have e:st.b p.1=some p.2:=List.map_inj_left.1 hb p hm;refine⟨?_,λk hk=>?_⟩
   ·show (match bs.find? (λp=>p.1==i) with|some p=>some p.2|none=>none)=st.b i;grind
   grind
 p:=(by grind [Jg,D2,Qw])
end Go.EV
namespace Go.EV
open Go
inductive Loc where
 | t (i:Nat)
 | b (i:Nat)
 deriving DecidableEq
inductive Wr where
 | t (i:Nat) (c:V)
 | b (i:Nat) (k:Option Qd)
def Wr.loc:Wr->Loc
 | .t i _=>.t i
 | .b i _=>.b i
def St.wr(st:St):Wr->St
 | .t i c=>st.QG i c
 | .b i (some k)=>st.Qj i k
 | .b i none=>st.QT i
def St.app(st:St)(ws:List Wr):St:=ws.foldl St.wr st
def O5(a b:St):Loc->Prop
 | .t i=>a.t i=b.t i
 | .b i=>a.b i=b.b i/\a.u i=b.u i
theorem St.ext'{a b:St}(hn:a.n=b.n)(h:∀l,O5 a b l):a=b:=by
 cases a;cases b;simp only at hn;simp only[St.mk.injEq];exact⟨hn,funext λi=>h (.t i),funext λi=>(h (.b i)).1,funext λi=>(h (.b i)).2⟩
theorem O5.trans{a b c:St}{l:Loc}(h:O5 a b l)(k:O5 b c l):O5 a c l:=by
 cases l with
 | t i=>exact Eq.trans (show a.t i=b.t i from h) k
 | b i=>exact⟨h.1.trans k.1,h.2.trans k.2⟩
theorem O5.symm{a b:St}{l:Loc}(h:O5 a b l):O5 b a l:=by
 cases l with
 | t i=>exact Eq.symm (show a.t i=b.t i from h)
 | b i=>exact⟨h.1.symm,h.2.symm⟩
theorem O5.refl(a:St)(l:Loc):O5 a a l:=by
 cases l with
 | t i=>rfl
 | b i=>exact⟨rfl,rfl⟩
theorem Qdq(st:St)(x:Wr):(st.wr x).n=st.n:=by
 cases x with
 | t=>rfl
 | b i k=>cases k<;>rfl
theorem LY(ws:List Wr)(st:St):(st.app ws).n=st.n:=by
 induction ws generalizing st with
 | nil=>rfl
 | cons x ws ih=>exact(ih (st.wr x)).trans (Qdq st x)
theorem XB(st:St)(x:Wr){l:Loc}(h:x.loc≠l):O5 (st.wr x) st l:=by
 cases x with
 | t i c=>
  cases l with
  | t j=>show (if j=i then c else st.t j)=st.t j;rw[if_neg (by grind [Wr.loc])]
  | b j=>exact⟨rfl,rfl⟩
 | b i k=>
  cases l with
  | t j=>cases k<;>rfl
  | b j=>
   have hj:¬j=i:=(by grind [Wr.loc]);cases k with
   | none=>exact⟨by show (if j=i then none else st.b j)=_;rw[if_neg hj],by show (if j=i then true else st.u j)=_;rw[if_neg hj]⟩
   | some k=>exact⟨by show (if j=i then some k else st.b j)=_;rw[if_neg hj],by show (if j=i then true else st.u j)=_;rw[if_neg hj]⟩
theorem oQ(a b:St)(x:Wr):O5 (a.wr x) (b.wr x) x.loc:=by
 cases x with
 | t i c=>show (if i=i then c else a.t i)=(if i=i then c else b.t i);simp
 | b i k=>
  cases k with
  | none=>exact⟨by show (if i=i then none else a.b i)=(if i=i then none else b.b i);simp,by show (if i=i then true else a.u i)=(if i=i then true else b.u i);simp⟩
  | some k=>exact⟨by show (if i=i then some k else a.b i)=(if i=i then some k else b.b i);simp,by show (if i=i then true else a.u i)=(if i=i then true else b.u i);simp⟩
theorem yW{a b:St}(x:Wr){l:Loc}(h:O5 a b l):O5 (a.wr x) (b.wr x) l:=by
 by_cases hl:x.loc=l
 ·grind [oQ]
 ·exact(XB a x hl).trans (h.trans (XB b x hl).symm)
theorem Kn(ws:List Wr){a b:St}{l:Loc}(h:O5 a b l):O5 (a.app ws) (b.app ws) l:=by
 induction ws generalizing a b with
 | nil=>exact h
 | cons x ws ih=>exact ih (yW x h)
theorem O6(ws:List Wr)(st:St){l:Loc}(h:∀x,x∈ws->x.loc≠l):O5 (st.app ws) st l:=by
 induction ws generalizing st with
 | nil=>exact O5.refl _ _
 | cons x ws ih=>exact(ih (st.wr x) λy hy=>h y (by simp[hy])).trans (by grind [XB])
def Hd(ws:List Wr)(ls:List Loc):Bool:=ws.all λx=>!ls.contains x.loc
theorem JM{ws:List Wr}{ls:List Loc}(h:Hd ws ls=true){l:Loc}(hl:l∈ls):∀x,x∈ws->x.loc≠l:=λx hx e=>by
 have:=zN.1 h x hx;grind
theorem aD{w1 w2:List Wr}(h:Hd w1 (w2.map Wr.loc)=true)(st:St):(st.app w1).app w2=(st.app w2).app w1:=by
 refine St.ext' (by simp[LY]) λl=>?_;by_cases h2:l∈w2.map Wr.loc
 ·have k1:O5 ((st.app w1).app w2) (st.app w2) l:=Kn w2 (O6 w1 st (JM h h2));exact k1.trans (O6 w1 _ (JM h h2)).symm
 ·have hw2:∀x,x∈w2->x.loc≠l:=(by grind);exact(O6 w2 _ hw2).trans (Kn w1 (O6 w2 st hw2).symm)
def A7(P:Program)(G:zi)(ops:Array Oper)(i:Nat)(st:St)(R:List Loc)(ws:List Wr):Prop:=
 ∀st2:St,st2.n=st.n->(∀l,l∈R->O5 st st2 l)->C1 P G ops i st2 (st2.app ws)
abbrev Y6:=List (List Loc×List Wr)
def Y6.ws(p:Y6)(i:Nat):List Wr:=(p.getD i ([],[])).2
def Y6.rs(p:Y6)(i:Nat):List Loc:=(p.getD i ([],[])).1
def Y6.st(p:Y6)(D:zl)(st:St):Nat->St
 | 0=>st
 | n+1=>if D n then (Y6.st p D st n).app (p.ws n) else Y6.st p D st n
theorem Y6.jH(p:Y6)(D:zl)(st:St):∀n,(p.st D st n).n=st.n
 | 0=>rfl
 | n+1=>by
  simp only[Y6.st];split
  ·rw[LY];exact Y6.jH p D st n
  ·exact Y6.jH p D st n
theorem Y6.Am(p:Y6){D E:zl}(st:St):∀n,(∀j,j < n->D j=E j)->p.st D st n=p.st E st n
 | 0,_=>rfl
 | n+1,h=>by
  simp only[Y6.st];rw[h n (by omega),Y6.Am p st n (λj hj=>h j (by omega))]
theorem Y6.agree(p:Y6)(D:zl)(st:St)(i:Nat){l:Loc}:∀n,(∀j,j < n->(j < i↔D j=true)\/∀x,x∈p.ws j->x.loc≠l)->O5 (p.st (λj=>decide (j < i)) st n) (p.st D st n) l
 | 0,_=>O5.refl _ _
 | n+1,h=>by
  have ih:=Y6.agree p D st i (l:=l) n (by grind);simp only[Y6.st];rcases h n (by omega) with hd|ho
  ·by_cases hn:n < i
   ·simp_all [if_pos,Kn]
   grind
  ·have k:∀s:St,O5 (s.app (p.ws n)) s l:=λs=>O6 _ _ ho;split<;>split
   ·exact Kn _ ih
   ·exact(k _).trans ih
   ·exact ih.trans (k _).symm
   ·exact ih
theorem Y6.insert(p:Y6)(D:zl)(st:St)(i:Nat)(hi:D i=false):∀n,i < n->(∀j,i < j->j < n->D j=true->Hd (p.ws j) ((p.ws i).map Wr.loc)=true)->
  (p.st D st n).app (p.ws i)=p.st (λj=>D j || decide (j=i)) st n
 | 0,h,_=>by omega
 | n+1,h,hc=>by
  simp only[Y6.st];by_cases hn:i=n
  ·subst hn;rw[if_neg (by rw[hi];simp),if_pos (by simp)];congr 1;exact Y6.Am p st i λj hj=>by simp;intro e;omega
  ·have ih:=Y6.insert p D st i hi n (by omega) (λj h1 h2 h3=>hc j h1 (by omega) h3);by_cases hd:D n=true
   ·rw[if_pos hd,if_pos (by simp[hd]),aD (hc n (by omega) (by omega) hd),ih]
   grind
def Jv(ops:List Oper):List Nat:=ops.foldl (λacc o=>acc++[o.after.toList.foldl (λs e=>if Region.binds .any e then s ||| 2 ^ e.on ||| acc.getD e.on 0 else s) 0]) []
def Y6.ok(ops:Array Oper)(p:Y6):Bool:=
 let ms:=Jv ops.toList
 (List.range ops.size).all λi=>(List.range i).all λj=>
  (ms.getD i 0).testBit j || (Hd (p.ws j) (p.rs i)&&Hd (p.ws i) (p.rs j)&&Hd (p.ws i) ((p.ws j).map Wr.loc))
def DU(ops:Array Oper)(D:zl):Prop:=∀i o,D i=true->ops[i]?=some o->∀e,e∈o.after->Region.binds .any e=true->D e.on=true
theorem hG{acc:List Nat}{j:Nat}:∀(es:List Edge) (s:Nat),(es.foldl (λs e=>if Region.binds .any e then s ||| 2 ^ e.on ||| acc.getD e.on 0 else s) s).testBit j=true->
  s.testBit j=true\/∃e,e∈es/\Region.binds .any e=true/\(e.on=j\/(acc.getD e.on 0).testBit j=true)
 | [],s,h=>.inl h
 | e :: es,s,h=>by
  simp only[List.foldl_cons] at h;rcases hG es _ h with h|⟨e',he,hb,hx⟩
  ·grind
  grind
theorem Lk:∀(l:List Oper) (acc:List Nat) (done:List Oper),acc.length=done.length->
  (∀(i:Nat) (o:Oper) (j:Nat),done[i]?=some o->(acc.getD i 0).testBit j=true->∃e,e∈o.after.toList/\Region.binds .any e=true/\(e.on=j\/(e.on < i/\(acc.getD e.on 0).testBit j=true)))->
  ∀(i:Nat) (o:Oper) (j:Nat),(done++l)[i]?=some o->
   ((l.foldl (λacc o=>acc++[o.after.toList.foldl (λs e=>if Region.binds .any e then s ||| 2 ^ e.on ||| acc.getD e.on 0 else s) 0]) acc).getD i 0).testBit j=true->
   ∃e,e∈o.after.toList/\Region.binds .any e=true/\(e.on=j\/(e.on < i/\((l.foldl (λacc o=>acc++[o.after.toList.foldl (λs e=>if Region.binds .any e then s ||| 2 ^ e.on ||| acc.getD e.on 0 else s) 0]) acc).getD e.on 0).testBit j=true))
 | [],acc,done,_,h,i,o,j,ho,ht=>by
  grind
 | x :: l,acc,done,hl,h,i,o,j,ho,ht=>by
  have step:=Lk l (acc++[x.after.toList.foldl (λs e=>if Region.binds .any e then s ||| 2 ^ e.on ||| acc.getD e.on 0 else s) 0]) (done++[x]) (by simp[hl]) ?_ i o j (by simpa using ho) ht
  ·exact step
  ·intro i o j ho ht;by_cases hi:i < done.length
   ·rw[wD hi] at ho;have e1:∀k,k < acc.length->(acc++[x.after.toList.foldl (λs e=>if Region.binds .any e then s ||| 2 ^ e.on ||| acc.getD e.on 0 else s) 0]).getD k 0=acc.getD k 0:=(by grind);grind
   ·have hi2:i=done.length:=by
     grind
    subst hi2;have ho':o=x:=by grind
    subst ho';have e2:(acc++[o.after.toList.foldl (λs e=>if Region.binds .any e then s ||| 2 ^ e.on ||| acc.getD e.on 0 else s) 0]).getD done.length 0=o.after.toList.foldl (λs e=>if Region.binds .any e then s ||| 2 ^ e.on ||| acc.getD e.on 0 else s) 0:=by
     grind
    rw[e2] at ht;rcases hG _ _ ht with h0|⟨e,he,hb,hx⟩
    ·simp at h0
    grind
theorem SP{ops:Array Oper}{i j:Nat}{o:Oper}(ho:ops[i]?=some o)(h:((Jv ops.toList).getD i 0).testBit j=true) :
  ∃e,e∈o.after/\Region.binds .any e=true/\(e.on=j\/(e.on < i/\((Jv ops.toList).getD e.on 0).testBit j=true)):=by
 obtain⟨e,he,hb,hx⟩:=Lk ops.toList [] [] rfl (by grind) i o j (by simpa using ho) h;exact⟨e,by simpa using he,hb,hx⟩
theorem T6{ops:Array Oper}{D:zl}(hc:DU ops D)(hin:∀i,D i=true->i < ops.size){j:Nat}:∀(n i:Nat),i < n->∀o,ops[i]?=some o->(D i=true\/∀e,e∈o.after->Region.binds .any e=true->D e.on=true)->
  ((Jv ops.toList).getD i 0).testBit j=true->D j=true
 | 0,i,h,_,_,_,_=>by omega
 | n+1,i,hi,o,ho,hd,ht=>by
  obtain⟨e,he,hb,hx⟩:=SP ho ht;have hon:D e.on=true:=by
   rcases hd with hd|hd
   ·exact hc i o hd ho e he hb
   grind
  rcases hx with rfl|⟨h1,h2⟩
  ·exact hon
  ·have hs:=hin _ hon;exact T6 hc hin n e.on (by omega) ops[e.on] (by grind) (.inl hon) h2
def MY(P:Program)(G:zi)(ops:Array Oper)(i:Nat)(st:St)(R:List Loc)(ex:Exit)(ws:List Wr):Prop:=
 ∀st2:St,st2.n=st.n->(∀l,l∈R->O5 st st2 l)->aV P G ops i st2 ex (st2.app ws)
theorem PH{P:Program}{G:zi}{ops:Array Oper}{st:St}{Q:Exit->St->Prop}{p:Y6}{ip:Nat}{ex:Exit}{W:List Wr}(hp:p.ok ops=true)
  (hback:∀i o,ops[i]?=some o->∀e,e∈o.after->Region.binds .any e=true->e.on < i)
  (hstep:∀i,i < ops.size->i≠ip->(ip < ops.size->((Jv ops.toList).getD i 0).testBit ip=false)->A7 P G ops i (p.st (λj=>decide (j < i)) st ops.size) (p.rs i) (p.ws i)) (hq:ops.size<=ip->Q .normal (p.st (λ_=>true) st ops.size))
  (hpan:ip < ops.size->MY P G ops ip (p.st (λj=>decide (j < ip)) st ops.size) (p.rs ip) ex W/\∀D,Q ex ((p.st D st ops.size).app W))
  {fx:Fx} {γ0:Gh} {w0:World}:∀(G3:Nat) (D:zl) (listed:Array Bool) (γ:Gh) (a:Act) (w:World),listed.size=ops.size->(∀i,i < ops.size->listed.getD i true=D i/\listed.getD i false=D i)->(∀i,D i=true->i < ops.size/\i≠ip)->DU ops D->
   ((List.range ops.size).filter λi=>!D i).length<=G3->Qs G γ (p.st D st ops.size) a.tmps w->(Qe γ0 w0 γ w/\Zf γ0 st.b st.u γ (p.st D st ops.size).b (p.st D st ops.size).u)->a.defers=fx.ds->
   wpAnyIn (RF fx.ro) 0 P .any ops (L7 G fx γ0 st w0 Q) G3 listed a w:=by
 have pair:∀i j,i < ops.size->j < i->((Jv ops.toList).getD i 0).testBit j=true\/(Hd (p.ws j) (p.rs i)=true/\Hd (p.ws i) (p.rs j)=true/\Hd (p.ws i) ((p.ws j).map Wr.loc)=true):=by
  intro i j hi hj;unfold Y6.ok at hp;grind
 have readyD:∀(D:zl) (listed:Array Bool),(∀i,i < ops.size->listed.getD i true=D i/\listed.getD i false=D i)->listed.size=ops.size->∀i,i∈Region.ready .any ops listed->i < ops.size/\D i=false/\∀o,ops[i]?=some o->∀e,e∈o.after->Region.binds .any e=true->D e.on=true:=by
  grind [mem_ready,Array.getElem?_eq_some_iff,Option.some.injEq,Nat.lt_or_ge,Array.getD_eq_getD_getElem?,Array.getElem?_eq_none]
 have none_ready:∀(D:zl) (listed:Array Bool),(∀i,i < ops.size->listed.getD i true=D i/\listed.getD i false=D i)->Region.ready .any ops listed=[]->∀i,i < ops.size->D i=true:=by
  intro D listed hl hr i;induction i using Nat.strongRecOn with
  | _ i ih=>
   intro hi;cases hd:D i with
   | true=>rfl
   | false=>
    exfalso;have:i∈Region.ready .any ops listed:=mem_ready.2 ⟨by rw[(hl i hi).1];exact hd,ops[i],wB hi,λe he hb=>by
     have hb':=hback i _ (wB hi) e he hb;rw[(hl e.on (by omega)).2];exact ih e.on hb' (by omega)⟩
    rw[hr] at this;simp at this
 have fin:∀(D:zl) (γ:Gh) (a:Act) (w:World),(∀i,D i=true->i < ops.size/\i≠ip)->(∀i,i < ops.size->D i=true)->Qs G γ (p.st D st ops.size) a.tmps w->(Qe γ0 w0 γ w/\Zf γ0 st.b st.u γ (p.st D st ops.size).b (p.st D st ops.size).u)->a.defers=fx.ds->L7 G fx γ0 st w0 Q .normal a w:=by
  intro D γ a w hin hall hs hg hd;have hip:ops.size<=ip:=Nat.le_of_not_lt λh=>(hin ip (hall ip h)).2 rfl;have e:p.st D st ops.size=p.st (λ_=>true) st ops.size:=Y6.Am p st _ hall;exact⟨_,γ,hs,hg,.of hd,by grind⟩
 intro G3;induction G3 with
 | zero=>
  intro D listed γ a w hsz hl hin hc hf hs hg hd;have hall:∀i,i < ops.size->D i=true:=by
   intro i hi;cases hdi:D i with
   | true=>rfl
   | false=>
    exfalso;have:i∈(List.range ops.size).filter λi=>!D i:=(by grind);grind
  refine⟨?_,(by grind)⟩;refine List.eq_nil_iff_forall_not_mem.2 λi hi=>?_;obtain⟨h1,h2,_⟩:=readyD D listed hl hsz i hi;grind
 | succ G3 ih=>
  intro D listed γ a w hsz hl hin hc hf hs hg hd;refine⟨λhr=>fin D γ a w hin (none_ready D listed hl hr) hs hg hd,λi hi=>?_⟩;have hin1:∀i,D i=true->i < ops.size:=λi h=>(hin i h).1;obtain⟨hlt,hDi,hpre⟩:=readyD D listed hl hsz i hi;have ho:ops[i]?=some ops[i]:=(by grind);have hagree:∀l,l∈p.rs i->O5 (p.st (λj=>decide (j < i)) st ops.size) (p.st D st ops.size) l:=by
   intro l hlr;refine Y6.agree p D st i ops.size λj hj=>?_;by_cases hji:j=i
   ·grind
   ·by_cases hlt':j < i
    ·rcases pair i j hlt hlt' with hm|⟨h1,_,_⟩
     ·have hDj:D j=true:=T6 hc hin1 (i+1) i (by omega) _ ho (.inr (hpre _ ho)) hm;grind
     grind [JM]
    ·rcases pair j i hj (by omega) with hm|⟨_,h2,_⟩
     ·refine .inl ⟨λh=>absurd h hlt',λhDj=>?_⟩;have hoj:ops[j]?=some ops[j]:=(by grind);have:=T6 hc hin1 (j+1) j (by omega) _ hoj (.inl hDj) hm;rw[hDi] at this;simp at this
     ·exact .inr (JM h2 hlr)
  by_cases hip:i=ip
  ·subst hip;obtain⟨h1,h3⟩:=hpan hlt;obtain⟨o,ho',hnd,hgd,he⟩:=h1 (p.st D st ops.size) (by simp[Y6.jH]) hagree;unfold wpOpIn;rw[ho'];simp only;rw[if_pos (K2 hs hgd)];exact hC hnd (he fx γ a w hs hd _ _ λa' w' γ' k1 k2 k3 k4=>⟨_,γ',k1,⟨hg.1.trans k2,hg.2.trans k3⟩,.of k4,h3 D⟩)
  have hnw:((Jv ops.toList).getD i 0).testBit ip=false:=by
   cases hm:((Jv ops.toList).getD i 0).testBit ip with
   | false=>rfl
   | true=>exact absurd rfl (hin ip (T6 hc hin1 (i+1) i (by omega) _ ho (.inr (hpre _ ho)) hm)).2
  have hst:=hstep i hlt hip (λ_=>hnw) (p.st D st ops.size) (by simp[Y6.jH]) hagree;have hins:(p.st D st ops.size).app (p.ws i)=p.st (λj=>D j || decide (j=i)) st ops.size:=Y6.insert p D st i hDi ops.size hlt λj h1 h2 h3=>by
   rcases pair j i h2 h1 with hm|⟨_,_,h3'⟩
   ·exfalso;have hoj:ops[j]?=some ops[j]:=(by grind);have:=T6 hc hin1 (j+1) j (by omega) _ hoj (.inl h3) hm;grind
   ·exact h3'
  rw[hins] at hst;have next:∀(a':Act) (w':World) (γ':Gh),Qs G γ' (p.st (λj=>D j || decide (j=i)) st ops.size) a'.tmps w'->Qe γ w γ' w'->Zf γ (p.st D st ops.size).b (p.st D st ops.size).u γ' (p.st (λj=>D j || decide (j=i)) st ops.size).b (p.st (λj=>D j || decide (j=i)) st ops.size).u->a'.defers=fx.ds->
    wpAnyIn (RF fx.ro) 0 P .any ops (L7 G fx γ0 st w0 Q) G3 (listed.setIfInBounds i true) a' w':=by
   intro a' w' γ' hs' hg' hp' hd';refine ih (λj=>D j || decide (j=i)) (listed.setIfInBounds i true) γ' a' w' (by grind) (λj hj=>?_) (λj hj=>?_) ?_ ?_ hs' ⟨hg.1.trans hg',hg.2.trans hp'⟩ hd'
   ·by_cases hji:j=i
    ·subst hji;have:j < listed.size:=by omega
     simp[this]
    ·have hne:i≠j:=λe=>hji e.symm;have e1:(listed.setIfInBounds i true).getD j true=listed.getD j true:=by simp[Array.getElem?_setIfInBounds_ne hne]
     grind
   ·grind
   ·intro k o hk hok e he hb;simp only[wi,zM] at hk ⊢;rcases hk with hk|rfl
    ·exact .inl (hc k o hk hok e he hb)
    grind
   ·have hmem:i∈(List.range ops.size).filter λj=>!D j:=(by grind)
    have hlt3:((List.range ops.size).filter λj=>!(D j || decide (j=i))).length < ((List.range ops.size).filter λj=>!D j).length:=by
     have e:(List.range ops.size).filter (λj=>!(D j || decide (j=i)))=((List.range ops.size).filter (λj=>!D j)).filter (λj=>!decide (j=i)):=by
      rw[List.filter_filter];congr 1;grind
     grind [Nat.lt_of_le_of_ne,List.length_filter_le,List.length_filter_eq_length_iff]
    omega
  unfold C1 at hst;unfold wpOpIn;rw[ho];rw[ho] at hst;simp only at hst ⊢;rcases hst with⟨hgd,he⟩|⟨hgd,hdst,heq⟩
  ·rw[if_pos (K2 hs hgd)];exact Lj (he ⟨none,a.defers,false⟩ γ a w hs rfl _ _ λ_ _ _ _ _ _ h=>h) (he fx γ a w hs hd _ _ next)
  ·rw[if_neg (by grind [K2])];refine⟨λ_ _=>trivial,next _ w γ ?_ (.refl γ w) ?_ (by rw[X4];exact hd)⟩
   ·rw[heq];exact hs.put hdst (v:=undef) (.Qc [] [] rfl (by grind))
   ·rw[heq];cases ops[i].dst<;>exact Zf.refl hs.u
theorem TV.sV{P:Program}{G:zi}{ops:Array Oper}{id:Nat}{st:St}{Q:Exit->St->Prop}{p:Y6}{ip:Nat}{ex:Exit}{W:List Wr}(hm:P.follows .mixedOrders=true)(hp:p.ok ops=true)
  (hback:(ops.toList.zipIdx.all λx=>x.1.after.all λe=>!Region.binds .any e || decide (e.on < x.2))=true)
  (hstep:∀i,i < ops.size->i≠ip->(ip < ops.size->((Jv ops.toList).getD i 0).testBit ip=false)->A7 P G ops i (p.st (λj=>decide (j < i)) st ops.size) (p.rs i) (p.ws i)) (hq:ops.size<=ip->Q .normal (p.st (λ_=>true) st ops.size))
  (hpan:ip < ops.size->MY P G ops ip (p.st (λj=>decide (j < ip)) st ops.size) (p.rs ip) ex W/\∀D,Q ex ((p.st D st ops.size).app W)) :
  TV P G (.region id ops true) st Q:=λfx γ a w hs hd=>by
 have hs0:Qs G γ st a.tmps { w with drawn:=w.drawn+1 }:=by
  have g:Qe γ w γ { w with drawn:=w.drawn+1 }:=⟨rfl,rfl,rfl,zQ _,λ_ _ _ _ h=>h,λ_ _=>zQ _,(by grind),(by grind)⟩
  have bl:G7 γ st.b st.u γ st.b st.u:=.refl hs.u;refine⟨hs.n,λi=>(hs.t i).mono g bl,λb k hk=>?_,hs.u,hs.g.grow g,hs.o⟩;rcases hs.b b k hk with h0|hm|⟨hM,B,o,cs,e',h1,h2,h3,h4,h5,h6,h7,h8⟩
  ·exact .inl h0
  ·exact .inr (.inl (hm.same rfl (by grind) λc v hr=>hr.mono g bl))
  ·refine .inr (.inr ⟨hM,B,o,cs,e',h1,h2,h3,h4,h5,λi c hc=>?_,h7,h8⟩);obtain⟨v,a1,a2,a3,a4⟩:=h6 i c hc;exact⟨v,a1,a2.mono g bl,a3,a4⟩
 have g0:Qe γ w γ { w with drawn:=w.drawn+1 }:=⟨rfl,rfl,rfl,zQ _,λ_ _ _ _ h=>h,λ_ _=>zQ _,(by grind),(by grind)⟩;refine wpIn_region_any hm ?_;have e0:p.st (λ_=>false) st ops.size=st:=by
  have:∀n,p.st (λ_=>false) st n=st:=λn=>by
   induction n with
   | zero=>rfl
   | succ n ih=>simp[Y6.st,ih]
  exact this _
 refine PH hp (λi o ho e he hb=>?_) hstep hq hpan ops.size (λ_=>false) _ γ a _ (by simp) (λi hi=>by simp[hi]) (λi h=>by simp at h) (λi o h=>by simp at h)
  (by grind) (by grind) ⟨g0,by rw[e0];exact .refl hs.u⟩ hd.1
 have hm':(o,i)∈ops.toList.zipIdx:=by
  grind
 grind [List.all_eq_true,Array.all_eq_true_iff_forall_mem]
theorem TV.draw{P:Program}{G:zi}{ops:Array Oper}{id:Nat}{st:St}{Q:Exit->St->Prop}{p:Y6}(hm:P.follows .mixedOrders=true)(hp:p.ok ops=true)
  (hback:(ops.toList.zipIdx.all λx=>x.1.after.all λe=>!Region.binds .any e || decide (e.on < x.2))=true)
  (hstep:∀i,i < ops.size->A7 P G ops i (p.st (λj=>decide (j < i)) st ops.size) (p.rs i) (p.ws i)) (hq:Q .normal (p.st (λ_=>true) st ops.size)) :
  TV P G (.region id ops true) st Q:=TV.sV (ip:=ops.size) (ex:=.normal) (W:=[]) hm hp hback (λi h _ _=>hstep i h) (λ_=>hq) λh=>absurd h (Nat.lt_irrefl _)
end Go.EV
