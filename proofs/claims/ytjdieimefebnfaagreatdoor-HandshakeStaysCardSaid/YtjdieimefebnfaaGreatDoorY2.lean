/- Part Y2. -/
import Derived.Test.YtjdieimefebnfaaGreatDoorY1
import Derived.OrdersIn
import Derived.Scope
import Derived.Orders
set_option linter.unusedVariables false
set_option linter.unusedSimpArgs false
namespace Go.EV
open Go
theorem FF{v:Value}{c:V}(h:Kv v=some c):c.Zy=true/\c.QM=false:=by
 unfold Kv at h;split at h<;>simp at h<;>subst h<;>exact⟨rfl,rfl⟩
theorem Js:∀{l:List Value} {cs:List V},l.mapM Kv=some cs->∀c,c∈cs->c.Zy=true/\c.QM=false
 | [],cs,h,c,hc=>by grind
 | x :: l,cs,h,c,hc=>by
  simp only[List.mapM_cons,Option.bind_eq_bind,wd,Option.pure_def,zD] at h;obtain⟨c',h1,cs',h2,rfl⟩:=h;rcases zR.1 hc with rfl|hc
  ·exact FF h1
  ·exact Js h2 c hc
theorem MZ{P:Program}{t:TypeId}{cs:List V}(h:zeroV P t=some cs):∀c,c∈cs->c.Zy=true/\c.QM=false:=by
 replace h:=(O7 h).1
 unfold LA at h;split at h
 ·split at h
  ·exact Js h
  ·simp at h
 ·simp at h
theorem Qc.SC{G:zi}{γ:Gh}{st:St}{a:Act}{w:World}(h:Qc G γ st a.tmps w){d:Nat}{cells:List V}{vs:Array Value}{e:TypeId}(hM:cells.length < Y8)(hu:st.u d=false)(hd:d < st.n)
  (hr:U4 γ w st.b st.u cells vs) (hc:∀c,c∈cells->c.Zy=true/\c.QM=false) :
  ∃γ',Qd γ w γ' { w with heap:=w.heap.push (.cells vs e) }/\Zf γ st.b st.u γ' (st.Qu d ⟨cells.length,true,[cells]⟩).b (st.Qu d ⟨cells.length,true,[cells]⟩).u/\
   Qc G γ' ((st.Qu d ⟨cells.length,true,[cells]⟩).QR d (.ptr d 0 0)) (a.put (some d) (.pointer (some ⟨w.heap.size,0,none⟩))).tmps { w with heap:=w.heap.push (.cells vs e) }:=by
 have key:=h.Iz (d:=d) (size:=cells.length) (rows:=[cells]) (cs:=vs) (e:=e) (w1:={ w with heap:=w.heap.push (.cells vs e) }) hM hu rfl ⟨rfl,rfl,rfl⟩ (by simp) (by simp[hr.1]) (λi c hi=>by
  simp only[List.flatten_cons,List.flatten_nil,wL] at hi;have hlt:i < vs.size:=by rw[hr.1];grind
  have hv:vs[i]?=some vs[i]:=(by grind);obtain⟨c1,c2⟩:=hc c (zV hi);exact⟨vs[i],hv,hr.2 i c _ hi hv,(hr.2 i c _ hi hv).ZH c1,c2⟩)
 refine⟨_,key.2.1,key.2.2.Uk,?_⟩;have hp:=key.1.put (a:=a) (dst:=some d) (c:=.ptr d 0 0) (v:=.pointer (some ⟨w.heap.size,0,none⟩)) (by simpa[H9,St.Qu] using hd) (by
  have:=Qy.ptr (γ:=γ.add d w.heap.size) (w:={ w with heap:=w.heap.push (.cells vs e) }) (u:=(st.Qu d ⟨cells.length,true,[cells]⟩).u) (bs:=(st.Qu d ⟨cells.length,true,[cells]⟩).b) d 0 0 w.heap.size 0 ⟨cells.length,true,[cells]⟩ (by simp[St.Qu]) (by simp[Gh.add]) hM;grind)
 exact hp
theorem IJ{P:Program}{G:zi}{o:Oper}{st:St}{elem:TypeId}{d:Nat}{cs:List V}(ho:o.op=.alloc elem)(hd:o.dst=some d)(hn:d < st.n)(hu:st.u d=false)(hz:zeroV P elem=some cs) :
  I9 P G o st ((st.Qu d ⟨cs.length,true,[cs]⟩).QR d (.ptr d 0 0)):=
 M4 λγ a w hs=>by
  obtain⟨z,hz1,hz2⟩:=Uu (P:=P) (γ:=γ) (w:=w) (bs:=st.b) (u:=st.u) hz;obtain⟨γ',g,pn,hs'⟩:=hs.SC (e:=elem) (O7 hz).2 hu hn hz2 (MZ hz);refine⟨_,_,γ',?_,g,pn,by rw[hd];exact hs'⟩;simp[execOp,ho,Instr.alloc,hz1,newVar,newRow]
def RV(c:V):Option (List V):=Fj <|
 match c.cellsOf with
 | some cs=>if cs.all V.Zy then some (cs.map V.strip) else none
 | none=>none
theorem ME{c:V}(h:c.Zy=true):c.strip.Zy=true:=by cases c<;>simp_all [V.Zy,V.strip]
theorem U4.strip{γ:Gh}{w:World}{bs:zj}{u:zl}{cs:List V}{vs:Array Value}(h:U4 γ w bs u cs vs):U4 γ w bs u (cs.map V.strip) vs:=by
 refine⟨by simpa using h.1,λi c v hc hv=>?_⟩;rw[wc,zG] at hc;obtain⟨c',h1,rfl⟩:=hc;exact(h.2 i c' v h1 hv).strip
theorem UJ{c:V}{cs:List V}(h:RV c=some cs){γ:Gh}{w:World}{bs:zj}{u:zl}{v:Value}(hr:Qy γ w bs u c v) :
  U4 γ w bs u cs v.cells/\∀c,c∈cs->c.Zy=true/\c.QM=false:=by
 replace h:=(O7 h).1
 split at h
 ·rename_i cs0 h0;split at h<;>simp at h;rename_i ha;subst h;refine⟨(hr.aZ h0).strip,λc hc=>?_⟩;obtain⟨c',h1,rfl⟩:=zM.1 hc;grind [ME,List.all_eq_true,YW]
 ·simp at h
theorem xW{P:Program}{G:zi}{o:Oper}{st:St}{elem:TypeId}{x:Operand}{d:Nat}{c:V}{cs:List V}(ho:o.op=.box elem x)(hd:o.dst=some d)(hn:d < st.n)(hu:st.u d=false)
  (hx:st.ev G x=some c) (hc:RV c=some cs):I9 P G o st ((st.Qu d ⟨cs.length,true,[cs]⟩).QR d (.ptr d 0 0)):=
 M4 λγ a w hs=>by
  obtain⟨h1,h2⟩:=UJ hc (hs.ev hx);obtain⟨γ',g,pn,hs'⟩:=hs.SC (e:=elem) (O7 hc).2 hu hn h1 h2;refine⟨_,_,γ',?_,g,pn,by rw[hd];exact hs'⟩;simp[execOp,ho,Instr.box,newVar,newRow]
def chunk(s:Nat):Nat->List V->List (List V)
 | 0,_=>[]
 | n+1,l=>l.take s :: chunk s n (l.drop s)
theorem II(s:Nat):∀(n:Nat) (l:List V),l.length=n * s->(chunk s n l).flatten=l/\(chunk s n l).length=n/\∀r,r∈chunk s n l->r.length=s
 | 0,l,h=>by
  have:l=[]:=qh.1 (by simpa using h);subst this;exact⟨rfl,rfl,λr hr=>by simp[chunk] at hr⟩
 | n+1,l,h=>by
  have hl:l.length=n * s+s:=by grind
  obtain⟨h1,h2,h3⟩:=II s n (l.drop s) (by simp[hl]);refine⟨by simp[chunk,h1],by simp[chunk,h2],λr hr=>?_⟩;simp only[chunk,zR] at hr;grind
def XB(z:List V)(n:Nat):List V:=(List.range n).map λi=>z.getD (i % z.length) .undef
theorem PW{γ:Gh}{w:World}{bs:zj}{u:zl}{z:List V}{zv:Array Value}(h:U4 γ w bs u z zv)(n:Nat) :
  U4 γ w bs u (XB z n) ((Array.range n).map (zv[· % zv.size]!)):=by
 refine⟨by simp[XB],λi c v hc hv=>?_⟩;simp only[XB,wc,zG] at hc;obtain⟨j,hj,rfl⟩:=hc;have hlt:i < n:=by
  grind
 have hji:j=i:=by
  grind
 subst hji;simp only[Array.getElem?_map,zG] at hv;obtain⟨k,hk,rfl⟩:=hv;have hkj:k=j:=by
  grind
 subst hkj;rw[<-h.1];by_cases hz:k % zv.size < zv.size
 ·have h1:z[k % zv.size]?=some (z[k % zv.size]'(by rw[<-h.1];exact hz)):=wl _
  have h2:zv[k % zv.size]?=some (zv[k % zv.size]):=(by grind);rw[getElem!_pos zv _ hz]
  have:z.getD (k % zv.size) .undef=z[k % zv.size]'(by grind):=by grind
  rw[this];exact h.2 _ _ _ h1 h2
 ·have:z.getD (k % zv.size) .undef=.undef:=by
   rw[wI,qi (by rw[<-h.1];omega)];rfl
  rw[this];exact .undef _
def Yd(P:Program)(t:TypeId)(n:Nat)(parts:List (Nat×V)):Option Qa:=
 match P.underlying t with
 | some (.slice e)=>match P.info? e,zeroV P e with
  | some ei,some z=>if n * ei.size<=16777216/\ei.size < Y8 then
    match IQ (λi=>some (i * ei.size,ei.size)) (if n * ei.size=0 then [] else XB z (n * ei.size)) parts with
    | some out=>if out.all V.Zy&&out.length==n * ei.size then some ⟨ei.size,true,chunk ei.size n (out.map V.strip)⟩ else none
    | none=>none
   else none
  | _,_=>none
 | _=>none
theorem Us{P:Program}{G:zi}{o:Oper}{st:St}{t:TypeId}{n:Nat}{ps:Array (Nat×Operand)}{d:Nat}{parts:List (Nat×V)}{k:Qa}(ho:o.op=.buildSlice t n ps)(hd:o.dst=some d)(hn:d < st.n)(hu:st.u d=false)
  (hx:∀(γ:Gh) (a:Act) (w:World),Qc G γ st a.tmps w->ps.toList.length=parts.length/\∀(j:Nat) (p:Nat×V) (x:Nat×Value),parts[j]?=some p->(ps.toList.map λy=>(y.1,a.eval y.2))[j]?=some x->p.1=x.1/\Qy γ w st.b st.u p.2 x.2) (hk:Yd P t n parts=some k):I9 P G o st ((st.Qu d k).QR d (.ref d 0 n)):=
 M4 λγ a w hs=>by
  unfold Yd at hk;split at hk
  ·rename_i e hut;split at hk
   ·rename_i ei z hi hz;split at hk
    ·rename_i hsmall;obtain⟨hsmall,hM⟩:=hsmall;split at hk
     ·rename_i out hf;split at hk<;>simp at hk;rename_i hall;subst hk;simp only[zF,beq_iff_eq] at hall;obtain⟨hall,hlen⟩:=hall;obtain⟨zv,hz1,hz2⟩:=Uu (P:=P) (γ:=γ) (w:=w) (bs:=st.b) (u:=st.u) hz;obtain⟨l,hp⟩:=hx γ a w hs;have hp':∀(j:Nat) (p:Nat×V) (x:Nat×Value),parts[j]?=some p->(ps.map λ(i,x)=>(i,a.eval x)).toList[j]?=some x->p.1=x.1/\Qy γ w st.b st.u p.2 x.2:=by
       grind
      have hcr:U4 γ w st.b st.u (if n * ei.size=0 then [] else XB z (n * ei.size)) ((Array.range (n * ei.size)).map ((if n * ei.size=0 then #[] else zv.cells)[· % (if n * ei.size=0 then #[] else zv.cells).size]!)):=by
       by_cases h0:n * ei.size=0
       ·simp only[h0,if_true];exact⟨by simp,(by grind)⟩
       ·simp only[h0,if_false];exact PW hz2 _
      obtain⟨r,hr1,hr2⟩:=Em (γ:=γ) (w:=w) (bs:=st.b) (u:=st.u) _ parts (ps.map λ(i,x)=>(i,a.eval x)).toList _ out _ hf hcr (by simpa using l) hp';obtain⟨c1,c2,c3⟩:=II ei.size n (out.map V.strip) (by simpa using hlen);have hr3:=hr2.strip;have key:=hs.Iz (d:=d) (size:=ei.size) (rows:=chunk ei.size n (out.map V.strip)) (cs:=r) (e:=e) (w1:={ w with heap:=w.heap.push (.cells r e) }) hM hu rfl ⟨rfl,rfl,rfl⟩ c3 (by rw[c2,hr2.1,hlen];grind) (λi c hc=>by
       rw[c1] at hc;have hlt:i < r.size:=by rw[hr3.1];grind
       have hv:r[i]?=some r[i]:=(by grind);obtain⟨c',h1,rfl⟩:=zM.1 (zV hc);exact⟨r[i],hv,hr3.2 i _ _ hc hv,(hr3.2 i _ _ hc hv).ZH (by grind [ME,List.all_eq_true]),YW c'⟩)
      refine⟨.slice (some ⟨w.heap.size,0,none⟩) n n,_,γ.add d w.heap.size,?_,key.2.1,key.2.2.Uk,?_⟩
      ·have hns:¬(n * ei.size > 2 ^ 24):=by omega
       by_cases h0:n * ei.size=0
       ·simp only[h0,if_true] at hr1;simp[execOp,ho,Instr.buildSlice,zL hut,sizeOf,typeInfo,hi,h0,newRow];simp at hr1;rw[hr1];simp
       ·simp only[h0,if_false] at hr1;have hr1':Instr.fill (λi=>some (i * ei.size,ei.size)) (Array.map (λx=>zv.cells[x % zv.cells.size]!) (Array.range (n * ei.size))) (ps.map λ(i,x)=>(i,a.eval x)).toList=some r:=hr1;have hzr : (do let v <- zeroValue e; pure v.cells : Sem (Array Value)).run P w = .ok zv.cells w := by simp [hz1]
        simp only[execOp,ho,Instr.buildSlice,zQ,zL hut,zT,sizeOf,typeInfo,run_program,hi,ww,hns,h0,if_false,Sem.run_ite,hz1,hr1',newRow,run_newObj]
      ·have hb:=key.1.put (a:=a) (dst:=some d) (c:=.ref d 0 n) (v:=.slice (some ⟨w.heap.size,0,none⟩) n n) (by simpa[H9,St.Qu] using hn) (by
        have:=Qy.ref (γ:=γ.add d w.heap.size) (w:={ w with heap:=w.heap.push (.cells r e) }) (bs:=(st.Qu d ⟨ei.size,true,chunk ei.size n (out.map V.strip)⟩).b) (u:=(st.Qu d ⟨ei.size,true,chunk ei.size n (out.map V.strip)⟩).u)
         d 0 n w.heap.size 0 n ⟨ei.size,true,chunk ei.size n (out.map V.strip)⟩ (by simp[St.Qu]) (by simp[Gh.add]) (by simp[c2]) (zN _) ⟨r,e,(0,0),by simp,by rw[hr2.1,hlen];simp⟩ hM (by simp[c2])
        grind)
       rw[hd];exact hb
     ·simp at hk
    ·simp at hk
   ·simp at hk
  ·simp at hk
theorem Xc{P:Program}{G:zi}{o:Oper}{st:St}{t:TypeId}{n:Nat}{ps:Array (Nat×Operand)}{d:Nat}{parts:List (Nat×V)}{k:Qa}(ho:o.op=.buildSlice t n ps)(hd:o.dst=some d)(hn:d < st.n)(hu:st.u d=false)
  (hx:Hy (st.ev G) ps.toList=some parts) (hk:Yd P t n parts=some k):I9 P G o st ((st.Qu d k).QR d (.ref d 0 n)):=
 (by grind [Us,Jv])
def E7(cs:Array Value)(o:Nat):List Value->Array Value
 | []=>cs
 | v :: vs=>E7 (cs.setIfInBounds o v) (o+1) vs
theorem R9:∀(vs:List Value) (o:Nat) (cs:Array Value),o+vs.length<=cs.size->
  (E7 cs o vs).size=cs.size/\∀j:Nat,(E7 cs o vs)[j]?=if o<=j/\j < o+vs.length then vs[j - o]? else cs[j]?
 | [],o,cs,_=>⟨rfl,λj=>by rw[if_neg (by simp)];rfl⟩
 | v :: vs,o,cs,h=>by
  simp only[wO] at h;obtain⟨h1,h2⟩:=R9 vs (o+1) (cs.setIfInBounds o v) (by simp;omega);refine⟨by rw[E7,h1];simp,λj=>?_⟩;rw[E7,h2];grind
theorem D5.unique{w:World}{B:Nat}{cs cs':Array Value}{e e':TypeId}(h:D5 w B cs e)(h':D5 w B cs' e'):cs=cs'/\e=e':=by
 obtain⟨fz,h,_⟩:=h;obtain⟨fz',h',_⟩:=h';grind
def RZ(w:World)(B:Nat):Nat×Nat:=match w.heap[B]? with|some (.cells _ _ fz)=>fz|_=>(0,0)
def World.QQ(w:World)(B:Nat)(cs:Array Value)(e:TypeId):World:={ w with heap:=w.heap.setIfInBounds B (.cells cs e (RZ w B)) }
theorem Ek{w:World}{B:Nat}{cs:Array Value}{e:TypeId}{fz:Nat×Nat}(h:w.heap[B]?=some (.cells cs e fz)):RZ w B=fz:=by
 unfold RZ;rw[h]
theorem Su{w:World}{B o:Nat}{cs:Array Value}{e:TypeId}(h:D5 w B cs e)(v:Value) :
  w.setCell ⟨B,o,none⟩ v=World.QQ w B (cs.setIfInBounds o v) e:=by
 obtain⟨fz,h,_⟩:=h;unfold World.setCell World.QQ;rw[Ek h];congr 1;grind
theorem HB{w:World}{B:Nat}{cs:Array Value}{e:TypeId}(hB:B < w.heap.size):(World.QQ w B cs e).heap[B]?=some (.cells cs e (RZ w B)):=by
 simp[World.QQ,hB]
theorem D5.set{w:World}{B:Nat}{cs cs':Array Value}{e:TypeId}(h:D5 w B cs e)(hs:cs'.size=cs.size):D5 (World.QQ w B cs' e) B cs' e:=by
 have hB:=h.lt;obtain⟨fz,h,hf⟩:=h;exact⟨fz,by rw[HB hB,Ek h],λi hi=>hf i (by omega)⟩
theorem YM{w:World}{B i:Nat}{cs:Array Value}{e:TypeId}(h:i≠B):(World.QQ w B cs e).heap[i]?=w.heap[i]?:=by
 simp only[World.QQ,Array.getElem?_setIfInBounds];grind
theorem RQ(w:World)(B:Nat)(cs:Array Value)(e:TypeId):RZ (World.QQ w B cs e) B=RZ w B:=by
 grind [Nat.lt_or_ge,Ek,HB,Array.getElem?_eq_none,RZ,World.QQ]
theorem Ow(w:World)(B:Nat)(cs cs':Array Value)(e:TypeId):World.QQ (World.QQ w B cs e) B cs' e=World.QQ w B cs' e:=by
 grind [RQ,Array.setIfInBounds_setIfInBounds,World.QQ,RZ]
theorem G8{P:Program}{B o:Nat}{e:TypeId}:∀(vs:List Value) (i:Nat) (w:World) (cs:Array Value),D5 w B cs e->(∀v,v∈vs->v.oneCell'=true)->o+i+vs.length<=cs.size->
  (storeCells ⟨B,o,none⟩ vs i).run P w=.ok () (World.QQ w B (E7 cs (o+i) vs) e)
 | [],i,w,cs,h,_,_=>by
  have:World.QQ w B cs e=w:=by
   obtain⟨fz,h,_⟩:=h;unfold World.QQ;rw[Ek h];have:w.heap.setIfInBounds B (.cells cs e fz)=w.heap:=by
    grind
   rw[this]
  simp[storeCells,E7,this]
 | v :: vs,i,w,cs,h,h1,hl=>by
  simp only[wO] at hl;have hc:w.cell? ⟨B,o+i,none⟩=some (cs[o+i]'(by omega)):=by
   rw[h.cell];grind
  have hf:w.frozen? ⟨B,o+i,none⟩=false:=by
   obtain⟨fz,h,hf⟩:=h;have:=hf (o+i) (by omega);grind [World.frozen?]
  have hst:(store ((⟨B,o,none⟩:Addr).add i) v).run P w=.ok () (World.QQ w B (cs.setIfInBounds (o+i) v) e):=by
   rw[run_store P w _ v .plain (h1 v (by simp)),Addr.add_eq];simp only[hc,hf,Bool.false_eq_true,if_false,Su h]
  have ih:=G8 (P:=P) (B:=B) (o:=o) vs (i+1) (World.QQ w B (cs.setIfInBounds (o+i) v) e) (cs.setIfInBounds (o+i) v) (h.set (by simp)) (by grind) (by simp;omega);rw[Ow] at ih;rw[show storeCells ⟨B,o,none⟩ (v :: vs) i=(store ((⟨B,o,none⟩:Addr).add i) v >>= λ_=>storeCells ⟨B,o,none⟩ vs (i+1)) from rfl,zQ,hst,zT,ih];rfl
theorem Dv{w:World}{B B' o:Nat}{cs:Array Value}{e:TypeId}(h:B'≠B):cellAt (World.QQ w B cs e) B' o=cellAt w B' o:=by
 grind [YM,cellAt,World.cell?]
theorem Qd.QQ{γ:Gh}{w:World}{B:Nat}{cs cs':Array Value}{e:TypeId}{x:M0}(h:D5 w B cs e)(hs:cs'.size=cs.size)(hl:∀o v,o < γ.Qp B->cs[o]?=some v->cs'[o]?=some v)(hown:γ.own B=some x):Qd γ w γ (World.QQ w B cs' e) where
 os:=rfl
 tape:=rfl
 output:=rfl
 size:=by simp[World.QQ]
 PQ:=λB' o v ho hc=>by
  by_cases hb:B'=B
  ·subst hb;rw[(h.set hs).cellAt];rw[h.cellAt] at hc;grind
  grind [Dv]
 Qp:=λ_ _=>zN _
 free:=λB' hB ho=>⟨(by grind [YM]),ho,rfl⟩
 room:=λB' cs2 e2 fz hc=>by
  by_cases hb:B'=B
  ·subst hb;have hB:=h.lt;obtain⟨fz',h,_⟩:=h;rw[h] at hc;simp only[zD,Obj.cells.injEq] at hc;obtain⟨rfl,rfl,rfl⟩:=hc;exact⟨cs',_,by rw[HB hB,Ek h],hs,.inl rfl⟩
  ·exact⟨cs2,fz,by grind [YM],rfl,.inl rfl⟩
theorem Qc.Ax{G:zi}{γ:Gh}{st:St}{tmps:Array Value}{w:World}(h:Qc G γ st tmps w){b:Nat}{k:Qa}(hk:st.b b=some k)(hM:k.size < Y8){B o:Nat}{cs cs':Array Value}{e:TypeId}{rows':List (List V)}
  (hloc:γ.loc b=some (B,o)) (hown:γ.own B=some (.Zp b)) (hheap:D5 w B cs e) (hsz:cs'.size=cs.size) (hlim:γ.Qp B=0)
  (hrows:∀r,r∈rows'->r.length=k.size) (hlen:rows'.length=k.rows.length) (hroom:o+k.rows.length * k.size<=cs.size)
  (hcells:∀(i:Nat) (c:V),rows'.flatten[i]?=some c->∃v,cs'[o+i]?=some v/\Qy γ w st.b st.u c v/\v.oneCell'=true/\D6 γ w (.nest b (i / k.size) (i % k.size)) c v) :
  Qc G γ (st.Qu b ⟨k.size,k.Ql,rows'⟩) tmps (World.QQ w B cs' e)/\Qd γ w γ (World.QQ w B cs' e)/\G6 γ st.b st.u γ (st.Qu b ⟨k.size,k.Ql,rows'⟩).b (st.Qu b ⟨k.size,k.Ql,rows'⟩).u:=by
 have g:Qd γ w γ (World.QQ w B cs' e):=(by grind [Qd.QQ])
 have hu:=h.u b k hk
 have bl:G6 γ st.b st.u γ (st.Qu b ⟨k.size,k.Ql,rows'⟩).b (st.Qu b ⟨k.size,k.Ql,rows'⟩).u:=by
  refine⟨(by grind [St.Qu]),λb' hb hn=>?_,λb' k' hk'=>?_⟩
  ·have:b'≠b:=(by grind);simp_all [if_neg,St.Qu]
  ·by_cases hb:b'=b
   ·subst hb;rw[hk] at hk';simp only[zD] at hk';subst hk';exact⟨by simp[St.Qu],.inr ⟨⟨k.size,k.Ql,rows'⟩,by simp[St.Qu],rfl,λ_=>hlen,rfl⟩⟩
   ·exact⟨by simp only[St.Qu];rw[if_neg hb];exact h.u b' k' hk',.inr ⟨k',by simp_all [if_neg,St.Qu],rfl,λ_=>rfl,rfl⟩⟩
 have hB:B < w.heap.size:=h.o B _ hown;refine⟨⟨h.n,λi=>(h.t i).mono g bl,λb' k' hk'=>?_,λb' k' hk'=>?_,h.g.grow g,λB' x hx=>by simpa[World.QQ] using h.o B' x hx⟩,g,bl⟩
 ·simp only[St.Qu] at hk';by_cases hb:b'=b
  ·subst hb;rw[if_pos rfl] at hk';simp only[zD] at hk';subst hk';refine .inr (.inr ⟨hM,B,o,cs',e,hloc,hown,hheap.set hsz,hrows,by grind,λi c hc=>?_,λ_=>hlim,by grind⟩);obtain⟨v,h1,h2,h3,h4⟩:=hcells i c hc;exact⟨v,h1,h2.mono g bl,h3,h4.grow g⟩
  ·rw[if_neg hb] at hk';rcases h.b b' k' hk' with⟨v1,v2⟩|hm|⟨hM2,B2,o2,cs2,e2,h1,h2,h3,h4,h5,h6,h7,h8⟩
   ·exact .inl ⟨v1,v2⟩
   ·exact .inr (.inl (hm.same rfl (by grind [YM,Option.some.injEq,M0.Zp.injEq]) λc v hr=>hr.mono g bl))
   have hne:B2≠B:=(by grind);refine .inr (.inr ⟨hM2,B2,o2,cs2,e2,h1,h2,h3.of_eq (YM hne),h4,h5,λi c hc=>?_,h7,h8⟩);obtain⟨v,a1,a2,a3,a4⟩:=h6 i c hc;exact⟨v,a1,a2.mono g bl,a3,a4.grow g⟩
 ·simp only[St.Qu] at hk' ⊢;by_cases hb:b'=b
  ·subst hb;simp
  ·rw[if_neg hb] at hk';rw[if_neg hb];exact h.u b' k' hk'
def Zc(P:Program)(t:TypeId)(k:Qa)(i off:Nat)(c:V):Option Qa:=
 match P.info? t,RV c,k.rows[i]? with
 | some ti,some cs,some r=>if ti.size=cs.length/\off+cs.length<=k.size/\k.Ql=true then some ⟨k.size,k.Ql,k.rows.set i (N7 r off cs)⟩ else none
 | _,_,_=>none
theorem PC(r:List V)(off:Nat)(cs:List V)(h:off+cs.length<=r.length)(j:Nat) :
  (N7 r off cs)[j]?=if off<=j/\j < off+cs.length then cs[j - off]? else r[j]?:=by
 unfold N7;have lt:(r.take off).length=off:=by simp;omega
 grind
theorem JW(r:List V)(off:Nat)(cs:List V)(h:off+cs.length<=r.length):(N7 r off cs).length=r.length:=by
 simp[N7];omega
def iX(G:zi)(st:St)(x:Operand)(c:V):Prop:=∀(γ:Gh) (a:Act) (w:World),Qc G γ st a.tmps w->Qy γ w st.b st.u c (a.eval x)
theorem Wb{P:Program}{G:zi}{o:Oper}{st:St}{t:TypeId}{x y:Operand}{b i off:Nat}{c:V}{k k':Qa}(ho:o.op=.store t x y)(hd:o.dst=none)
    (hx:iX G st x (.ptr b i off)) (hy:iX G st y c) (hk:st.b b=some k) (hs:Zc P t k i off c=some k'):I9 P G o st (st.Qu b k'):=
  Df λγ a w hsim=>by
    unfold Zc at hs;split at hs
    · rename_i ti cs r hti hcs Wl
      split at hs<;>simp at hs;rename_i hb;subst hs;obtain⟨hsz,hoff,hex⟩:=hb;obtain⟨B,o',hv,hl⟩:=(hx γ a w hsim).Zk hk;have hM:=(hx γ a w hsim).Za hk;obtain⟨hcr,hcell⟩:=UJ hcs (hy γ a w hsim);rcases hsim.b b k hk with⟨v1,_⟩|hm|⟨_,B2,o2,cs2,e2,h1,h2,h3,h4,h5,h6,h7,h8⟩
      · grind
      · exact(hm.small hM).elim
      rw[hl] at h1;simp only[zD,zO] at h1;obtain⟨rfl,rfl⟩:=h1;have hi:i < k.rows.length:=(by grind);have hrl:=h4 r (zV Wl);have hin:(i+1) * k.size<=k.rows.length * k.size:=wM _ hi;rw[wB] at hin;have hvl:(a.eval y).cells.toList.length=cs.length:=by simpa using hcr.1
      have hone:∀v,v∈(a.eval y).cells.toList->v.oneCell'=true:=λv hv=>by
        obtain⟨j,hj,rfl⟩:=List.getElem_of_mem hv;have hjc:j < cs.length:=by grind
        have:=hcr.2 j cs[j] _ (by grind) (by rw[wm (by simpa using hj)]);exact this.ZH (by grind)
      have hrun:=G8 (P:=P) (B:=B) (o:=o'+(i * k.size+off)) (e:=e2) (a.eval y).cells.toList 0 w cs2 h3 hone (by grind);obtain⟨r1,r2⟩:=R9 (a.eval y).cells.toList (o'+(i * k.size+off)+0) cs2 (by rw[hvl];omega)
      have key:=hsim.Ax (cs':=E7 cs2 (o'+(i * k.size+off)+0) (a.eval y).cells.toList) (rows':=k.rows.set i (N7 r off cs)) hk hM hl h2 h3 r1 (h7 hex)
        (λq hq=>by
          rcases List.mem_or_eq_of_mem_set hq with hq|rfl
          · exact h4 q hq
          grind [JW])
        (by simp) h5 (λidx c' hc'=>by
          rcases qc k.size with hz|hpos
          · exfalso
            have:((k.rows.set i (N7 r off cs)).flatten)=[]:=by
              rw[List.flatten_eq_nil_iff];intro q hq;have:q.length=k.size:=by
                rcases List.mem_or_eq_of_mem_set hq with hq|rfl
                · exact h4 q hq
                grind [JW]
              grind
            rw[this] at hc';simp at hc'
          · have e:idx=(idx / k.size) * k.size+idx % k.size:=by rw[wQ];exact(Nat.div_add_mod idx k.size).symm
            have hm:=Nat.mod_lt idx hpos
            have hall:∀q,q∈k.rows.set i (N7 r off cs)->q.length=k.size:=λq hq=>by
              rcases List.mem_or_eq_of_mem_set hq with hq|rfl
              · exact h4 q hq
              · rw[JW r off cs (by omega),hrl]
            have hget:=U9 _ hall (idx / k.size) (idx % k.size) hm;rw[<-e,hc'] at hget;rw[r2,hvl];by_cases hq:idx / k.size=i
            · rw[hq,List.getElem?_set_self hi] at hget
              simp only[wY] at hget;rw[PC r off cs (by omega)] at hget;rw[hq] at e;by_cases hin2:off<=idx % k.size/\idx % k.size < off+cs.length
              · rw[if_pos hin2] at hget
                rw[if_pos (by omega)];have hj:idx % k.size - off < (a.eval y).cells.toList.length:=by rw[hvl];omega
                refine⟨(a.eval y).cells.toList[idx % k.size - off],?_,?_,hone _ (List.getElem_mem hj),.QP (hcell c' (zV hget.symm)).2⟩
                · rw[show o'+idx - (o'+(i * k.size+off)+0)=idx % k.size - off by omega]
                  exact wl hj
                · exact hcr.2 (idx % k.size - off) c' _ hget.symm (by rw[wm (by simpa using hj)];simp)
              · rw[if_neg hin2] at hget
                rw[if_neg (by omega)];exact h6 idx c' (by rw[e,U9 k.rows h4 i (idx % k.size) hm,Wl];exact hget.symm)
            · rw[List.getElem?_set_ne (λx=>hq x.symm)] at hget
              have hno:¬(o'+(i * k.size+off)+0<=o'+idx/\o'+idx < o'+(i * k.size+off)+0+cs.length):=by
                intro hc;apply hq;have a1:i * k.size<=idx:=by omega
                have a2:idx < (i+1) * k.size:=by rw[wB];omega
                exact Nat.div_eq_of_lt_le a1 a2
              rw[if_neg hno];exact h6 idx c' (by rw[e,U9 k.rows h4 _ (idx % k.size) hm];exact hget.symm))
      refine⟨_,γ,?_,key.2.1,key.2.2.Uk,by rw[hd];exact key.1⟩;have hsize:¬((a.eval y).cells.size≠ti.size):=by rw[hcr.1,hsz];simp
      simp only[execOp,ho,Instr.storeAt,hv,Instr.sureAddr,storeVar,sizeOf,typeInfo,hti,zQ,run_program,ww,zT,Sem.run_ite,hsize,if_false,hrun]
    · simp at hs
theorem Bc{P:Program}{G:zi}{o:Oper}{st:St}{t:TypeId}{x y:Operand}{b i off:Nat}{c:V}{k k':Qa}(ho:o.op=.store t x y)(hd:o.dst=none)
  (hx:st.ev G x=some (.ptr b i off)) (hy:st.ev G y=some c) (hk:st.b b=some k) (hs:Zc P t k i off c=some k'):I9 P G o st (st.Qu b k'):=
 Wb ho hd (λ_ _ _ h=>h.ev hx) (λ_ _ _ h=>h.ev hy) hk hs
def RF(ro:Option Nat):Fence:={ Fence.wide with round:=ro }
theorem RF.room(ro:Option Nat)(n:Nat):(RF ro).room n:=λ_ h=>by simp[RF,Fence.wide] at h
theorem RF.fenced(ro:Option Nat)(P:Program)(m:Machine):m.fenced P (RF ro):=fenced_wide P m
abbrev CW(ro:Option Nat)(P:Program)(c:Code)(Q:Exit->Act->World->Prop)(a:Act)(w:World):Prop:=c.wpIn (RF ro) 0 P Q a w
theorem RR{ro:Option Nat}{P:Program}{f:FuncId}{args:Array Value}{w:World}{R:Ending->World->Prop}(h:Calls P f args w R):CallsIn (RF ro) 0 P f args w R:=(callsIn_wide (n:=0)).2 h
theorem lG{ro:Option Nat}{P:Program}{row:String}{args:Array Value}{w:World}{R:Value->World->Prop}(h:Rows P row args w R):RowsIn (RF ro) 0 P row args w R:=
 λc cs _=>let ⟨v,w',r,s⟩:=h c cs;⟨v,w',r,stepsIn_wide.2 s⟩
theorem Cu{ro:Option Nat}{P:Program}{o:Oper}{a:Act}{next:Act->World->Prop}{Q:Exit->Act->World->Prop}:∀{r:Result Next},o.upon P a next Q r->o.uponIn (RF ro) 0 P a next Q r
 | .ok (.value _) _,h=>h
 | .ok .skip _,h=>h
 | .ok (.defer _) _,h=>h
 | .ok (.enter _ _) _,h=>⟨(by grind [RF,Fence.wide]),RR h⟩
 | .ok (.row _ _) _,h=>⟨(by grind [RF,Fence.wide]),lG h⟩
 | .halt (.panic _) _,h=>h
theorem Lh{ro:Option Nat}{P:Program}{o:Oper}{a:Act}{w:World}{next:Act->World->Prop}{Q:Exit->Act->World->Prop}
  (h0:o.wp P a w (λa' _=>a'.defers=a.defers) (λ_ _ _=>False)) (h:o.wp P a w next Q):o.wpIn (RF ro) 0 P a w next Q:=by
 refine⟨λ_ _=>trivial,?_⟩;have hnd:∀c,o.op≠.defer c:=by
  intro c hc;unfold Oper.wp at h0;have e : execOp a.eval o = (do let d <- resolve a.eval c o.type; pure (Next.defer d)) := by
   unfold execOp;rw[hc]
  rw[e,zQ] at h0;cases hr:(resolve a.eval c o.type).run P w with
  | ok d w'=>
   rw[hr,zT] at h0;have h1:({ a with defers:=d :: a.defers }.put o.dst undef).defers=a.defers:=h0;simp_all [X2]
  | halt x w'=>
   rw[hr] at h0;cases x<;>first|exact h0|exact h0.elim
 rw[Oper.semAt_eq _ _ _ hnd];exact Cu h
theorem kE{ro:Option Nat}{P:Program}{o:Oper}{a:Act}{w:World}{next:Act->World->Prop}{Q:Exit->Act->World->Prop}
  (hnd:∀c,o.op≠.defer c) (h:o.wp P a w next Q):o.wpIn (RF ro) 0 P a w next Q:=
 ⟨λ_ _=>trivial,by rw[Oper.semAt_eq _ _ _ hnd];exact Cu h⟩
section
variable {ro:Option Nat} {P:Program} {Q:Exit->Act->World->Prop} {a:Act} {w:World}
theorem S8{b:Frame}{k:List Item}{cs:List Frame}{c:Code}:step P (lone (b.atR a (.code (.scope c) :: k)) cs w)=.next (lone (b.atR a (.code c :: .inScope c :: k)) cs w):=
 step_lone_go (by simp[stepG,stepG.exec,Frame.atR])
theorem Oj{b:Frame}{k:List Item}{cs:List Frame}{c:Code}:step P (lone (b.atR a (.inScope c :: k)) cs w)=.next (lone (b.atR a k) cs w):=
 step_lone_go (by simp[stepG,stepG.exec,Frame.atR])
theorem Ea{c:Code}(h:CW ro P c (Exit.noGoto Q) a w):CW ro P (.scope c) Q a w:=by
 intro b k cs hro hb hr;have h0:(lone (b.atR a (.code (.scope c) :: k)) cs w).fenced P (RF ro):=RF.fenced _ _ _;obtain⟨e,a₁,w₁,hq,harr⟩:=h b (.inScope c :: k) cs hro hb hr;cases e with
 | normal=>exact⟨.normal,a₁,w₁,hq,.head h0 S8 (StepsIn.trans harr (.one (RF.fenced _ _ _) Oj))⟩
 | exit id=>
  have hx:exitTo id (.inScope c :: k)=exitTo id k:=by simp[exitTo]
  exact⟨.exit id,a₁,w₁,hq,λk' hk=>.head h0 S8 (harr.1 k' (by grind)),
   λhr' hk=>let ⟨k₁,h1,h2⟩:=harr.2 hr' (by grind);⟨k₁,h1,.head h0 S8 h2⟩⟩
 | goto l=>exact hq.elim
 | ret=>exact⟨_,a₁,w₁,hq,.of_steps (.one h0 S8) harr⟩
 | panic ch=>exact⟨_,a₁,w₁,hq,.of_steps (.one h0 S8) harr⟩
 | outgrown=>exact⟨_,a₁,w₁,hq,.of_steps (.one h0 S8) harr⟩
def GO(ro:Option Nat)(P:Program)(c:Code)(Q:Exit->Act->World->Prop)(a:Act)(w:World):Prop:=
 ∀(b:Frame) (k:List Item) (cs:List Frame),b.roundOf=ro->∃e a' w',Q e a' w'/\ArrivesIn (Machine.fenced P (RF ro)) P (lone (b.atR a (.inLoop c :: k)) cs w) b k cs e a' w'
theorem KX{c:Code}{m:Frame->List Item->List Frame->Machine}
  (hm:∀b k cs,StepsIn (Machine.fenced P (RF ro)) P (m b k cs) (lone (b.atR a (.code c :: .inLoop c :: k)) cs w)) (h:CW ro P c (Exit.then (GO ro P c Q) Q) a w) :
  ∀(b:Frame) (k:List Item) (cs:List Frame),b.roundOf=ro->∃e a' w',Q e a' w'/\ArrivesIn (Machine.fenced P (RF ro)) P (m b k cs) b k cs e a' w':=by
 intro b k cs hro;obtain⟨e,a₁,w₁,hq,harr⟩:=h b (.inLoop c :: k) cs hro trivial (RF.room _ _);cases e with
 | normal=>
  obtain⟨e₂,a₂,w₂,hq₂,harr₂⟩:=hq b k cs hro;exact⟨e₂,a₂,w₂,hq₂,.of_steps (StepsIn.trans (hm b k cs) harr) harr₂⟩
 | exit id=>exact⟨_,a₁,w₁,hq,.of_steps (hm b k cs) (.pass (x:=.inLoop c) rfl (λ_ _=>.inl (by simp)) harr)⟩
 | goto l=>exact⟨_,a₁,w₁,hq,.of_steps (hm b k cs) (.pass (x:=.inLoop c) rfl (λ_ _=>.inl (by simp)) harr)⟩
 | ret=>exact⟨_,a₁,w₁,hq,.of_steps (hm b k cs) (.pass (x:=.inLoop c) rfl (λ_ _=>.inl (by simp)) harr)⟩
 | panic ch=>exact⟨_,a₁,w₁,hq,.of_steps (hm b k cs) (.pass (x:=.inLoop c) rfl (λ_ _=>.inl (by simp)) harr)⟩
 | outgrown=>exact⟨_,a₁,w₁,hq,.of_steps (hm b k cs) (.pass (x:=.inLoop c) rfl (λ_ _=>.inl (by simp)) harr)⟩
theorem Ei{c:Code}(h:CW ro P c (Exit.then (GO ro P c Q) Q) a w):CW ro P (.loop c) Q a w:=λb k cs hro _ _=>
 KX (m:=λb k cs=>lone (b.atR a (.code (.loop c) :: k)) cs w) (λ_ _ _=>.one (RF.fenced _ _ _) stepR_loop) h b k cs hro
theorem Lc{c:Code}(h:CW ro P c (Exit.then (GO ro P c Q) Q) a w):GO ro P c Q a w:=
 KX (m:=λb k cs=>lone (b.atR a (.inLoop c :: k)) cs w) (λ_ _ _=>.one (RF.fenced _ _ _) stepR_inLoop) h
theorem qK{Q':Exit->Act->World->Prop}{c:Code}(h:GO ro P c Q a w)(hq:∀e a w,Q e a w->Q' e a w):GO ro P c Q' a w:=λb k cs hro=>by
 obtain⟨e,a',w',h1,h2⟩:=h b k cs hro;grind
theorem RE{c:Code}(I:Nat->Act->World->Prop)
  (round:∀n a w,I n a w->CW ro P c (Exit.then (λa' w'=>∃m,m < n/\I m a' w') Q) a w):∀(n:Nat) (a:Act) (w:World),I n a w->CW ro P (.loop c) Q a w:=by
 intro n;induction n using Nat.strongRecOn with
 | _ n ih=>
  intro a w hI;have key:∀n a w,I n a w->GO ro P c Q a w:=by
   intro n;induction n using Nat.strongRecOn with
   | _ n ih=>exact λa w hI=>Lc (wpIn_mono (round n a w hI) λe a' w' hq=>by
     cases e with
     | normal=>obtain⟨m,hm,h⟩:=hq;exact ih m hm a' w' h
     | _=>exact hq)
  exact Ei (wpIn_mono (round n a w hI) λe a' w' hq=>by
   cases e with
   | normal=>obtain⟨m,hm,h⟩:=hq;exact key m a' w' h
   | _=>exact hq)
theorem H7{F:Fence}{n:Nat}{ops:Array Oper}{Q Q':Exit->Act->World->Prop}(hq:∀e a w,Q e a w->Q' e a w):∀(l:List Nat) (a:Act) (w:World),wpOpsIn F n P ops Q l a w->wpOpsIn F n P ops Q' l a w
 | [],a,w,h=>hq _ _ _ h
 | i :: rest,a,w,h=>by
  simp only[wpOpsIn] at h ⊢;split
  ·rename_i hi;rw[hi] at h;exact H7 hq rest a w h
  ·rename_i o hi;rw[hi] at h;simp only at h ⊢;split
   ·rename_i hw;rw[if_pos hw] at h;refine⟨h.1,?_⟩;have h:=h.2;unfold Oper.uponIn at h ⊢;split at h
    ·exact H7 hq rest _ _ h
    ·exact H7 hq rest _ _ h
    ·exact H7 hq rest _ _ h
    ·refine⟨h.1,CallsIn.mono h.2 λe w' hr=>?_⟩;cases e with
     | returned v=>exact H7 hq rest _ _ hr
     | panicked ch=>grind
     | outgrown=>obtain⟨a0,w0,h2⟩:=hr;exact⟨a0,w0,hq _ _ _ h2⟩
    ·exact⟨h.1,RowsIn.mono h.2 λv w' hr=>H7 hq rest _ _ hr⟩
    ·refine⟨h.1,RoundIn.mono h.2 λe w' hr=>?_⟩;cases e with
     | returned v=>exact H7 hq rest _ _ hr
     | panicked ch=>grind
     | outgrown=>obtain⟨a0,w0,h2⟩:=hr;exact⟨a0,w0,hq _ _ _ h2⟩
    ·grind
    grind
   ·rename_i hw;rw[if_neg hw] at h;exact⟨h.1,H7 hq rest _ _ h.2⟩
end
def Yb(D:Nat):Deferred:={ target:=.collected D,args:=#[] }
def Marks(mk:Bool)(w:World)(γ':Gh)(w':World)(ds ds':List Deferred):Prop:=
 ∃Ds:List Nat,(mk=false->Ds=[])/\ds'=Ds.map Yb++ds/\Ds.Nodup/\∀D,D∈Ds->w.heap.size<=D/\w'.heap[D]?=some (.deferred (some []))/\γ'.own D=none
theorem Marks.of{mk:Bool}{w w':World}{γ':Gh}{ds ds':List Deferred}(h:ds'=ds):Marks mk w γ' w' ds ds':=⟨[],λ_=>rfl,by simpa using h,by simp,λD hD=>by simp at hD⟩
theorem Marks.start{mk:Bool}{w w1 w':World}{γ':Gh}{ds ds':List Deferred}(h:Marks mk w1 γ' w' ds ds')(hw:w.heap.size<=w1.heap.size):Marks mk w γ' w' ds ds':=by
 obtain⟨Ds,h0,h1,h2,h3⟩:=h;exact⟨Ds,h0,h1,h2,(by grind)⟩
theorem Marks.trans{mk:Bool}{w w1 w2:World}{γ1 γ2:Gh}{ds ds1 ds2:List Deferred}(h:Marks mk w γ1 w1 ds ds1)(g:Qd γ1 w1 γ2 w2)(k:Marks mk w1 γ2 w2 ds1 ds2)(hw:w.heap.size<=w1.heap.size):Marks mk w γ2 w2 ds ds2:=by
 obtain⟨Ds,h0,h1,h2,h3⟩:=h;obtain⟨Es,k0,k1,k2,k3⟩:=k;have lt:∀D,D∈Ds->D < w1.heap.size:=(by grind);refine⟨Es++Ds,(by grind),by grind,List.nodup_append.2 ⟨k2,h2,λx hx y hy e=>?_⟩,λD hD=>?_⟩
 ·grind
 ·rcases wk.1 hD with hD|hD
  ·grind
  ·obtain⟨a1,a2,a3⟩:=h3 D hD;obtain⟨b1,b2,_⟩:=g.free D (lt D hD) a3;grind
def F0(G:zi)(fx:Fx)(γ:Gh)(st:St)(w:World)(Q:Exit->St->Prop)(e:Exit)(a':Act)(w':World):Prop:=
 ∃st' γ',Qc G γ' st' a'.tmps w'/\(Qd γ w γ' w'/\Zf γ st.b st.u γ' st'.b st'.u)/\Marks fx.mx w γ' w' fx.ds a'.defers/\Q e st'
def UK(fx:Fx)(γ:Gh)(ds:List Deferred)(w:World):Prop:=
 ds=fx.ds/\fx.mx=true/\∀l,fx.ro=some l->(∃r,w.heap[l]?=some (.loop r))/\γ.own l=none
theorem UK.grow{fx:Fx}{γ γ':Gh}{ds ds':List Deferred}{w w':World}(h:UK fx γ ds w)(g:Qd γ w γ' w')(hd:ds'=fx.ds):UK fx γ' ds' w':=
 ⟨hd,h.2.1,λl hl=>by
  obtain⟨⟨r,h1⟩,h2⟩:=h.2.2 l hl;obtain⟨g1,g2,_⟩:=g.free l (by grind) h2;grind⟩
theorem UK.step{fx:Fx}{γ γ':Gh}{ds ds':List Deferred}{w w':World}(h:UK fx γ ds w)(g:Qd γ w γ' w'):UK ⟨fx.ro,ds',fx.mx⟩ γ' ds' w':=
 ⟨rfl,(h.grow g h.1).2⟩
theorem UK.free{ds:List Deferred}(γ:Gh)(w:World):UK ⟨none,ds,true⟩ γ ds w:=⟨rfl,rfl,λ_ h=>by simp at h⟩
def TV(P:Program)(G:zi)(c:Code)(st:St)(Q:Exit->St->Prop):Prop:=
 ∀(fx:Fx) (γ:Gh) (a:Act) (w:World),Qc G γ st a.tmps w->UK fx γ a.defers w->CW fx.ro P c (F0 G fx γ st w Q) a w
def DX(next:St->Prop)(Q:Exit->St->Prop):Exit->St->Prop
 | .normal,st=>next st
 | e,st=>Q e st
def Yh(id:Nat)(Q:Exit->St->Prop):Exit->St->Prop
 | .exit id',st=>if id'=id then Q .normal st else Q (.exit id') st
 | e,st=>Q e st
section
variable {P:Program} {G:zi} {st:St} {Q:Exit->St->Prop}
theorem F0.mono{fx:Fx}{γ:Gh}{w:World}{Q Q':Exit->St->Prop}{e:Exit}{a:Act}{w':World}(h:F0 G fx γ st w Q e a w')(hq:∀e st,Q e st->Q' e st):F0 G fx γ st w Q' e a w':=
 let ⟨st',γ',h1,h2,h3,h4⟩:=h;⟨st',γ',h1,h2,h3,hq _ _ h4⟩
theorem F0.grow{fx:Fx}{γ γ1:Gh}{st1:St}{w w1:World}{e:Exit}{a:Act}{w':World}(g:Qd γ w γ1 w1/\Zf γ st.b st.u γ1 st1.b st1.u)(h:F0 G fx γ1 st1 w1 Q e a w'):F0 G fx γ st w Q e a w':=
 let ⟨st',γ',h1,h2,h3,h4⟩:=h;⟨st',γ',h1,⟨g.1.trans h2.1,g.2.trans h2.2⟩,h3.start g.1.size,h4⟩
theorem F0.Ln{fx:Fx}{ds1:List Deferred}{γ γ1:Gh}{st1:St}{w w1:World}{e:Exit}{a:Act}{w':World}(g:Qd γ w γ1 w1/\Zf γ st.b st.u γ1 st1.b st1.u)(hm:Marks fx.mx w γ1 w1 fx.ds ds1)(h:F0 G ⟨fx.ro,ds1,fx.mx⟩ γ1 st1 w1 Q e a w'):F0 G fx γ st w Q e a w':=
 let ⟨st',γ',h1,h2,h3,h4⟩:=h;⟨st',γ',h1,⟨g.1.trans h2.1,g.2.trans h2.2⟩,hm.trans h2.1 h3 g.1.size,h4⟩
theorem TV.mono{c:Code}{Q':Exit->St->Prop}(h:TV P G c st Q)(hq:∀e st,Q e st->Q' e st):TV P G c st Q':=
 λfx γ a w hs hd=>wpIn_mono (h fx γ a w hs hd) λ_ _ _ hl=>hl.mono hq
theorem TV.skip(h:Q .normal st):TV P G .skip st Q:=λ_ γ _ w hs hd=>wpIn_skip ⟨st,γ,hs,⟨.refl γ w,.refl hs.u⟩,.of hd.1,h⟩
theorem TV.seq{x y:Code}(h:TV P G x st (DX (λst=>TV P G y st Q) Q)):TV P G (.seq x y) st Q:=λfx γ a w hs hd=>by
 refine wpIn_seq (wpIn_mono (h fx γ a w hs hd) λe a' w' hl=>?_);obtain⟨st',γ',h1,h2,h3,h4⟩:=hl;cases e with
 | normal=>exact wpIn_mono (h4 ⟨fx.ro,a'.defers,fx.mx⟩ γ' a' w' h1 (hd.step h2.1)) λ_ _ _ hl=>hl.Ln h2 h3
 | _=>exact⟨st',γ',h1,h2,h3,h4⟩
theorem TV.cond{c:Operand}{x y:Code}{t:Bool}(hc:st.ev G c=some (.bool t))(h:TV P G (if t then x else y) st Q):TV P G (.cond c x y) st Q:=λfx γ a w hs hd=>
 wpIn_cond ((hs.ev hc).QN) (h fx γ a w hs hd)
theorem TV.block{id:Nat}{c:Code}(h:TV P G c st (Yh id Q)):TV P G (.block id c) st Q:=λfx γ a w hs hd=>by
 refine wpIn_block (wpIn_mono (h fx γ a w hs hd) λe a' w' hl=>?_);obtain⟨st',γ',h1,h2,h3,h4⟩:=hl;cases e with
 | exit id'=>
  simp only[Yh] at h4;simp only[Exit.inBlock];split
  ·rename_i he;rw[if_pos he] at h4;exact⟨st',γ',h1,h2,h3,h4⟩
  ·rename_i he;rw[if_neg he] at h4;exact⟨st',γ',h1,h2,h3,h4⟩
 | _=>exact⟨st',γ',h1,h2,h3,h4⟩
theorem TV.scope{c:Code}(h:TV P G c st Q)(hq:∀l st,¬Q (.goto l) st):TV P G (.scope c) st Q:=λfx γ a w hs hd=>by
 refine Ea (wpIn_mono (h fx γ a w hs hd) λe a' w' hl=>?_);cases e with
 | goto l=>obtain⟨st',_,_,_,_,h4⟩:=hl;grind
 | _=>exact hl
end
theorem TV.loop{P:Program}{G:zi}{Q:Exit->St->Prop}{c:Code}(I:Nat->St->Prop)
  (round:∀n st,I n st->TV P G c st (DX (λst'=>∃m,m < n/\I m st') Q)) {n:Nat} {st:St} (h:I n st):TV P G (.loop c) st Q:=λfx γ a w hs hd=>by
 refine RE (λn a' w'=>∃st' γ',I n st'/\Qc G γ' st' a'.tmps w'/\(Qd γ w γ' w'/\Zf γ st.b st.u γ' st'.b st'.u)/\Marks fx.mx w γ' w' fx.ds a'.defers) (λn a' w' hI=>?_) n a w ⟨st,γ,h,hs,⟨.refl γ w,.refl hs.u⟩,.of hd.1⟩;obtain⟨st',γ',h1,h2,h3,h4⟩:=hI;refine wpIn_mono (round n st' h1 ⟨fx.ro,a'.defers,fx.mx⟩ γ' a' w' h2 (hd.step h3.1)) λe a2 w2 hl=>?_;obtain⟨st2,γ2,k1,k2,k3,k4⟩:=hl;cases e with
 | normal=>obtain⟨m,hm,hI⟩:=k4;exact⟨m,hm,st2,γ2,hI,k1,⟨h3.1.trans k2.1,h3.2.trans k2.2⟩,h4.trans k2.1 k3 h3.1.size⟩
 | _=>exact⟨st2,γ2,k1,⟨h3.1.trans k2.1,h3.2.trans k2.2⟩,h4.trans k2.1 k3 h3.1.size,k4⟩
def M9(ops:Array Oper)(st:St)(o:Oper):Option Bool:=
 match o.guard with
 | none=>some true
 | some (j,want)=>match (ops[j]?).bind (·.dst) with
  | some d=>if d < st.n then (match st.t d with|.bool b=>some (b==want)|.Qt []=>some false|_=>none) else none
  | none=>none
theorem W6{G:zi}{γ:Gh}{st:St}{a:Act}{w:World}(hs:Qc G γ st a.tmps w){ops:Array Oper}{o:Oper}{r:Bool}(h:M9 ops st o=some r) :
  Region.wanted o (yielded ops a.tmps)=r:=by
 unfold M9 at h;unfold Region.wanted;split at h
 ·grind
 ·rename_i j want hg;rw[hg];split at h
  ·rename_i d hj;split at h
   ·rename_i hd;split at h
    ·rename_i b hb;simp only[zD] at h;subst h;have:=hs.t d;rw[hb] at this;have hv:=this.QN;have hsz:d < a.tmps.size:=by rw[hs.n];exact hd
     simp_all [wm,dif_pos,wY,bool,Array.getD,yielded]
    ·rename_i hb;simp only[zD] at h;subst h;have:=hs.t d;rw[hb] at this;obtain⟨vs,hv,hl,_⟩:=this.WX;have hv0:vs=[]:=(by grind);subst hv0;have hsz:d < a.tmps.size:=by rw[hs.n];exact hd
     simp_all [wm,dif_pos,wY,Array.getD,yielded]
    ·simp at h
   ·simp at h
  ·simp at h
def B7(P:Program)(G:zi)(ops:Array Oper)(i:Nat)(st st':St):Prop:=
 match ops[i]? with
 | none=>st'=st
 | some o=>(M9 ops st o=some true/\I9 P G o st st')\/(M9 ops st o=some false/\H9 st.n o.dst=true/\st'=st.put o.dst (.Qt []))
def U8(P:Program)(G:zi)(ops:Array Oper)(l:List Nat)(st:St)(Q:Exit->St->Prop):Prop:=
 ∀(fx:Fx) (γ:Gh) (a:Act) (w:World),Qc G γ st a.tmps w->UK fx γ a.defers w->wpOpsIn (RF fx.ro) 0 P ops (F0 G fx γ st w Q) l a w
section
variable {P:Program} {G:zi} {ops:Array Oper} {st:St} {Q:Exit->St->Prop}
theorem U8.nil(h:Q .normal st):U8 P G ops [] st Q:=λ_ γ _ w hs hd=>⟨st,γ,hs,⟨.refl γ w,.refl hs.u⟩,.of hd.1,h⟩
theorem U8.cons{i:Nat}{rest:List Nat}{st':St}(h:B7 P G ops i st st')(hr:U8 P G ops rest st' Q):U8 P G ops (i :: rest) st Q:=λfx γ a w hs hd=>by
 unfold B7 at h;simp only[wpOpsIn];split at h
 ·rename_i hi;subst h;rw[hi];exact hr fx γ a w hs hd
 ·rename_i o hi;rw[hi];simp only;rcases h with⟨hg,he⟩|⟨hg,hdst,rfl⟩
  ·rw[if_pos (W6 hs hg)];refine Lh (he ⟨none,a.defers,false⟩ γ a w hs rfl _ _ (by grind)) (he fx γ a w hs hd.1 _ _ λa' w' γ' h1 h2 hp h3=>?_);exact H7 (λe a2 w2 hl=>hl.grow ⟨h2,hp⟩) rest a' w' (hr fx γ' a' w' h1 (hd.grow h2 h3))
  ·rw[if_neg (by rw[W6 hs hg];simp)];exact⟨λ_ _=>trivial,H7 (λe a2 w2 hl=>hl.grow (st:=st) ⟨.refl γ w,by cases o.dst<;>exact Zf.refl hs.u⟩) rest _ w (hr fx γ _ w (hs.put hdst (v:=undef) (.Qt [] [] rfl (by grind))) (by rw[X2];exact hd))⟩
def iU(P:Program)(G:zi)(ops:Array Oper)(i:Nat)(s:St)(ex:Exit)(s':St):Prop:=∃o,ops[i]?=some o/\(∀c,o.op≠.defer c)/\M9 ops s o=some true/\Qdo P G o s ex s'
theorem U8.stop{i:Nat}{rest:List Nat}{ex:Exit}{st':St}(h:iU P G ops i st ex st')(hq:Q ex st'):U8 P G ops (i :: rest) st Q:=λfx γ a w hs hd=>by
 obtain⟨o,hi,hnd,hg,he⟩:=h;simp only[wpOpsIn];rw[hi];simp only;rw[if_pos (W6 hs hg)];exact kE hnd (he fx γ a w hs hd.1 _ _ λa' w' γ' h1 h2 hp h3=>⟨st',γ',h1,⟨h2,hp⟩,.of h3,hq⟩)
theorem TV.region{id:Nat}(h:U8 P G ops (List.range ops.size) st Q):TV P G (.region id ops false) st Q:=λfx γ a w hs hd=>wpIn_region (h fx γ a w hs hd)
end
def jA(P:Program)(G:zi)(o:Oper)(st:St):Option St:=
 match o.op,o.dst with
 | .alloc e,some d=>if d < st.n/\st.u d=false then (zeroV P e).map λcs=>(st.Qu d ⟨cs.length,true,[cs]⟩).QR d (.ptr d 0 0) else none
 | .box _ x,some d=>if d < st.n/\st.u d=false then ((st.ev G x).bind RV).map λcs=>(st.Qu d ⟨cs.length,true,[cs]⟩).QR d (.ptr d 0 0) else none
 | .store t x y,none=>match st.ev G x,st.ev G y with
  | some (.ptr b i off),some c=>match st.b b with
   | some k=>(Zc P t k i off c).map (st.Qu b)
   | none=>none
  | _,_=>none
 | .buildSlice t n ps,some d=>if d < st.n/\st.u d=false then ((Hy (st.ev G) ps.toList).bind (Yd P t n)).map λk=>(st.Qu d k).QR d (.ref d 0 n) else none
 | op,dst=>if H9 st.n dst then (Jl P (st.ev G) st.b op).map (st.put dst) else none
theorem PR{P:Program}{G:zi}{o:Oper}{st st':St}(h:jA P G o st=some st'):I9 P G o st st':=by
 unfold jA at h;split at h
 ·rename_i e d ho hd;split at h
  ·rename_i hc;obtain⟨cs,hz,rfl⟩:=zG.1 h;grind [IJ]
  ·simp at h
 ·rename_i e x d ho hd;split at h
  ·rename_i hc;obtain⟨cs,hz,rfl⟩:=zG.1 h;grind [Option.bind_eq_some_iff,xW]
  ·simp at h
 ·rename_i t x y ho hd;split at h
  ·rename_i b i off c hx hy;split at h
   ·rename_i k hk;obtain⟨k',hs,rfl⟩:=zG.1 h;grind [Bc]
   ·simp at h
  ·simp at h
 ·rename_i t n ps d ho hd;split at h
  ·rename_i hc;obtain⟨k,hz,rfl⟩:=zG.1 h;grind [Option.bind_eq_some_iff,Xc]
  ·simp at h
 ·rename_i op dst;split at h
  ·rename_i hd;obtain⟨c,hr,rfl⟩:=zG.1 h;exact VC hr hd
  ·simp at h
def stepG(P:Program)(G:zi)(ops:Array Oper)(i:Nat)(st:St):Option St:=
 match ops[i]? with
 | none=>some st
 | some o=>match M9 ops st o with
  | some true=>jA P G o st
  | some false=>if H9 st.n o.dst then some (st.put o.dst (.Qt [])) else none
  | none=>none
theorem Zt{P:Program}{G:zi}{ops:Array Oper}{i:Nat}{st st':St}(h:stepG P G ops i st=some st'):B7 P G ops i st st':=by
 grind [Option.some.injEq,PR,stepG,B7]
def Qk:Nat->Bool:=λb=>decide (1000000<=b)
theorem HA{b:Nat}(h:X8 b=true):Qk b=true:=by unfold Qk;exact we (Ja h)
def WE(P:Program)(G:zi)(f:FuncId)(args:List V)(ins:zj)(E:Value->Ending)(res:V)(outs:zj):Prop:=
 ∀(γ:Gh) (w:World) (as:Array Value),Ha G γ w->(∀B x,γ.own B=some x->B < w.heap.size)->U4 γ w ins Qk args as->
  (∀b k,ins b=some k->Qk b=true/\X1 γ w ins Qk b k)->
  Calls P f as w λe w'=>∃v γ',e=E v/\Qd γ w γ' w'/\Zf γ ins Qk γ' outs (λ_=>true)/\Qy γ' w' outs (λ_=>true) res v/\
   (∀b k,outs b=some k->X1 γ' w' outs (λ_=>true) b k)/\(∀B x,γ'.own B=some x->B < w'.heap.size)
def QS(P:Program)(G:zi)(f:FuncId)(args:List V)(ins:zj)(res:V)(outs:zj):Prop:=WE P G f args ins .returned res outs
def K2(v:Value):List PanicEntry:=[{ v:=v,recovered:=false }]
def EU(P:Program)(G:zi)(f:FuncId)(args:List V)(ins:zj)(v:List PanicEntry)(outs:zj):Prop:=WE P G f args ins (λ_=>.panicked v) .undef outs
def Ot:zj:=λ_=>none
def iK(P:Program)(G:zi)(f:FuncId)(args:List V)(res:V):Prop:=QS P G f args Ot res Ot
def U3(n:Nat)(args:List V)(ins:zj):St:={ n,t:=λi=>args.getD i .undef,b:=ins,u:=Qk }
def WZ(look:zj)(c:V):Option (List V):=
 match c with
 | .ptr b 0 0=>(look b).map λk=>k.rows.flatten
 | _=>none
theorem Qc.WZ{G:zi}{γ:Gh}{st:St}{tmps:Array Value}{w:World}(h:Qc G γ st tmps w){c:V}{cells:List V}(hc:WZ st.b c=some cells)
  {v:Value} (hr:Qy γ w st.b st.u c v):∃B o,v=.pointer (some ⟨B,o,none⟩)/\R0 γ w st.b st.u B o cells:=by
 unfold EV.WZ at hc;split at hc
 ·rename_i b;obtain⟨k,hk,rfl⟩:=zG.1 hc;obtain⟨B,o,rfl,hl⟩:=hr.Zk hk;refine⟨B,o+(0 * k.size+0),rfl,?_⟩;rcases h.b b k hk with⟨v1,_⟩|hm|⟨_,B2,o2,cs2,e2,h1,h2,h3,h4,h5,h6,h7,h8⟩
  ·grind
  ·exact(hm.small (hr.Za hk)).elim
  rw[hl] at h1;simp only[zD,zO] at h1;obtain⟨rfl,rfl⟩:=h1;intro j c' hc';obtain⟨v,q1,q2,_⟩:=h6 j c' hc';refine⟨v,?_,q2⟩;rw[h3.cellAt];simpa using q1
 ·simp at hc
def Vk(P:Program)(st:St):ResultVar->Option V
 | .tmp t=>some (st.t t)
 | .cell a t=>match Ix P st.b t (st.t a) with
  | some c=>some c
  | none=>(WZ st.b (st.t a)).bind (N3 P t)
def F3(P:Program)(st:St)(rs:List ResultVar):Option V:=
 match rs.mapM (Vk P st) with
 | some [c]=>some c
 | some cs=>some (.Qt cs)
 | none=>none
def Fv(tmps:Array Value):ResultVar->Sem Value
 | .tmp t=>pure (tmps.getD t undef)
 | .cell a t => do loadVar t (<- asAddr (tmps.getD a undef))
theorem AY(fn : Func)(tmps : Array Value) : results fn tmps = (do let vs <- fn.results.mapM (Fv tmps); pure (if h : vs.size = 1 then vs[0] else .tuple vs)) := by
 rfl
theorem uD{P:Program}{G:zi}{γ:Gh}{st:St}{tmps:Array Value}{w:World}(hs:Qc G γ st tmps w){r:ResultVar}{c:V}(h:Vk P st r=some c) :
  ∃v,(Fv tmps r).run P w=.ok v w/\Qy γ w st.b st.u c v:=by
 cases r with
 | tmp t=>simp only[Vk,zD] at h;subst h;exact⟨_,rfl,hs.t t⟩
 | cell a t=>
  obtain⟨B,o,cells,hv,hc,h2⟩:∃B o cells,tmps.getD a undef=.pointer (some ⟨B,o,none⟩)/\R0 γ w st.b st.u B o cells/\N3 P t cells=some c:=by
   simp only[Vk] at h;split at h
   ·rename_i c' hl;simp only[zD] at h;subst h;obtain⟨cells,h1,h2⟩:=wd.1 hl;obtain⟨B,o,hv,hc⟩:=hs.JF h1 (hs.t a);grind
   ·obtain⟨cells,h1,h2⟩:=wd.1 h;obtain⟨B,o,hv,hc⟩:=hs.WZ h1 (hs.t a);grind
  obtain⟨x,hx,hd⟩:=YR (P:=P) h2 hc;refine⟨x,?_,hd⟩;show (do loadVar t (<- asAddr (tmps.getD a undef)) : Sem Value).run P w = _;grind [Sem.run_bind,Sem.run_pure,Result.andThen_ok,asAddr]
theorem DL{P:Program}{G:zi}{γ:Gh}{st:St}{tmps:Array Value}{w:World}(hs:Qc G γ st tmps w):∀{rs:List ResultVar} {cs:List V},rs.mapM (Vk P st)=some cs->
  ∃vs:List Value,(rs.mapM (Fv tmps)).run P w=.ok vs w/\U4 γ w st.b st.u cs vs.toArray
 | [],cs,h=>by simp at h;subst h;exact⟨[],rfl,rfl,(by grind)⟩
 | r :: rs,cs,h=>by
  simp only[List.mapM_cons,Option.bind_eq_bind,wd,Option.pure_def,zD] at h;obtain⟨c,h1,cs',h2,rfl⟩:=h;obtain⟨v,hv,hr⟩:=uD hs h1;obtain⟨vs,hvs,hl,hp⟩:=DL hs h2;refine⟨v :: vs,?_,?_,?_⟩
  ·simp_all
  ·grind
  grind
theorem C3{P:Program}{G:zi}{γ:Gh}{st:St}{tmps:Array Value}{w:World}(hs:Qc G γ st tmps w){fn:Func}{c:V}(h:F3 P st fn.results.toList=some c) :
  ∃v,(results fn tmps).run P w=.ok v w/\Qy γ w st.b st.u c v:=by
 unfold F3 at h;cases hm:fn.results.toList.mapM (Vk P st) with
 | none=>simp[hm] at h
 | some cs=>
  obtain⟨vs,hvs,hl,hp⟩:=DL hs hm;have hrun:(fn.results.mapM (Fv tmps)).run P w=.ok vs.toArray w:=by
   rw[Array.mapM_eq_mapM_toList,Sem.run_map,hvs,zT]
  have hres:(results fn tmps).run P w=.ok (if h:vs.toArray.size=1 then vs.toArray[0] else .tuple vs.toArray) w:=by
   rw[AY,zQ,hrun,zT];rfl
  rw[hm] at h;have hlen:vs.length=cs.length:=by simpa using hl
  rcases cs with _|⟨c1,_|⟨c2,cs'⟩⟩
  ·obtain rfl:vs=[]:=(by grind);obtain rfl:V.Qt []=c:=wh h;exact⟨.tuple #[],by rw[hres];rfl,.Qt [] [] rfl (by grind)⟩
  ·rcases vs with _|⟨v1,_|⟨v2,vs'⟩⟩
   ·simp at hlen
   ·obtain rfl:c1=c:=wh h;exact⟨v1,by rw[hres];rfl,hp 0 _ _ rfl rfl⟩
   grind
  ·rcases vs with _|⟨v1,_|⟨v2,vs'⟩⟩
   ·simp at hlen
   ·simp at hlen
   ·obtain rfl:V.Qt (c1 :: c2 :: cs')=c:=wh h;exact⟨.tuple (v1 :: v2 :: vs').toArray,by grind,.Qt _ _ hlen (by grind)⟩
def Ps(P:Program)(rs:List ResultVar)(res:V)(outs:zj)(e:Exit)(st:St):Prop:=
 (e=.normal\/e=.ret)/\F3 P st rs=some res/\∀b k,outs b=some k->st.b b=some k
mutual
def Jy:V->Bool
 | .int _ _=>true|.bool _=>true|.str _=>true|.Zi=>true|.Zx=>true|.Qh=>true|.QB _=>true
 | .sl _ _ _=>true|.snap _=>true|.Zw _=>true
 | .fn _ a b=>IK a&&IK b
 | .agg l=>IK l
 | .Qt l=>IK l
 | .ref _ _ _=>false|.ptr _ _ _=>false|.undef=>false|.mp _=>false
def IK:List V->Bool
 | []=>true
 | c :: l=>Jy c&&IK l
end
mutual
def G4:V->Bool
 | .int _ _=>true|.bool _=>true|.str _=>true|.Zi=>true|.Zx=>true|.Qh=>true|.QB _=>true
 | .agg l=>Ib l
 | .Qt l=>Ib l
 | .fn _ a b=>Ib a&&Ib b
 | .sl _ _ _=>false|.snap _=>false|.ref _ _ _=>false|.ptr _ _ _=>false|.undef=>false|.mp _=>false|.Zw _=>true
def Ib:List V->Bool
 | []=>true
 | c :: l=>G4 c&&Ib l
end
theorem Uv:∀{l:List V},IK l=true->∀{i:Nat} {c:V},l[i]?=some c->Jy c=true
 | [],_,i,c,h=>by simp at h
 | x :: l,hl,i,c,h=>by
  simp only[IK,zF] at hl;cases i with
  | zero=>grind
  | succ i=>exact Uv hl.2 (by simpa using h)
theorem ZK:∀{l:List V},Ib l=true->∀{i:Nat} {c:V},l[i]?=some c->G4 c=true
 | [],_,i,c,h=>by simp at h
 | x :: l,hl,i,c,h=>by
  simp only[Ib,zF] at hl;cases i with
  | zero=>grind
  | succ i=>exact ZK hl.2 (by simpa using h)
theorem K4.flat{Qp lim':Nat->Nat}{w w':World}{c:V}{v:Value}(h:K4 Qp w c v):G4 c=true->K4 lim' w' c v:=by
 induction h with
 | int k n=>exact λ_=>.int k n
 | bool b=>exact λ_=>.bool b
 | str s=>exact λ_=>.str s
 | Zi=>exact λ_=>.Zi
 | Zx=>exact λ_=>.Zx
 | QB l=>exact λ_=>.QB l
 | Qh=>exact λ_=>.Qh
 | Zw x hx=>exact λ_=>.Zw x hx
 | sl=>grind [G4]
 | Zb=>grind [G4]
 | snap=>grind [G4]
 | fn f first captured fs cs h1 h2 _ _ ih1 ih2=>
  intro h;simp only[G4,zF] at h;exact .fn f first captured fs cs h1 h2 (by grind [ZK]) (by grind [ZK])
theorem Qy.flat{γ γ':Gh}{w w':World}{bs bs':zj}{u u':zl}{c:V}{v:Value}(h:Qy γ w bs u c v):G4 c=true->Qy γ' w' bs' u' c v:=by
 induction h with
 | data h=>exact λhf=>.data (h.flat hf)
 | undef=>grind [G4]
 | ref=>grind [G4]
 | ZB=>grind [G4]
 | ZQ=>grind [G4]
 | Qs=>grind [G4]
 | ptr=>grind [G4]
 | QW=>grind [G4]
 | mp=>grind [G4]
 | QI=>grind [G4]
 | fn f first captured fs cs h1 h2 _ _ ih1 ih2=>
  intro h;simp only[G4,zF] at h;exact .fn f first captured fs cs h1 h2 (by grind [ZK]) (by grind [ZK])
 | agg cells vs h1 _ ih=>intro h;exact .agg cells vs h1 (by grind [ZK,G4])
 | Qt cells vs h1 _ ih=>intro h;exact .Qt cells vs h1 (by grind [ZK,G4])
theorem Qy.IW{γ γ':Gh}{w w':World}{bs bs':zj}{u u':zl}(hm:∀B o v,o < γ.Qp B->cellAt w B o=some v->o < γ'.Qp B/\cellAt w' B o=some v){c:V}{v:Value}(h:Qy γ w bs u c v) :
  Jy c=true->Qy γ' w' bs' u' c v:=by
 induction h with
 | data h=>exact λ_=>.data (h.mono hm)
 | undef=>grind [Jy]
 | ref=>grind [Jy]
 | ZB=>grind [Jy]
 | ZQ=>grind [Jy]
 | Qs=>grind [Jy]
 | ptr=>grind [Jy]
 | QW=>grind [Jy]
 | mp=>grind [Jy]
 | QI=>grind [Jy]
 | fn f first captured fs cs h1 h2 _ _ ih1 ih2=>
  intro h;simp only[Jy,zF] at h;exact .fn f first captured fs cs h1 h2 (by grind [Uv]) (by grind [Uv])
 | agg cells vs h1 _ ih=>intro h;exact .agg cells vs h1 (by grind [Uv,Jy])
 | Qt cells vs h1 _ ih=>intro h;exact .Qt cells vs h1 (by grind [Uv,Jy])
theorem uI{P:Program}{w:World}{a:Act}{o:Oper}{x:Operand}{xs:Array Operand}{ts:Array TypeId}{f:FuncId}{fn:Func}{fs cs:Array Value}(ho:o.op=.call { callee:=.value x,args:=xs,argTypes:=ts })
  (hx:a.eval x=.func (.func f) fs cs) (hfn:P.funcs[f]?=some fn) (hname:(fn.name== "runtime.NumGoroutine")=false) (hbody:fn.body.isNone=false) :
  (execOp a.eval o).run P w=.ok (.enter f (fs++xs.map a.eval++cs)) w:=by
 have e : execOp a.eval o = (do let d <- Deferred.ofValue (a.eval x) (xs.map a.eval); invoke d.target d.args) := by
  unfold execOp;rw[ho];rfl
 rw[e,hx];have hname':¬fn.name= "runtime.NumGoroutine":=by grind
 have hbody':¬fn.body=none:=by grind
 simp[Deferred.ofValue,invoke,callFunc,hfn,hname',hbody']
theorem U4.append{γ:Gh}{w:World}{bs:zj}{u:zl}{c1 c2:List V}{v1 v2:Array Value}(h1:U4 γ w bs u c1 v1)(h2:U4 γ w bs u c2 v2):U4 γ w bs u (c1++c2) (v1++v2):=by
 refine⟨by simp[h1.1,h2.1],λi c v hc hv=>?_⟩;by_cases hi:i < c1.length
 ·rw[wq hi] at hc;rw[Array.getElem?_append_left (by rw[h1.1];exact hi)] at hv;exact h1.2 i c v hc hv
 ·rw[wz (by omega)] at hc;rw[Array.getElem?_append_right (by rw[h1.1];omega),h1.1] at hv;exact h2.2 _ c v hc hv
def Ye(G:zi)(st:St)(x:Operand)(xs:List Operand):Option (FuncId×List V):=
 match st.ev G x,rT (st.ev G) xs with
 | some (.fn f first captured),some cs=>some (f,first++cs++captured)
 | _,_=>none
theorem KA{P:Program}{G:zi}{γ:Gh}{st:St}{a:Act}{w:World}(hs:Qc G γ st a.tmps w){o:Oper}{x:Operand}{xs:Array Operand}{ts:Array TypeId}{f:FuncId}{cs:List V}{fn:Func}
  (ho:o.op=.call { callee:=.value x,args:=xs,argTypes:=ts }) (h:Ye G st x xs.toList=some (f,cs)) (hfn:P.funcs[f]?=some fn) (hname:(fn.name== "runtime.NumGoroutine")=false) (hbody:fn.body.isNone=false) :
  ∃as:Array Value,(execOp a.eval o).run P w=.ok (.enter f as) w/\U4 γ w st.b st.u cs as:=by
 unfold Ye at h;split at h
 ·rename_i f' first captured cs' hx hcs
  simp only[zD,zO] at h;obtain⟨rfl,rfl⟩:=h;obtain⟨fs,caps,hv,l1,l2,p1,p2⟩:=(hs.ev hx).UT;have hm:=Ku hs hcs;have k:(xs.toList.map a.eval).toArray=xs.map a.eval:=(by grind);rw[k] at hm;refine⟨_,uI ho hv hfn hname hbody,?_⟩;exact(U4.append (U4.append ⟨by simpa using l1,(by grind)⟩ hm) ⟨by simpa using l2,(by grind)⟩)
 ·simp at h
end Go.EV
namespace Go.EV
open Go
structure Src where
 b:Option Nat
 off:Nat
 size:Nat
 Ql:Bool
 rows:List (List V)
def St.QU(st:St)(b:Option Nat):St:=match b with|some i=>st.Zq i|none=>st
theorem Gb(st:St)(x:Option Nat)(b:Nat):(st.QU x).b b=if x=some b then none else st.b b:=by
 cases x with
 | none=>simp[St.QU]
 | some i=>
  simp only[St.QU,St.Zq,zD];grind
def Gp(look:zj)(size:Nat)(c:V):Option Src:=
 match c with
 | .Qh=>some ⟨none,0,size,true,[]⟩
 | .ref b off len=>match look b with
  | some k=>if k.size=size/\off+len<=k.rows.length/\(k.Ql=true\/off+len=k.rows.length) then some ⟨some b,off,size,k.Ql,(k.rows.drop off).take len⟩ else none
  | none=>none
 | _=>none
def Af(look:zj)(size:Nat)(dst:Option Nat)(c:V):Option Src:=
 match c with
 | .Qh=>some ⟨none,0,size,true,[]⟩
 | .sl _ s rows=>if s=size then some ⟨none,0,size,true,rows.map (·.map V.strip)⟩ else none
 | .ref b off len=>match look b with
  | some k=>if k.size=size/\off+len<=k.rows.length then
    (if dst=some b then some ⟨none,0,size,true,((k.rows.drop off).take len).map (·.map V.strip)⟩ else some ⟨some b,off,size,true,(k.rows.drop off).take len⟩) else none
  | none=>none
 | _=>none
def Er(P:Program)(look:zj)(t t2:TypeId)(x y:V):Option (Src×Src×Qa):=
 match P.underlying t,P.underlying t2 with
 | some (.slice e),some (.slice _)=>match P.info? e with
  | some ei=>match Gp look ei.size x with
   | some ds=>match Af look ei.size ds.b y with
    | some ss=>if (ds.rows.length+ss.rows.length) * ei.bytes<=140737488355328/\0 < ei.bytes/\(zeroV P e).map List.length=some ei.size then some (ds,ss,⟨ei.size,ds.Ql,ds.rows++ss.rows⟩) else none
    | none=>none
   | none=>none
  | none=>none
 | _,_=>none
def WV(ds ss:Src)(d:Nat)(x:Option M0):Option M0:=
 match x with
 | some (.nest b i j)=>
  if ds.b=some b then (if ds.off<=i/\i < ds.off+ds.rows.length then some (.nest d (i - ds.off) j) else none)
  else if ss.b=some b then (if ss.off<=i/\i < ss.off+ss.rows.length then some (.nest d (ds.rows.length+(i - ss.off)) j) else none)
  else some (.nest b i j)
 | x=>x
def Gh.move(γ:Gh)(ds ss:Src)(d B o:Nat)(Qp:Nat):Gh where
 loc:=λb=>if b=d then some (B,o) else γ.loc b
 own:=λX=>if X=B then some (.Zp d) else WV ds ss d (γ.own X)
 Qp:=λX=>if X=B then Qp else γ.Qp X
theorem Ov{ds ss:Src}{d b i j:Nat}(h1:ds.b≠some b)(h2:ss.b≠some b):WV ds ss d (some (.nest b i j))=some (.nest b i j):=by
 simp_all [if_neg,WV]
def WW(γ:Gh)(w:World)(bs:zj)(u:zl)(s:Src)(vs:List Value):Prop:=
 (∀r,r∈s.rows->r.length=s.size)/\vs.length=s.rows.length * s.size/\
  ∀(i:Nat) (c:V),s.rows.flatten[i]?=some c->∃v,vs[i]?=some v/\Qy γ w bs u c v/\v.oneCell'=true/\
   (match s.b with|some b=>D6 γ w (.nest b (s.off+i / s.size) (i % s.size)) c v|none=>c.QM=false)
theorem Wg{s:Nat}(rows:List (List V))(hs:∀r,r∈rows->r.length=s)(off len i:Nat)(c:V)(h:((rows.drop off).take len).flatten[i]?=some c) :
  rows.flatten[off * s+i]?=some c/\i < len * s:=by
 have hs':∀r,r∈(rows.drop off).take len->r.length=s:=(by grind);rcases qc s with h0|hpos
 ·grind [List.flatten_eq_nil_iff,List.length_eq_zero_iff]
 ·have e:i=(i / s) * s+i % s:=by grind [Nat.mul_comm,Nat.div_add_mod]
  have hm:=Nat.mod_lt i hpos;rw[e,U9 _ hs' _ _ hm] at h;obtain⟨r,hr,hc⟩:=wd.1 h;rw[List.getElem?_take] at hr;split at hr
  ·rename_i hlt;rw[List.getElem?_drop] at hr;refine⟨?_,?_⟩
   ·rw[e,show off * s+(i / s * s+i % s)=(off+i / s) * s+i % s by rw[wB];omega,U9 _ hs _ _ hm,hr];exact hc
   ·have:(i / s+1) * s<=len * s:=wM _ hlt;grind
  ·simp at hr
theorem TQ.rd{γ:Gh}{w:World}{bs:zj}{u:zl}{b:Nat}{k:Qa}{o:Nat}{cs:Array Value}{off len:Nat}(Ql:Bool)
  (h4:∀r,r∈k.rows->r.length=k.size) (h5:o+k.rows.length * k.size<=cs.size)
  (h6:∀(i:Nat) (c:V),k.rows.flatten[i]?=some c->∃v,cs[o+i]?=some v/\Qy γ w bs u c v/\v.oneCell'=true/\D6 γ w (.nest b (i / k.size) (i % k.size)) c v)
  (hlen:off+len<=k.rows.length) :
  WW γ w bs u ⟨some b,off,k.size,Ql,(k.rows.drop off).take len⟩ ((cs.toList.drop (o+off * k.size)).take (len * k.size)):=by
 have hl:((k.rows.drop off).take len).length=len:=by simp;omega
 refine⟨(by grind),?_,λi c hc=>?_⟩
 ·simp only[qa,List.length_drop,hl,Array.length_toList];have:(off+len) * k.size<=k.rows.length * k.size:=wM _ hlen;grind
 ·obtain⟨hc',hi⟩:=Wg k.rows h4 off len i c hc;obtain⟨v,a1,a2,a3,a4⟩:=h6 _ c hc';refine⟨v,?_,a2,a3,?_⟩
  ·grind
  grind [Nat.eq_zero_or_pos,Nat.mul_comm,Nat.mul_add_div,Nat.mul_add_mod,D6]
theorem Qc.Pw{G:zi}{γ:Gh}{st:St}{tmps:Array Value}{w w1:World}(h:Qc G γ st tmps w){d:Nat}{ds ss:Src}{vd vsr:List Value}{B o Qp:Nat}{cs:Array Value}{e:TypeId}
  (hM:ds.size < Y8) (hu:st.u d=false) (hd:WW γ w st.b st.u ds vd) (hss:WW γ w st.b st.u ss vsr) (hsz:ds.size=ss.size) (hne:∀b,ds.b=some b->ss.b≠some b)
  (hw1:D5 w1 B cs e) (hroom:o+(ds.rows.length+ss.rows.length) * ds.size<=cs.size)
  (hcells:∀j,j < vd.length+vsr.length->cs[o+j]?=(vd++vsr)[j]?)
  (g:Qd γ w (γ.move ds ss d B o Qp) w1) (hkeep:∀b k X o',st.b b=some k->ds.b≠some b->ss.b≠some b->γ.loc b=some (X,o')->γ.own X=some (.Zp b)->X≠B/\w1.heap[X]?=w.heap[X]?)
  (hB:B < w1.heap.size) (hold:∀X t,γ.own X=some t->X < w1.heap.size)
  (hlim:ds.Ql=true->Qp=0) (hlim2:Qp<=o+(ds.rows.length+ss.rows.length) * ds.size)
  (hnest:∀X b i j,γ.own X=some (.nest b i j)->X≠B) :
  Qc G (γ.move ds ss d B o Qp) (((st.QU ds.b).QU ss.b).Qu d ⟨ds.size,ds.Ql,ds.rows++ss.rows⟩) tmps w1/\
   G6 γ st.b st.u (γ.move ds ss d B o Qp) (((st.QU ds.b).QU ss.b).Qu d ⟨ds.size,ds.Ql,ds.rows++ss.rows⟩).b (((st.QU ds.b).QU ss.b).Qu d ⟨ds.size,ds.Ql,ds.rows++ss.rows⟩).u:=by
 have hb2:∀b,b≠d->(((st.QU ds.b).QU ss.b).Qu d ⟨ds.size,ds.Ql,ds.rows++ss.rows⟩).b b=if ds.b=some b\/ss.b=some b then none else st.b b:=by
  intro b hb;simp only[St.Qu];rw[if_neg hb,Gb,Gb];grind
 have hu2:∀b,st.u b=true->(((st.QU ds.b).QU ss.b).Qu d ⟨ds.size,ds.Ql,ds.rows++ss.rows⟩).u b=true:=by
  intro b hb;simp only[St.Qu];split
  ·rfl
  ·cases ds.b<;>cases ss.b<;>simp only[St.QU,St.Zq]<;>(try split)<;>(try split)<;>first|rfl|exact hb
 have bl:G6 γ st.b st.u (γ.move ds ss d B o Qp) (((st.QU ds.b).QU ss.b).Qu d ⟨ds.size,ds.Ql,ds.rows++ss.rows⟩).b (((st.QU ds.b).QU ss.b).Qu d ⟨ds.size,ds.Ql,ds.rows++ss.rows⟩).u:=by
  refine⟨hu2,λb hb hn=>?_,λb k hk=>⟨hu2 b (h.u b k hk),?_⟩⟩
  ·grind
  ·have:b≠d:=λe=>by subst e;rw[h.Gd hu] at hk;simp at hk
   rw[hb2 b this];split
   ·exact .inl rfl
   ·exact .inr ⟨k,hk,rfl,λ_=>rfl,by simp only[Gh.move];rw[if_neg this]⟩
 refine⟨⟨?_,λi=>?_,λb k hk=>?_,λb k hk=>?_,h.g.grow g,λX t hX=>?_⟩,bl⟩
 ·have:(((st.QU ds.b).QU ss.b).Qu d ⟨ds.size,ds.Ql,ds.rows++ss.rows⟩).n=st.n:=by cases ds.b<;>cases ss.b<;>rfl
  rw[this];exact h.n
 ·have:(((st.QU ds.b).QU ss.b).Qu d ⟨ds.size,ds.Ql,ds.rows++ss.rows⟩).t=st.t:=by cases ds.b<;>cases ss.b<;>rfl
  rw[this];exact(h.t i).mono g bl
 ·by_cases hbd:b=d
  ·subst hbd;simp only[St.Qu,if_pos] at hk;simp only[zD] at hk;subst hk;refine .inr (.inr ⟨hM,B,o,cs,e,by simp[Gh.move],by simp[Gh.move],hw1,λr hr=>?_,by grind,λi c hc=>?_,(by grind [Gh.move]),by grind [Gh.move]⟩)
   ·rcases wk.1 hr with hr|hr
    ·exact hd.1 r hr
    ·rw[hsz];exact hss.1 r hr
   ·simp only[List.flatten_append] at hc;have dl:ds.rows.flatten.length=ds.rows.length * ds.size:=by
     rw[List.length_flatten];have:ds.rows.map List.length=List.replicate ds.rows.length ds.size:=List.eq_replicate_iff.2 ⟨by simp,λx hx=>by obtain⟨r,hr,rfl⟩:=zM.1 hx;exact hd.1 r hr⟩;rw[this];simp
    by_cases hi:i < ds.rows.flatten.length
    ·rw[wq hi] at hc;obtain⟨v,a1,a2,a3,a4⟩:=hd.2.2 i c hc;refine⟨v,?_,a2.mono g bl,a3,?_⟩
     ·grind
     ·cases hdb:ds.b with
      | none=>rw[hdb] at a4;exact .QP a4
      | some b0=>
       rw[hdb] at a4;simp only at a4
       replace a4:=a4.grow g (λX hX=>by
        simp only[Gh.move];grind)
       unfold D6 at a4 ⊢;split at a4
       ·rename_i size' rows' a l cp;rcases a4 with a4|a4
        ·exact .inl a4
        refine .inr ?_;have hne':a.block≠B:=hnest _ _ _ _ a4.1.1;have hpos:0 < ds.size:=by
         grind
        have hq:i / ds.size < ds.rows.length:=by rw[Nat.div_lt_iff_lt_mul hpos];omega
        simp only[Gh.move];simp_all [if_neg,if_true,if_pos,WV]
       ·trivial
    ·rw[wz (by omega)] at hc;obtain⟨v,a1,a2,a3,a4⟩:=hss.2.2 _ c hc;have hsl:i - ds.rows.flatten.length < vsr.length:=(by grind);refine⟨v,?_,a2.mono g bl,a3,?_⟩
     ·rw[hcells i (by rw[hd.2.1];omega),wz (by rw[hd.2.1];omega),hd.2.1,<-dl];exact a1
     ·cases hsb:ss.b with
      | none=>rw[hsb] at a4;exact .QP a4
      | some b0=>
       rw[hsb] at a4;simp only at a4
       replace a4:=a4.grow g (λX hX=>by
        simp only[Gh.move];grind)
       unfold D6 at a4 ⊢;split at a4
       ·rename_i size' rows' a l cp;rcases a4 with a4|a4
        ·exact .inl a4
        refine .inr ?_;have hne':a.block≠B:=hnest _ _ _ _ a4.1.1;have hpos:0 < ss.size:=by
         rcases qc ss.size with h0|h0
         ·rw[hss.2.1,h0] at hsl;omega
         ·exact h0
        have hdsb:ds.b≠some b0:=λhx=>hne b0 hx hsb
        have hq:(i - ds.rows.length * ds.size) / ss.size < ss.rows.length:=by rw[Nat.div_lt_iff_lt_mul hpos];rw[dl,hss.2.1] at hsl;exact hsl
        simp only[Gh.move];rw[if_neg hne',if_neg hne',a4.1.1];refine⟨⟨?_,a4.1.2⟩,a4.2⟩;simp only[WV,hsb,if_true];rw[if_neg hdsb,dl];have hin:ss.off<=ss.off+(i - ds.rows.length * ds.size) / ss.size/\ss.off+(i - ds.rows.length * ds.size) / ss.size < ss.off+ss.rows.length:=(by grind);rw[if_pos hin,Nat.add_sub_cancel_left];have hge:ds.rows.length * ss.size<=i:=by grind
        have e1:i / ds.size=ds.rows.length+(i - ds.rows.length * ds.size) / ss.size:=by
         rw[hsz]
         conv=>lhs;rw[show i=ss.size * ds.rows.length+(i - ds.rows.length * ss.size) by rw[wQ];omega]
         rw[Nat.mul_add_div hpos]
        have e2:i % ds.size=(i - ds.rows.length * ds.size) % ss.size:=by
         rw[hsz]
         conv=>lhs;rw[show i=ss.size * ds.rows.length+(i - ds.rows.length * ss.size) by rw[wQ];omega]
         rw[Nat.mul_add_mod]
        rw[e1,e2]
       ·trivial
  ·rw[hb2 b hbd] at hk;split at hk
   ·simp at hk
   ·rename_i hno;simp only[not_or] at hno;rcases h.b b k hk with⟨v1,v2⟩|hm|⟨hM2,X,o',cs',e',a1,a2,a3,a4,a5,a6,a7,a8⟩
    ·exact .inl ⟨by simp only[Gh.move];rw[if_neg hbd];exact v1,v2⟩
    ·refine .inr (.inl (hm.same (by simp only[Gh.move];rw[if_neg hbd]) (λX q1 q2=>?_) λc v hr=>hr.mono g bl));obtain⟨hXB,hX⟩:=hkeep b k X 0 hk hno.1 hno.2 q1 q2;exact⟨by simp only[Gh.move];rw[if_neg hXB,q2];rfl,hX⟩
    ·obtain⟨hXB,hX⟩:=hkeep b k X o' hk hno.1 hno.2 a1 a2;refine .inr (.inr ⟨hM2,X,o',cs',e',by simp only[Gh.move];rw[if_neg hbd];exact a1,by simp only[Gh.move];rw[if_neg hXB,a2];rfl,a3.of_eq hX,a4,a5,λi c hc=>?_,
      by simp only[Gh.move];rw[if_neg hXB];exact a7,by simp only[Gh.move];rw[if_neg hXB];exact a8⟩)
     obtain⟨v,b1,b2,b3,b4⟩:=a6 i c hc;refine⟨v,b1,b2.mono g bl,b3,(b4.grow g (λX hX=>by
      simp only[Gh.move];rw[if_neg (hnest X _ _ _ hX)];exact zN _)).mono λY hY=>?_⟩
     have hYB:=hnest _ _ _ _ hY;simp only[Gh.move];rw[if_neg hYB,if_neg hYB,hY];exact⟨Ov hno.1 hno.2,zN _⟩
 ·by_cases hbd:b=d
  ·subst hbd;simp[St.Qu]
  ·rw[hb2 b hbd] at hk;split at hk
   ·simp at hk
   ·exact hu2 b (h.u b k hk)
 ·simp only[Gh.move] at hX;split at hX
  ·rename_i hXB;rw[hXB];exact hB
  ·cases ho:γ.own X with
   | none=>rw[ho] at hX;simp[WV] at hX
   | some t'=>exact hold X t' ho
section
variable {P:Program}
theorem Ko{w:World}(t t2 ty e e2:TypeId)(i:TypeInfo)(z:Value)(ht:P.underlying t=some (.slice e))(ht2:P.underlying t2=some (.slice e2))(hi:P.info? e=some i)(hz:i.zero=some z)
  (base:Option Addr) (n cap m:Nat) (y:Value) (olds news:List Value) (hlen:∀w1,(Builtin.lenOf y).run P w1=.ok m w1)
  (hold:∀w1:World,w1.heap=w.heap->(Builtin.firstCells i.size n (.slice base n cap)).run P w1=.ok olds.toArray w1)
  (hnew:∀w1:World,w1.heap=w.heap->(Builtin.firstCells i.size m y).run P w1=.ok news.toArray w1)
  (hg:cap < n+m) (h63:((n+m:Nat):Int)<=9223372036854775807) (hfit:Builtin.nextslicecap (n+m) cap * i.bytes<=281474976710656) :
  (Builtin.append_ #[t,t2] ty #[.slice base n cap,y]).run P w =
   .ok (.slice (some ⟨w.heap.size,0,none⟩) (n+m) (grownCap w (n+m) cap e)) (w.drew.alloc (.cells (olds.toArray++news.toArray++Builtin.zeroCells z.cells (grownCap w (n+m) cap e - (n+m))) e)):=by
 have hn:¬(n+m<=cap):=by omega
 have h63':¬(9223372036854775807 < ((n:Int)+(m:Int))):=by omega
 have h48':¬(281474976710656 < Builtin.nextslicecap (n+m) cap * i.bytes):=by omega
 have hf:=hnew w.drew rfl
 have hfo:=hold w.drew rfl;simp[Builtin.append_,zL ht,zL ht2,sizeOf,typeInfo,zeroValue,hi,hz,hlen,hn,h63',h48',Question.forced,hf,hfo,newRow,grownCap];grind
theorem ML{w:World}(t t2 ty e e2:TypeId)(i:TypeInfo)(ht:P.underlying t=some (.slice e))(ht2:P.underlying t2=some (.slice e2))(hi:P.info? e=some i)
  (B o n cap m:Nat) (y:Value) (news:List Value) (cs:Array Value) (ce:TypeId) (hlen:∀w1,(Builtin.lenOf y).run P w1=.ok m w1)
  (hnew:∀w1:World,w1.heap=w.heap->(Builtin.firstCells i.size m y).run P w1=.ok news.toArray w1)
  (hg:n+m<=cap) (hh:D5 w B cs ce) (h1:∀v,v∈news->v.oneCell'=true) (hroom:o+n * i.size+news.length<=cs.size) :
  (Builtin.append_ #[t,t2] ty #[.slice (some ⟨B,o,none⟩) n cap,y]).run P w=.ok (.slice (some ⟨B,o,none⟩) (n+m) cap) (World.QQ w B (E7 cs (o+n * i.size) news) ce):=by
 have hs:=G8 (P:=P) (B:=B) (o:=o+n * i.size) (e:=ce) news 0 w cs hh h1 (by omega)
 have hf:=hnew w rfl;simp[Builtin.append_,zL ht,zL ht2,sizeOf,typeInfo,hi,hlen,hg,hf,Addr.add_eq,hs]
theorem Xf{w:World}(t t2 ty e e2:TypeId)(i:TypeInfo)(ht:P.underlying t=some (.slice e))(ht2:P.underlying t2=some (.slice e2))(hi:P.info? e=some i)
  (base:Option Addr) (y:Value) (cap:Nat) (hlen:∀w1,(Builtin.lenOf y).run P w1=.ok 0 w1) (hnew:∀w1:World,w1.heap=w.heap->(Builtin.firstCells i.size 0 y).run P w1=.ok #[] w1) :
  (Builtin.append_ #[t,t2] ty #[.slice base 0 cap,y]).run P w=.ok (.slice base 0 cap) w:=by
 have hf:=hnew w rfl;cases base<;>simp[Builtin.append_,zL ht,zL ht2,sizeOf,typeInfo,hi,hlen,hf,storeCells]
end
theorem KK{P:Program}{w:World}{B o n size l cap:Nat}{vs:List Value}(hl:vs.length=n * size)(hv:∀(j:Nat) (v:Value),vs[j]?=some v->cellAt w B (o+j)=some v) :
  ∀w1:World,w1.heap=w.heap->(Builtin.firstCells size n (.slice (some ⟨B,o,none⟩) l cap)).run P w1=.ok vs.toArray w1:=(by grind [run_firstCells_some,Addr.add_eq,cellAt,World.cell?])
structure Ts(P:Program)(γ:Gh)(w:World)(bs:zj)(u:zl)(s:Src)(v:Value)(vs:List Value):Prop where
 rd:WW γ w bs u s vs
 len:∀w1,(Builtin.lenOf v).run P w1=.ok s.rows.length w1
 first:∀w1:World,w1.heap=w.heap->(Builtin.firstCells s.size s.rows.length v).run P w1=.ok vs.toArray w1
theorem YK{P:Program}{γ:Gh}{w:World}{bs:zj}{u:zl}(b:Option Nat)(off size:Nat)(Ql:Bool){v:Value}(h:v=.slice none 0 0\/∃a,v=.slice (some a) 0 0) :
  Ts P γ w bs u ⟨b,off,size,Ql,[]⟩ v [] where
 rd:=⟨λr hr=>by simp at hr,by simp,λi c hc=>by simp at hc⟩
 len:=by rcases h with rfl|⟨a,rfl⟩<;>exact λ_=>rfl
 first:=by
  rcases h with rfl|⟨a,rfl⟩
  ·exact λ_ _=>rfl
  ·intro w1 _;show (loadCells a (0 * size)).run P w1=_;rw[Nat.zero_mul];rfl
theorem T2(rows:List (List V)):(rows.map (·.map V.strip)).flatten=rows.flatten.map V.strip:=by
 grind
theorem WW.strip{γ:Gh}{w:World}{bs:zj}{u:zl}{s:Src}{vs:List Value}(h:WW γ w bs u s vs)(b:Option Nat)(off:Nat)(hb:b=none)(Ql:Bool):WW γ w bs u ⟨b,off,s.size,Ql,s.rows.map (·.map V.strip)⟩ vs:=by
 subst hb;refine⟨λr hr=>?_,by rw[wG];exact h.2.1,λi c hc=>?_⟩
 ·obtain⟨r',hr',rfl⟩:=zM.1 hr;rw[wG];exact h.1 r' hr'
 ·simp only[T2,wc,zG] at hc;obtain⟨c',hc',rfl⟩:=hc;obtain⟨v,a1,a2,a3,_⟩:=h.2.2 i c' hc';exact⟨v,a1,a2.strip,a3,YW c'⟩
def Qdl(γ:Gh)(w:World)(st:St)(s:Src)(v:Value)(vs:List Value):Prop:=
 (s.rows=[]/\(v=.slice none 0 0\/∃B,v=.slice (some B) 0 0))\/
  ∃b k B o cs e cap,s.b=some b/\st.b b=some k/\γ.loc b=some (B,o)/\γ.own B=some (.Zp b)/\D5 w B cs e/\
   v=.slice (some ⟨B,o+s.off * s.size,none⟩) s.rows.length cap/\s.rows.length<=cap/\o+(s.off+cap) * s.size<=cs.size/\
   (∀j,j < vs.length->cs[o+s.off * s.size+j]?=vs[j]?)/\(s.Ql=true->γ.Qp B=0)/\γ.Qp B<=o+(s.off+s.rows.length) * s.size
theorem EG{P:Program}{G:zi}{γ:Gh}{st:St}{tmps:Array Value}{w:World}(h:Qc G γ st tmps w){b off len:Nat}{k:Qa}(hk:st.b b=some k)(hlen:off+len<=k.rows.length){v:Value}
  (hr:Qy γ w st.b st.u (.ref b off len) v) (Ql:Bool) :
  ∃vs,Ts P γ w st.b st.u ⟨some b,off,k.size,Ql,(k.rows.drop off).take len⟩ v vs/\
   ((((k.rows.drop off).take len)=[]/\(v=.slice none 0 0\/∃B,v=.slice (some B) 0 0))\/
    ∃B o cs e cap,γ.loc b=some (B,o)/\γ.own B=some (.Zp b)/\D5 w B cs e/\v=.slice (some ⟨B,o+off * k.size,none⟩) len cap/\len<=cap/\o+(off+cap) * k.size<=cs.size/\
     vs=(cs.toList.drop (o+off * k.size)).take (len * k.size)/\(k.Ql=true->γ.Qp B=0)/\γ.Qp B<=o+k.rows.length * k.size):=by
 have hl:((k.rows.drop off).take len).length=len:=by simp;omega
 rcases hr.ZI hk with⟨B,o,cap,rfl,hloc,_,hcap,hroom,hM,_⟩|⟨B,rfl,rfl,_⟩|⟨rfl,rfl,_⟩
 ·rcases h.b b k hk with⟨v1,_⟩|hm|⟨_,B',o',cs,e,h1,h2,h3,h4,h5,h6,h7,h8⟩
  ·grind
  ·exact(hm.small hM).elim
  ·rw[hloc] at h1;simp only[zD,zO] at h1;obtain⟨rfl,rfl⟩:=h1;have rd:=TQ.rd (b:=b) (w:=w) (γ:=γ) (bs:=st.b) (u:=st.u) Ql h4 h5 h6 hlen;obtain⟨cs',e',fz,r1,r2⟩:=hroom;obtain⟨fz3,h3e,_⟩:=id h3;rw[h3e] at r1;simp only[zD,Obj.cells.injEq] at r1;obtain⟨rfl,rfl,rfl⟩:=r1;refine⟨_,⟨rd,λ_=>by simp[Builtin.lenOf,hl],?_⟩,(by grind)⟩;simp only[hl];refine KK (by have:=rd.2.1;grind) λj v hv=>?_;rw[List.getElem?_take] at hv;split at hv
   ·rw[List.getElem?_drop] at hv;rw[h3.cellAt];simpa using hv
   ·simp at hv
 ·have e0:(k.rows.drop off).take 0=[]:=by simp
  rw[e0];exact⟨[],YK _ _ _ _ (.inr ⟨_,rfl⟩),(by grind)⟩
 ·have e0:(k.rows.drop off).take 0=[]:=by simp
  rw[e0];exact⟨[],YK _ _ _ _ (.inl rfl),.inl ⟨rfl,.inl rfl⟩⟩
theorem TA{P:Program}{G:zi}{γ:Gh}{st:St}{tmps:Array Value}{w:World}(h:Qc G γ st tmps w){size:Nat}{db:Option Nat}{c:V}{s:Src}(hs:Af st.b size db c=some s){v:Value}
  (hr:Qy γ w st.b st.u c v):s.size=size/\(∀b,db=some b->s.b≠some b)/\∃vs,Ts P γ w st.b st.u s v vs:=by
 unfold Af at hs;split at hs
 ·simp only[zD] at hs;subst hs;have:=hr.QL;subst this;exact⟨rfl,λb _=>by simp,[],YK _ _ _ _ (.inl rfl)⟩
 ·rename_i own sz rows;split at hs<;>simp at hs;rename_i hsz;subst hsz;subst hs;refine⟨rfl,λb _=>by simp,?_⟩;obtain⟨a,rfl,rfl⟩|⟨B,o,cap,vs,rfl,h1,h2,h3,h4⟩:=hr.HP
  ·cases a with
   | none=>exact⟨[],YK _ _ _ _ (.inl rfl)⟩
   | some a=>exact⟨[],YK _ _ _ _ (.inr ⟨a,rfl⟩)⟩
  ·have fl:rows.flatten.length=rows.length * sz:=by
    rw[List.length_flatten];have:rows.map List.length=List.replicate rows.length sz:=List.eq_replicate_iff.2 (by grind);rw[this];simp
   have rd:WW γ w st.b st.u ⟨none,0,sz,true,rows.map (·.map V.strip)⟩ ((List.range (rows.length * sz)).map vs):=by
    refine⟨λr hr=>?_,by simp,λi c hc=>?_⟩
    ·grind
    ·simp only[T2,wc,zG] at hc;obtain⟨c',hc',rfl⟩:=hc;have hlt:i < rows.length * sz:=by grind
     exact⟨vs i,by simp[hlt],(Qy.data (h4 i c' hc')).strip,(h4 i c' hc').XM,YW c'⟩
   refine⟨_,rd,λ_=>by simp[Builtin.lenOf],?_⟩;simp only[wG];refine KK (by simp) λj v hv=>?_;simp only[wc,zG] at hv;obtain⟨j',hj,rfl⟩:=hv;have hlt:j < rows.length * sz:=by grind
   simp_all
 ·rename_i b off len;split at hs
  ·rename_i k hk;split at hs
   ·rename_i hc;obtain⟨hsz,hlen⟩:=hc;subst hsz;split at hs
    ·simp only[zD] at hs;subst hs;obtain⟨vs,ho,_⟩:=EG (P:=P) h hk hlen hr true;refine⟨rfl,λb _=>by simp,vs,⟨ho.rd.strip none 0 rfl true,?_,?_⟩⟩
     ·have:=ho.len;grind
     ·have:=ho.first;grind
    ·rename_i hdb;simp only[zD] at hs;subst hs;obtain⟨vs,ho,_⟩:=EG (P:=P) h hk hlen hr true;grind
   ·simp at hs
  ·simp at hs
 ·simp at hs
theorem Ls{P:Program}{G:zi}{γ:Gh}{st:St}{tmps:Array Value}{w:World}(h:Qc G γ st tmps w){size:Nat}{c:V}{s:Src}(hs:Gp st.b size c=some s){v:Value}
  (hr:Qy γ w st.b st.u c v):s.size=size/\∃vs,Ts P γ w st.b st.u s v vs/\Qdl γ w st s v vs:=by
 unfold Gp at hs;split at hs
 ·simp only[zD] at hs;subst hs;have:=hr.QL;subst this;exact⟨rfl,[],YK _ _ _ _ (.inl rfl),.inl ⟨rfl,.inl rfl⟩⟩
 ·rename_i b off len;split at hs
  ·rename_i k hk;split at hs<;>simp at hs;rename_i hc;obtain⟨hsz,hlen,hex⟩:=hc;subst hsz;subst hs;have hl:((k.rows.drop off).take len).length=len:=by simp;omega
   obtain⟨vs,ho,hsh⟩:=EG (P:=P) h hk hlen hr k.Ql;refine⟨rfl,vs,ho,?_⟩;rcases hsh with⟨h1,h2⟩|⟨B,o,cs,e,cap,h1,h2,h3,h4,h5,h6,h7,h8,h9⟩
   ·exact .inl ⟨h1,h2⟩
   ·refine .inr ⟨b,k,B,o,cs,e,cap,rfl,hk,h1,h2,h3,by rw[h4,hl],by rw[hl];exact h5,h6,?_,h8,?_⟩
    ·grind
    ·simp only[hl];grind
  ·simp at hs
 ·simp at hs
theorem Qc.BI{G:zi}{γ:Gh}{st:St}{tmps:Array Value}{w:World}(h:Qc G γ st tmps w){d:Nat}{b1 b2:Option Nat}{k:Qa}(hu:st.u d=false)(hk:k.rows=[]) :
  ∃γ',Qd γ w γ' w/\Qc G γ' (((st.QU b1).QU b2).Qu d k) tmps w/\G6 γ st.b st.u γ' (((st.QU b1).QU b2).Qu d k).b (((st.QU b1).QU b2).Qu d k).u:=by
 let γ':Gh:={ loc:=λb=>if b=d then none else γ.loc b,own:=γ.own,Qp:=γ.Qp }
 have hb2:∀b,b≠d->(((st.QU b1).QU b2).Qu d k).b b=if b1=some b\/b2=some b then none else st.b b:=by
  intro b hb;simp only[St.Qu];rw[if_neg hb,Gb,Gb];grind
 have hu2:∀b,st.u b=true->(((st.QU b1).QU b2).Qu d k).u b=true:=by
  intro b hb;simp only[St.Qu];split
  ·rfl
  ·cases b1<;>cases b2<;>simp only[St.QU,St.Zq]<;>(try split)<;>(try split)<;>first|rfl|exact hb
 have g:Qd γ w γ' w:=⟨rfl,rfl,rfl,zN _,λ_ _ _ _ h=>h,λ_ _=>zN _,(by grind),(by grind)⟩
 have bl:G6 γ st.b st.u γ' (((st.QU b1).QU b2).Qu d k).b (((st.QU b1).QU b2).Qu d k).u:=by
  refine⟨hu2,λb hb hn=>?_,λb k' hk'=>⟨hu2 b (h.u b k' hk'),?_⟩⟩
  ·grind
  ·have:b≠d:=λe=>by subst e;rw[h.Gd hu] at hk';simp at hk'
   grind
 refine⟨γ',g,⟨?_,λi=>?_,λb k' hk'=>?_,λb k' hk'=>?_,h.g.grow g,h.o⟩,bl⟩
 ·have:(((st.QU b1).QU b2).Qu d k).n=st.n:=by cases b1<;>cases b2<;>rfl
  rw[this];exact h.n
 ·have:(((st.QU b1).QU b2).Qu d k).t=st.t:=by cases b1<;>cases b2<;>rfl
  rw[this];exact(h.t i).mono g bl
 ·by_cases hbd:b=d
  ·subst hbd;simp only[St.Qu,if_pos] at hk';simp only[zD] at hk';subst hk';exact .inl ⟨by simp[γ'],hk⟩
  ·rw[hb2 b hbd] at hk';split at hk'
   ·simp at hk'
   ·rcases h.b b k' hk' with⟨v1,v2⟩|hm|⟨hM2,X,o',cs',e',a1,a2,a3,a4,a5,a6,a7,a8⟩
    ·exact .inl (by grind)
    ·exact .inr (.inl (hm.same (by grind) (by grind) λc v hr=>hr.mono g bl))
    ·refine .inr (.inr ⟨hM2,X,o',cs',e',by grind,a2,a3,a4,a5,λi c hc=>?_,a7,a8⟩);obtain⟨v,b1,b2,b3,b4⟩:=a6 i c hc;exact⟨v,b1,b2.mono g bl,b3,b4.mono (by grind)⟩
 ·by_cases hbd:b=d
  ·grind [St.Qu]
  ·rw[hb2 b hbd] at hk';split at hk'
   ·simp at hk'
   ·exact hu2 b (h.u b k' hk')
def Tg(P:Program)(look:zj)(t t2:TypeId)(db:Src->Option Nat)(x y:V):Option (Src×Src×Qa):=
 match P.underlying t,P.underlying t2 with
 | some (.slice e),some (.slice _)=>match P.info? e with
  | some ei=>match Gp look ei.size x with
   | some ds=>match Af look ei.size (db ds) y with
    | some ss=>if (ds.rows.length+ss.rows.length) * ei.bytes<=140737488355328/\0 < ei.bytes/\(zeroV P e).map List.length=some ei.size then some (ds,ss,⟨ei.size,ds.Ql,ds.rows++ss.rows⟩) else none
    | none=>none
   | none=>none
  | none=>none
 | _,_=>none
theorem PS{look:zj}{size:Nat}{db:Option Nat}{c:V}{s:Src}(h:Af look size db c=some s):∀b,db=some b->s.b≠some b:=by
 intro b hb;unfold Af at h;grind
theorem OK{P:Program}{look:zj}{t t2:TypeId}{x y:V}{ds ss:Src}{k:Qa}(h:Er P look t t2 x y=some (ds,ss,k)):∀b,ds.b=some b->ss.b≠some b:=by
 unfold Er at h;split at h
 ·split at h
  ·split at h
   ·split at h
    ·rename_i hss;split at h<;>simp at h;obtain⟨rfl,rfl,_⟩:=h;exact PS hss
    ·simp at h
   ·simp at h
  ·simp at h
 ·simp at h
theorem Gg{P:Program}{G:zi}{o:Oper}{st:St}{x y:Operand}{t t2:TypeId}{d:Nat}{cx cy:V}{ds0 ss0:Src}{k0:Qa}(ho:o.op=.call { callee:=.builtin .append,args:=#[x,y],argTypes:=#[t,t2] })
    (hd:o.dst=some d) (hn:d < st.n) (hu:st.u d=false) (hx:iX G st x cx) (hy:iX G st y cy) {db:Src->Option Nat} (ha:Tg P st.b t t2 db cx cy=some (ds0,ss0,k0)) (hnn:∀b,ds0.b=some b->ss0.b≠some b) :
    I9 P G o st ((((st.QU ds0.b).QU ss0.b).Qu d k0).QR d (.ref d 0 (ds0.rows.length+ss0.rows.length))):=
  M4 λγ a w hs=>by
    unfold Tg at ha;split at ha
    · rename_i e e2 ht ht2
      split at ha
      · rename_i ei hi
        split at ha
        · rename_i ds hds
          split at ha
          · rename_i ss hss
            split at ha<;>simp at ha;rename_i hcond;obtain⟨rfl,rfl,rfl⟩:=ha;obtain⟨hbytes,hbpos,hzl⟩:=hcond;obtain⟨zc,hzc,hzlen⟩:=zG.1 hzl;have hM:ds.size < Y8:=by
              rw[(Ls (P:=P) hs hds (hx γ a w hs)).1,<-hzlen];exact(O7 hzc).2
            obtain⟨e1,vd,hdo,hda⟩:=Ls (P:=P) hs hds (hx γ a w hs);obtain⟨e2',_,vsr,hso⟩:=TA (P:=P) hs hss (hy γ a w hs);have hne:∀b,ds.b=some b->ss.b≠some b:=hnn;have pre : execOp a.eval o = (do let v <- Builtin.append_ #[t, t2] o.type #[a.eval x, a.eval y]; pure (.value v)) := by
              have h1:execOp a.eval o=builtin .append #[t,t2] o.type (#[x,y].map fun|.const _=>true|_=>false) (#[x,y].map a.eval):=by
                show (execOp a.eval o)=_;unfold execOp;rw[ho];rfl
              rw[h1];simp[builtin]
            obtain⟨z,hz1,hz2⟩:∃z,ei.zero=some z/\z.cells.size=ei.size:=by
              obtain⟨zv,hr,hcr⟩:=Uu (P:=P) (γ:=γ) (w:=w) (bs:=st.b) (u:=st.u) hzc
              replace hzc:=(O7 hzc).1
              unfold LA at hzc;rw[hi] at hzc;simp only at hzc;cases hz:ei.zero with
              | none=>grind
              | some z=>
                have:(zeroValue e).run P w=.ok z w:=by simp[zeroValue,typeInfo,hi,hz]
                rw[this] at hr;simp only[Result.ok.injEq,and_true] at hr;subst hr;exact⟨z,rfl,by rw[hcr.1,hzlen]⟩
            have hdl:vd.length=ds.rows.length * ei.size:=by rw[<-e1];exact hdo.rd.2.1
            have hsl:vsr.length=ss.rows.length * ei.size:=by rw[<-e2'];exact hso.rd.2.1
            have h63:((ds.rows.length+ss.rows.length:Nat):Int)<=9223372036854775807:=by
              have:ds.rows.length+ss.rows.length<=(ds.rows.length+ss.rows.length) * ei.bytes:=Nat.le_mul_of_pos_right _ hbpos;omega
            have hone:∀v,v∈vsr->v.oneCell'=true:=λv hv=>by
              obtain⟨j,hj,rfl⟩:=List.getElem_of_mem hv;have fl:ss.rows.flatten.length=ss.rows.length * ss.size:=by
                rw[List.length_flatten];have:ss.rows.map List.length=List.replicate ss.rows.length ss.size:=List.eq_replicate_iff.2 ⟨by simp,λx hx=>by obtain⟨r,hr,rfl⟩:=zM.1 hx;exact hso.rd.1 r hr⟩;rw[this];simp
              have hjl:j < ss.rows.flatten.length:=by grind
              obtain⟨v,a1,_,a3,_⟩:=hso.rd.2.2 j _ (wl hjl);grind
            obtain⟨base,cap,hv⟩:∃base cap,a.eval x=.slice base ds.rows.length cap:=by
              rcases hda with⟨h0,h1|⟨B,h1⟩⟩|⟨b,k,B,o',cs,e',cap,_,_,_,_,_,h1,_⟩
              · grind
              · grind
              grind
            have hlenS:=hso.len
            have hfS:=hso.first
            have hfD:=hdo.first;rw[e2'] at hfS;rw[e1,hv] at hfD;rw[show (⟨ei.size,ds.Ql,ds.rows++ss.rows⟩:Qa)=⟨ds.size,ds.Ql,ds.rows++ss.rows⟩ by rw[e1]];by_cases hg:cap < ds.rows.length+ss.rows.length
            ·
              have hrun:=Ko (P:=P) (w:=w) t t2 o.type e e2 ei z ht ht2 hi hz1 base ds.rows.length cap ss.rows.length (a.eval y) vd vsr hlenS hfD hfS hg h63 (growslice_fits hg hbytes)
              let N:=grownCap w (ds.rows.length+ss.rows.length) cap e
              have hN:ds.rows.length+ss.rows.length<=N:=by
                show _<=(Question.appendCap _ _ _).cut _;grind [Question.cut]
              let cs:Array Value:=vd.toArray++vsr.toArray++Builtin.zeroCells z.cells (N - (ds.rows.length+ss.rows.length))
              have hzc:(Builtin.zeroCells z.cells (N - (ds.rows.length+ss.rows.length))).size=(N - (ds.rows.length+ss.rows.length)) * ei.size:=by simp[Builtin.zeroCells,hz2]
              have hcs:cs.size=N * ei.size:=by
                simp only[cs,Array.size_append,hzc,List.size_toArray,hdl,hsl];rw[<-wB,<-wB];congr 1;omega
              have hh:(w.drew.alloc (.cells cs e)).heap=w.heap.push (.cells cs e):=rfl
              have gp:Qd γ w (γ.add d w.heap.size) (w.drew.alloc (.cells cs e)):=Qd.push hh ⟨rfl,rfl,rfl⟩ d
              have g:Qd γ w (γ.move ds ss d w.heap.size 0 0) (w.drew.alloc (.cells cs e)):=by
                refine⟨gp.os,gp.tape,gp.output,gp.size,gp.PQ,gp.Qp,λB hB ho=>?_,gp.room⟩;obtain⟨q1,q2,q3⟩:=gp.free B hB ho;refine⟨q1,?_,q3⟩;simp only[Gh.move];rw[if_neg (by omega),ho];rfl
              have hlt:∀X t,γ.own X=some t->X≠w.heap.size:=λX t hX=>by have:=hs.o X t hX;omega
              have hroomcs:(ds.rows.length+ss.rows.length) * ei.size<=cs.size:=by grind
              have key:=hs.Pw (Qp:=0) (B:=w.heap.size) (o:=0) (cs:=cs) (e:=e) (w1:=w.drew.alloc (.cells cs e)) hM hu hdo.rd hso.rd (e1.trans e2'.symm) hne (.of (by rw[hh];simp)) (by grind)
                (by grind) g
                (by grind) (by rw[hh];simp) (λX t hX=>by rw[hh];have:=hs.o X t hX;simp;omega) (λ_=>rfl) (Nat.zero_le _) (by grind)
              refine⟨_,_,_,by rw[pre,zQ,hv,hrun,zT];rfl,g,key.2.Uk,?_⟩;have hb:=key.1.put (a:=a) (dst:=some d) (c:=.ref d 0 (ds.rows.length+ss.rows.length)) (v:=.slice (some ⟨w.heap.size,0,none⟩) (ds.rows.length+ss.rows.length) N)
                (by have : (((st.QU ds.b).QU ss.b).Qu d ⟨ds.size, ds.Ql, ds.rows ++ ss.rows⟩).n = st.n := by cases ds.b <;> cases ss.b <;> rfl
                    grind [H9]) (by
                have:=Qy.ref (γ:=γ.move ds ss d w.heap.size 0 0) (w:=w.drew.alloc (.cells cs e)) (bs:=(((st.QU ds.b).QU ss.b).Qu d ⟨ds.size,ds.Ql,ds.rows++ss.rows⟩).b) (u:=(((st.QU ds.b).QU ss.b).Qu d ⟨ds.size,ds.Ql,ds.rows++ss.rows⟩).u)
                  d 0 (ds.rows.length+ss.rows.length) w.heap.size 0 N ⟨ds.size,ds.Ql,ds.rows++ss.rows⟩ (by simp[St.Qu]) (by simp[Gh.move]) (by simp) hN ⟨cs,e,(0,0),by rw[hh];simp,by grind⟩ hM (by simpa using hN)
                grind)
              rw[hd];exact hb
            ·
              rcases hda with⟨h0,hsh⟩|⟨b,k,B,o',cs,e',cap',hdb,hk,hloc,hown,hheap,hval,hcap,hroom,hcell,hl0,hl1⟩
              ·
                have hcap0:cap=0:=by
                  grind
                have hss0:ss.rows=[]:=(by grind)
                have hds0:ds.rows.length=0:=by rw[h0];rfl
                have hrun:=Xf (P:=P) (w:=w) t t2 o.type e e2 ei ht ht2 hi base (a.eval y) cap (λw1=>by have:=hlenS w1;rw[hss0] at this;exact this) (λw1 hw=>by
                  have:=hfS w1 hw;rw[hss0] at this
                  have hv0:vsr=[]:=qh.1 (by rw[hsl,hss0];simp);rw[hv0] at this;exact this)
                obtain⟨γ',g,hs',bl⟩:=hs.BI (d:=d) (b1:=ds.b) (b2:=ss.b) (k:=⟨ds.size,ds.Ql,ds.rows++ss.rows⟩) hu (by rw[h0,hss0];rfl);refine⟨_,_,γ',by rw[pre,zQ,hv,hds0,hrun,zT];rfl,g,bl.Uk,?_⟩;have hb:=hs'.put (a:=a) (dst:=some d) (c:=.ref d 0 0) (v:=.slice base 0 cap)
                  (by have : (((st.QU ds.b).QU ss.b).Qu d ⟨ds.size, ds.Ql, ds.rows ++ ss.rows⟩).n = st.n := by cases ds.b <;> cases ss.b <;> rfl
                      simpa[H9,this] using hn) (by
                  rw[hcap0];rcases hsh with h1|⟨B',h1⟩<;>(rw[hv] at h1;simp only[Value.slice.injEq] at h1;rw[h1.1])
                  · exact .ZQ d 0 ⟨ds.size,ds.Ql,ds.rows++ss.rows⟩ (by simp[St.Qu]) hM (by simp_all)
                  · exact .ZB d 0 B' ⟨ds.size,ds.Ql,ds.rows++ss.rows⟩ (by simp[St.Qu]) hM (by simp_all))
                rw[hd,show ds.rows.length+ss.rows.length=0 by rw[hds0,hss0];rfl,<-hds0];rw[hds0];exact hb
              ·
                rw[hv] at hval;simp only[Value.slice.injEq,true_and] at hval;obtain⟨rfl,rfl⟩:=hval;rw[e1] at hroom hcell hl1 hv;have hge:ds.rows.length+ss.rows.length<=cap:=by omega
                have hr1:(ds.off+(ds.rows.length+ss.rows.length)) * ei.size<=(ds.off+cap) * ei.size:=wM _ (by omega);simp only[wB] at hr1 hroom hl1
                have hroom2:o'+ds.off * ei.size+ds.rows.length * ei.size+vsr.length<=cs.size:=by rw[hsl];omega
                have hrun:=ML (P:=P) (w:=w) t t2 o.type e e2 ei ht ht2 hi B (o'+ds.off * ei.size) ds.rows.length cap ss.rows.length (a.eval y) vsr cs e' hlenS hfS hge hheap hone hroom2;obtain⟨s1,s2⟩:=R9 vsr (o'+ds.off * ei.size+ds.rows.length * ei.size) cs hroom2
                have hBlt:=hs.o B _ hown
                have gp:Qd γ w γ (World.QQ w B (E7 cs (o'+ds.off * ei.size+ds.rows.length * ei.size) vsr) e'):=Qd.QQ hheap s1 (λj v hj hc=>by
                  rw[s2,if_neg (by omega)];exact hc) hown
                have g:Qd γ w (γ.move ds ss d B (o'+ds.off * ei.size) (γ.Qp B)) (World.QQ w B (E7 cs (o'+ds.off * ei.size+ds.rows.length * ei.size) vsr) e'):=by
                  refine⟨gp.os,gp.tape,gp.output,gp.size,gp.PQ,λX hX=>?_,λX hX ho=>?_,λX cs2 e2 fz hc=>by
                    obtain⟨cs3,fz',q1,q2,q3⟩:=gp.room X cs2 e2 fz hc;refine⟨cs3,fz',q1,q2,q3.imp id λq=>?_⟩;simp only[Gh.move];split
                    · rename_i hXB;rw[<-hXB];exact q
                    · exact q⟩
                  · simp only[Gh.move];split
                    · rename_i hXB;rw[hXB];exact zN _
                    · exact zN _
                  · obtain⟨q1,q2,q3⟩:=gp.free X hX ho
                    have hXB:X≠B:=λe=>by subst e;rw[hown] at ho;simp at ho
                    refine⟨q1,?_,?_⟩
                    · simp only[Gh.move];rw[if_neg hXB,ho];rfl
                    · simp only[Gh.move];rw[if_neg hXB]
                have key:=hs.Pw (Qp:=γ.Qp B) (B:=B) (o:=o'+ds.off * ei.size) (cs:=E7 cs (o'+ds.off * ei.size+ds.rows.length * ei.size) vsr) (e:=e') hM hu hdo.rd hso.rd (e1.trans e2'.symm) hne (hheap.set s1) (by rw[s1,e1,wB];omega)
                  (λj hj=>by
                    rw[s2];by_cases hjd:j < vd.length
                    · rw[if_neg (by omega),wq hjd];exact hcell j hjd
                    · rw[if_pos (by omega),wz (by omega)]
                      congr 1;omega) g
                  (λb' k' X o2 hk' hnb _ _ hX=>by
                    have hXB:X≠B:=λe=>by
                      subst e;rw[hown] at hX;simp only[zD,M0.Zp.injEq] at hX;exact hnb (by rw[hdb,hX])
                    exact⟨hXB,YM hXB⟩) (by simpa[World.QQ] using hBlt) (λX t hX=>by simpa[World.QQ] using hs.o X t hX) hl0 (by rw[e1,wB];omega)
                  (λX b' i j hX e=>by subst e;rw[hown] at hX;simp at hX)
                refine⟨_,_,_,by rw[pre,zQ,hv,hrun,zT];rfl,g,key.2.Uk,?_⟩;have hb:=key.1.put (a:=a) (dst:=some d) (c:=.ref d 0 (ds.rows.length+ss.rows.length)) (v:=.slice (some ⟨B,o'+ds.off * ei.size,none⟩) (ds.rows.length+ss.rows.length) cap)
                  (by have : (((st.QU ds.b).QU ss.b).Qu d ⟨ds.size, ds.Ql, ds.rows ++ ss.rows⟩).n = st.n := by cases ds.b <;> cases ss.b <;> rfl
                      simpa[H9,this] using hn) (by
                  have:=Qy.ref (γ:=γ.move ds ss d B (o'+ds.off * ei.size) (γ.Qp B)) (w:=World.QQ w B (E7 cs (o'+ds.off * ei.size+ds.rows.length * ei.size) vsr) e') (bs:=(((st.QU ds.b).QU ss.b).Qu d ⟨ds.size,ds.Ql,ds.rows++ss.rows⟩).b) (u:=(((st.QU ds.b).QU ss.b).Qu d ⟨ds.size,ds.Ql,ds.rows++ss.rows⟩).u)
                    d 0 (ds.rows.length+ss.rows.length) B (o'+ds.off * ei.size) cap ⟨ds.size,ds.Ql,ds.rows++ss.rows⟩ (by simp[St.Qu]) (by simp[Gh.move]) (by simp) hge ((hheap.set s1).room (by rw[s1,e1];simp only[zW];omega)) hM (by simpa using hge)
                  simpa using this)
                rw[hd];exact hb
          · simp at ha
        · simp at ha
      · simp at ha
    · simp at ha
theorem Gn{P:Program}{G:zi}{o:Oper}{st:St}{x y:Operand}{t t2:TypeId}{d:Nat}{cx cy:V}{ds0 ss0:Src}{k0:Qa}(ho:o.op=.call { callee:=.builtin .append,args:=#[x,y],argTypes:=#[t,t2] })
  (hd:o.dst=some d) (hn:d < st.n) (hu:st.u d=false) (hx:iX G st x cx) (hy:iX G st y cy) (ha:Er P st.b t t2 cx cy=some (ds0,ss0,k0)) :
  I9 P G o st ((((st.QU ds0.b).QU ss0.b).Qu d k0).QR d (.ref d 0 (ds0.rows.length+ss0.rows.length))):=
 Gg (db:=λds=>ds.b) ho hd hn hu hx hy ha (OK ha)
theorem RH{P:Program}{G:zi}{o:Oper}{st:St}{x y:Operand}{t t2:TypeId}{d:Nat}{cx cy:V}{ds0 ss0:Src}{k0:Qa}(ho:o.op=.call { callee:=.builtin .append,args:=#[x,y],argTypes:=#[t,t2] })
  (hd:o.dst=some d) (hn:d < st.n) (hu:st.u d=false) (hx:st.ev G x=some cx) (hy:st.ev G y=some cy) (ha:Er P st.b t t2 cx cy=some (ds0,ss0,k0)) :
  I9 P G o st ((((st.QU ds0.b).QU ss0.b).Qu d k0).QR d (.ref d 0 (ds0.rows.length+ss0.rows.length))):=
 Gn ho hd hn hu (λ_ _ _ hs=>hs.ev hx) (λ_ _ _ hs=>hs.ev hy) ha
mutual
def okV(u:zl):V->Bool
 | .ref b _ _=>u b
 | .ptr b _ _=>u b
 | .mp b=>u b
 | .fn _ a c=>Md u a&&Md u c
 | .agg l=>Md u l
 | .Qt l=>Md u l
 | _=>true
def Md(u:zl):List V->Bool
 | []=>true
 | c :: l=>okV u c&&Md u l
end
theorem Yv{u:zl}:∀{l:List V},Md u l=true->∀{i:Nat} {c:V},l[i]?=some c->okV u c=true
 | [],_,i,c,h=>by simp at h
 | x :: l,hl,i,c,h=>by
  simp only[Md,zF] at hl;cases i with
  | zero=>grind
  | succ i=>exact Yv hl.2 (by simpa using h)
theorem Qy.shrink{γ:Gh}{w:World}{bs bs':zj}{u u':zl}(hb:∀b,bs' b=none\/bs' b=bs b){c:V}{v:Value}(h:Qy γ w bs u c v):okV u' c=true->Qy γ w bs' u' c v:=by
 induction h with
 | data h=>exact λ_=>.data h
 | undef v=>exact λ_=>.undef v
 | ref b off len B o cap k h1 h2 h3 h4 h5 h6 h7=>
  intro hu;rcases hb b with hn|he
  ·exact .Qs b off len _ hn (by simpa[okV] using hu) rfl
  ·exact .ref b off len B o cap k (he.trans h1) h2 h3 h4 h5 h6 h7
 | ZB b off B k h1 h6 h2=>
  intro hu;rcases hb b with hn|he
  ·exact .Qs b off 0 _ hn (by simpa[okV] using hu) rfl
  ·exact .ZB b off B k (he.trans h1) h6 h2
 | ZQ b off k h1 h6 h2=>
  intro hu;rcases hb b with hn|he
  ·exact .Qs b off 0 _ hn (by simpa[okV] using hu) rfl
  ·exact .ZQ b off k (he.trans h1) h6 h2
 | Qs b off len v h1 h2 h3=>
  intro hu;refine .Qs b off len v ?_ (by simpa[okV] using hu) h3;grind
 | ptr b i off B o k h1 h2 h3=>
  intro hu;rcases hb b with hn|he
  ·exact .QW b i off _ hn (by simpa[okV] using hu) rfl
  ·exact .ptr b i off B o k (he.trans h1) h2 h3
 | mp b B k h1 h2 h3=>
  intro hu;rcases hb b with hn|he
  ·exact .QI b _ hn (by simpa[okV] using hu) rfl
  ·exact .mp b B k (he.trans h1) h2 h3
 | QI b v h1 h2 h3=>
  intro hu;refine .QI b v ?_ (by simpa[okV] using hu) h3;grind
 | QW b i off v h1 h2 h3=>
  intro hu;refine .QW b i off v ?_ (by simpa[okV] using hu) h3;grind
 | fn f first captured fs cs h1 h2 _ _ ih1 ih2=>
  intro hu;simp only[okV,zF] at hu;exact .fn f first captured fs cs h1 h2 (by grind [Yv]) (by grind [Yv])
 | agg cells vs h1 _ ih=>intro hu;exact .agg cells vs h1 (by grind [Yv,okV])
 | Qt cells vs h1 _ ih=>intro hu;exact .Qt cells vs h1 (by grind [Yv,okV])
structure N5(st st':St):Prop where
 n:st'.n=st.n
 t:∀i,st'.t i=.undef\/(st'.t i=st.t i/\okV st'.u (st.t i)=true)
 b:∀b,st'.b b=none\/(st'.b b=st.b b/\∀k,st.b b=some k->st'.u b=true/\∀r,r∈k.rows->∀c,c∈r->okV st'.u c=true)
 p:∀b,X8 b=true->st'.u b=true
theorem N5.Nc{G:zi}{γ:Gh}{st st':St}{tmps:Array Value}{w:World}(f:N5 st st')(h:Qc G γ st tmps w):Qc G γ st' tmps w where
 n:=by rw[f.n];exact h.n
 t:=λi=>by
  rcases f.t i with e|⟨e,hk⟩
  ·rw[e];exact .undef _
  ·rw[e];exact(h.t i).shrink (λb=>(f.b b).imp id And.left) hk
 b:=λb k hk=>by
  rcases f.b b with e|⟨e,hr⟩
  ·grind
  ·rw[e] at hk;rcases h.b b k hk with h0|hm|⟨hM,B,o,cs,e',h1,h2,h3,h4,h5,h6,h7,h8⟩
   ·exact .inl h0
   ·obtain⟨hM,B,es,clock,h1,h2,h3,h4,h5,h6,h7⟩:=hm;refine .inr (.inl ⟨hM,B,es,clock,h1,h2,h3,h4,h5,h6,λi c hc=>?_⟩);obtain⟨v,a1,a2,a3⟩:=h7 i c hc;refine⟨v,a1,a2.shrink (λb=>(f.b b).imp id And.left) ?_,a3⟩;obtain⟨r,hr1,hr2⟩:=wN.1 (zV hc);grind
   ·refine .inr (.inr ⟨hM,B,o,cs,e',h1,h2,h3,h4,h5,λi c hc=>?_,h7,h8⟩);obtain⟨v,a1,a2,a3,a4⟩:=h6 i c hc;refine⟨v,a1,a2.shrink (λb=>(f.b b).imp id And.left) ?_,a3,a4⟩;obtain⟨r,hr1,hr2⟩:=wN.1 (zV hc);grind
 u:=λb k hk=>by
  rcases f.b b with e|⟨e,hr⟩
  ·grind
  grind
 g:=h.g
 o:=h.o
theorem N5.Uk{G:zi}{γ:Gh}{st st':St}{tmps:Array Value}{w:World}(f:N5 st st')(_:Qc G γ st tmps w):Zf γ st.b st.u γ st'.b st'.u:=λb hb=>by
 refine⟨λ_=>f.p b hb,λ_ hn=>?_,λk hk=>⟨f.p b hb,?_⟩⟩
 ·rcases f.b b with e|⟨e,_⟩
  ·exact e
  grind
 ·rcases f.b b with e|⟨e,_⟩
  ·exact .inl e
  grind
def D2(n:Nat)(ts:List (Nat×V))(bs:List (Nat×Qa))(us:List Nat):St where
 n:=n
 t:=λi=>match ts.find? (λp=>p.1==i) with|some p=>p.2|none=>.undef
 b:=λi=>match bs.find? (λp=>p.1==i) with|some p=>some p.2|none=>none
 u:=λi=>us.contains i || Qk i
theorem VR{st:St}{n:Nat}{ts:List (Nat×V)}{bs:List (Nat×Qa)}{us:List Nat}(hn:n=st.n)(ht:ts.map (λp=>st.t p.1)=ts.map (·.2))(hto:ts.all (λp=>okV (D2 n ts bs us).u p.2)=true)
  (hb:bs.map (λp=>st.b p.1)=bs.map (λp=>some p.2)) (hbu:bs.all (λp=>(D2 n ts bs us).u p.1)=true) (hbo:∀p,p∈bs->∀r,r∈p.2.rows->∀c,c∈r->okV (D2 n ts bs us).u c=true):N5 st (D2 n ts bs us) where
 n:=hn
 t:=λi=>by
  show (match ts.find? (λp=>p.1==i) with|some p=>p.2|none=>V.undef)=.undef\/_;cases hf:ts.find? (λp=>p.1==i) with
  | none=>exact .inl rfl
  | some p=>
   grind [List.mem_of_find?_eq_some,List.map_inj_left,List.all_eq_true,okV,D2]
 b:=λi=>by
  show (match bs.find? (λp=>p.1==i) with|some p=>some p.2|none=>none)=none\/_;cases hf:bs.find? (λp=>p.1==i) with
  | none=>exact .inl rfl
  | some p=>
   refine .inr ?_;have hm:=qe hf;have hi:p.1=i:=by grind
   have e:st.b p.1=some p.2:=List.map_inj_left.1 hb p hm;refine⟨?_,λk hk=>?_⟩
   ·show (match bs.find? (λp=>p.1==i) with|some p=>some p.2|none=>none)=st.b i;grind
   grind
 p:=(by grind [Ja,D2,Qk])
end Go.EV
namespace Go.EV
open Go
inductive Loc where
 | t (i:Nat)
 | b (i:Nat)
 deriving DecidableEq
inductive Wr where
 | t (i:Nat) (c:V)
 | b (i:Nat) (k:Option Qa)
def Wr.loc:Wr->Loc
 | .t i _=>.t i
 | .b i _=>.b i
def St.wr(st:St):Wr->St
 | .t i c=>st.QR i c
 | .b i (some k)=>st.Qu i k
 | .b i none=>st.Zq i
def St.app(st:St)(ws:List Wr):St:=ws.foldl St.wr st
def O4(a b:St):Loc->Prop
 | .t i=>a.t i=b.t i
 | .b i=>a.b i=b.b i/\a.u i=b.u i
theorem St.ext'{a b:St}(hn:a.n=b.n)(h:∀l,O4 a b l):a=b:=by
 cases a;cases b;simp only at hn;simp only[St.mk.injEq];exact⟨hn,funext λi=>h (.t i),funext λi=>(h (.b i)).1,funext λi=>(h (.b i)).2⟩
theorem O4.trans{a b c:St}{l:Loc}(h:O4 a b l)(k:O4 b c l):O4 a c l:=by
 cases l with
 | t i=>exact Eq.trans (show a.t i=b.t i from h) k
 | b i=>exact⟨h.1.trans k.1,h.2.trans k.2⟩
theorem O4.symm{a b:St}{l:Loc}(h:O4 a b l):O4 b a l:=by
 cases l with
 | t i=>exact Eq.symm (show a.t i=b.t i from h)
 | b i=>exact⟨h.1.symm,h.2.symm⟩
theorem O4.refl(a:St)(l:Loc):O4 a a l:=by
 cases l with
 | t i=>rfl
 | b i=>exact⟨rfl,rfl⟩
theorem Qdb(st:St)(x:Wr):(st.wr x).n=st.n:=by
 cases x with
 | t=>rfl
 | b i k=>cases k<;>rfl
theorem LU(ws:List Wr)(st:St):(st.app ws).n=st.n:=by
 induction ws generalizing st with
 | nil=>rfl
 | cons x ws ih=>exact(ih (st.wr x)).trans (Qdb st x)
theorem XV(st:St)(x:Wr){l:Loc}(h:x.loc≠l):O4 (st.wr x) st l:=by
 cases x with
 | t i c=>
  cases l with
  | t j=>show (if j=i then c else st.t j)=st.t j;rw[if_neg (by grind [Wr.loc])]
  | b j=>exact⟨rfl,rfl⟩
 | b i k=>
  cases l with
  | t j=>cases k<;>rfl
  | b j=>
   have hj:¬j=i:=(by grind [Wr.loc]);cases k with
   | none=>exact⟨by show (if j=i then none else st.b j)=_;rw[if_neg hj],by show (if j=i then true else st.u j)=_;rw[if_neg hj]⟩
   | some k=>exact⟨by show (if j=i then some k else st.b j)=_;rw[if_neg hj],by show (if j=i then true else st.u j)=_;rw[if_neg hj]⟩
theorem oD(a b:St)(x:Wr):O4 (a.wr x) (b.wr x) x.loc:=by
 cases x with
 | t i c=>show (if i=i then c else a.t i)=(if i=i then c else b.t i);simp
 | b i k=>
  cases k with
  | none=>exact⟨by show (if i=i then none else a.b i)=(if i=i then none else b.b i);simp,by show (if i=i then true else a.u i)=(if i=i then true else b.u i);simp⟩
  | some k=>exact⟨by show (if i=i then some k else a.b i)=(if i=i then some k else b.b i);simp,by show (if i=i then true else a.u i)=(if i=i then true else b.u i);simp⟩
theorem yI{a b:St}(x:Wr){l:Loc}(h:O4 a b l):O4 (a.wr x) (b.wr x) l:=by
 by_cases hl:x.loc=l
 ·grind [oD]
 ·exact(XV a x hl).trans (h.trans (XV b x hl).symm)
theorem Ke(ws:List Wr){a b:St}{l:Loc}(h:O4 a b l):O4 (a.app ws) (b.app ws) l:=by
 induction ws generalizing a b with
 | nil=>exact h
 | cons x ws ih=>exact ih (yI x h)
theorem O5(ws:List Wr)(st:St){l:Loc}(h:∀x,x∈ws->x.loc≠l):O4 (st.app ws) st l:=by
 induction ws generalizing st with
 | nil=>exact O4.refl _ _
 | cons x ws ih=>exact(ih (st.wr x) λy hy=>h y (by simp[hy])).trans (by grind [XV])
def He(ws:List Wr)(ls:List Loc):Bool:=ws.all λx=>!ls.contains x.loc
theorem JY{ws:List Wr}{ls:List Loc}(h:He ws ls=true){l:Loc}(hl:l∈ls):∀x,x∈ws->x.loc≠l:=λx hx e=>by
 have:=zJ.1 h x hx;grind
theorem aF{w1 w2:List Wr}(h:He w1 (w2.map Wr.loc)=true)(st:St):(st.app w1).app w2=(st.app w2).app w1:=by
 refine St.ext' (by simp[LU]) λl=>?_;by_cases h2:l∈w2.map Wr.loc
 ·have k1:O4 ((st.app w1).app w2) (st.app w2) l:=Ke w2 (O5 w1 st (JY h h2));exact k1.trans (O5 w1 _ (JY h h2)).symm
 ·have hw2:∀x,x∈w2->x.loc≠l:=(by grind);exact(O5 w2 _ hw2).trans (Ke w1 (O5 w2 st hw2).symm)
def A7(P:Program)(G:zi)(ops:Array Oper)(i:Nat)(st:St)(R:List Loc)(ws:List Wr):Prop:=
 ∀st2:St,st2.n=st.n->(∀l,l∈R->O4 st st2 l)->B7 P G ops i st2 (st2.app ws)
abbrev Y4:=List (List Loc×List Wr)
def Y4.ws(p:Y4)(i:Nat):List Wr:=(p.getD i ([],[])).2
def Y4.rs(p:Y4)(i:Nat):List Loc:=(p.getD i ([],[])).1
def Y4.st(p:Y4)(D:zl)(st:St):Nat->St
 | 0=>st
 | n+1=>if D n then (Y4.st p D st n).app (p.ws n) else Y4.st p D st n
theorem Y4.jI(p:Y4)(D:zl)(st:St):∀n,(p.st D st n).n=st.n
 | 0=>rfl
 | n+1=>by
  simp only[Y4.st];split
  ·rw[LU];exact Y4.jI p D st n
  ·exact Y4.jI p D st n
theorem Y4.Ao(p:Y4){D E:zl}(st:St):∀n,(∀j,j < n->D j=E j)->p.st D st n=p.st E st n
 | 0,_=>rfl
 | n+1,h=>by
  simp only[Y4.st];rw[h n (by omega),Y4.Ao p st n (λj hj=>h j (by omega))]
theorem Y4.agree(p:Y4)(D:zl)(st:St)(i:Nat){l:Loc}:∀n,(∀j,j < n->(j < i↔D j=true)\/∀x,x∈p.ws j->x.loc≠l)->O4 (p.st (λj=>decide (j < i)) st n) (p.st D st n) l
 | 0,_=>O4.refl _ _
 | n+1,h=>by
  have ih:=Y4.agree p D st i (l:=l) n (by grind);simp only[Y4.st];rcases h n (by omega) with hd|ho
  ·by_cases hn:n < i
   ·simp_all [if_pos,Ke]
   grind
  ·have k:∀s:St,O4 (s.app (p.ws n)) s l:=λs=>O5 _ _ ho;split<;>split
   ·exact Ke _ ih
   ·exact(k _).trans ih
   ·exact ih.trans (k _).symm
   ·exact ih
theorem Y4.insert(p:Y4)(D:zl)(st:St)(i:Nat)(hi:D i=false):∀n,i < n->(∀j,i < j->j < n->D j=true->He (p.ws j) ((p.ws i).map Wr.loc)=true)->
  (p.st D st n).app (p.ws i)=p.st (λj=>D j || decide (j=i)) st n
 | 0,h,_=>by omega
 | n+1,h,hc=>by
  simp only[Y4.st];by_cases hn:i=n
  ·subst hn;rw[if_neg (by rw[hi];simp),if_pos (by simp)];congr 1;exact Y4.Ao p st i λj hj=>by simp;intro e;omega
  ·have ih:=Y4.insert p D st i hi n (by omega) (λj h1 h2 h3=>hc j h1 (by omega) h3);by_cases hd:D n=true
   ·rw[if_pos hd,if_pos (by simp[hd]),aF (hc n (by omega) (by omega) hd),ih]
   grind
def Jp(ops:List Oper):List Nat:=ops.foldl (λacc o=>acc++[o.after.toList.foldl (λs e=>if Region.binds .any e then s ||| 2 ^ e.on ||| acc.getD e.on 0 else s) 0]) []
def Y4.ok(ops:Array Oper)(p:Y4):Bool:=
 let ms:=Jp ops.toList
 (List.range ops.size).all λi=>(List.range i).all λj=>
  (ms.getD i 0).testBit j || (He (p.ws j) (p.rs i)&&He (p.ws i) (p.rs j)&&He (p.ws i) ((p.ws j).map Wr.loc))
def DM(ops:Array Oper)(D:zl):Prop:=∀i o,D i=true->ops[i]?=some o->∀e,e∈o.after->Region.binds .any e=true->D e.on=true
theorem kM{acc:List Nat}{j:Nat}:∀(es:List Edge) (s:Nat),(es.foldl (λs e=>if Region.binds .any e then s ||| 2 ^ e.on ||| acc.getD e.on 0 else s) s).testBit j=true->
  s.testBit j=true\/∃e,e∈es/\Region.binds .any e=true/\(e.on=j\/(acc.getD e.on 0).testBit j=true)
 | [],s,h=>.inl h
 | e :: es,s,h=>by
  simp only[List.foldl_cons] at h;rcases kM es _ h with h|⟨e',he,hb,hx⟩
  ·grind
  grind
theorem Le:∀(l:List Oper) (acc:List Nat) (done:List Oper),acc.length=done.length->
  (∀(i:Nat) (o:Oper) (j:Nat),done[i]?=some o->(acc.getD i 0).testBit j=true->∃e,e∈o.after.toList/\Region.binds .any e=true/\(e.on=j\/(e.on < i/\(acc.getD e.on 0).testBit j=true)))->
  ∀(i:Nat) (o:Oper) (j:Nat),(done++l)[i]?=some o->
   ((l.foldl (λacc o=>acc++[o.after.toList.foldl (λs e=>if Region.binds .any e then s ||| 2 ^ e.on ||| acc.getD e.on 0 else s) 0]) acc).getD i 0).testBit j=true->
   ∃e,e∈o.after.toList/\Region.binds .any e=true/\(e.on=j\/(e.on < i/\((l.foldl (λacc o=>acc++[o.after.toList.foldl (λs e=>if Region.binds .any e then s ||| 2 ^ e.on ||| acc.getD e.on 0 else s) 0]) acc).getD e.on 0).testBit j=true))
 | [],acc,done,_,h,i,o,j,ho,ht=>by
  grind
 | x :: l,acc,done,hl,h,i,o,j,ho,ht=>by
  have step:=Le l (acc++[x.after.toList.foldl (λs e=>if Region.binds .any e then s ||| 2 ^ e.on ||| acc.getD e.on 0 else s) 0]) (done++[x]) (by simp[hl]) ?_ i o j (by simpa using ho) ht
  ·exact step
  ·intro i o j ho ht;by_cases hi:i < done.length
   ·rw[wq hi] at ho;have e1:∀k,k < acc.length->(acc++[x.after.toList.foldl (λs e=>if Region.binds .any e then s ||| 2 ^ e.on ||| acc.getD e.on 0 else s) 0]).getD k 0=acc.getD k 0:=(by grind);grind
   ·have hi2:i=done.length:=by
     grind
    subst hi2;have ho':o=x:=by grind
    subst ho';have e2:(acc++[o.after.toList.foldl (λs e=>if Region.binds .any e then s ||| 2 ^ e.on ||| acc.getD e.on 0 else s) 0]).getD done.length 0=o.after.toList.foldl (λs e=>if Region.binds .any e then s ||| 2 ^ e.on ||| acc.getD e.on 0 else s) 0:=by
     grind
    rw[e2] at ht;rcases kM _ _ ht with h0|⟨e,he,hb,hx⟩
    ·simp at h0
    grind
theorem Bj{ops:Array Oper}{i j:Nat}{o:Oper}(ho:ops[i]?=some o)(h:((Jp ops.toList).getD i 0).testBit j=true) :
  ∃e,e∈o.after/\Region.binds .any e=true/\(e.on=j\/(e.on < i/\((Jp ops.toList).getD e.on 0).testBit j=true)):=by
 obtain⟨e,he,hb,hx⟩:=Le ops.toList [] [] rfl (by grind) i o j (by simpa using ho) h;exact⟨e,by simpa using he,hb,hx⟩
theorem T1{ops:Array Oper}{D:zl}(hc:DM ops D)(hin:∀i,D i=true->i < ops.size){j:Nat}:∀(n i:Nat),i < n->∀o,ops[i]?=some o->(D i=true\/∀e,e∈o.after->Region.binds .any e=true->D e.on=true)->
  ((Jp ops.toList).getD i 0).testBit j=true->D j=true
 | 0,i,h,_,_,_,_=>by omega
 | n+1,i,hi,o,ho,hd,ht=>by
  obtain⟨e,he,hb,hx⟩:=Bj ho ht;have hon:D e.on=true:=by
   rcases hd with hd|hd
   ·exact hc i o hd ho e he hb
   grind
  rcases hx with rfl|⟨h1,h2⟩
  ·exact hon
  ·have hs:=hin _ hon;exact T1 hc hin n e.on (by omega) ops[e.on] (by grind) (.inl hon) h2
def Ms(P:Program)(G:zi)(ops:Array Oper)(i:Nat)(st:St)(R:List Loc)(ex:Exit)(ws:List Wr):Prop:=
 ∀st2:St,st2.n=st.n->(∀l,l∈R->O4 st st2 l)->iU P G ops i st2 ex (st2.app ws)
theorem PA{P:Program}{G:zi}{ops:Array Oper}{st:St}{Q:Exit->St->Prop}{p:Y4}{ip:Nat}{ex:Exit}{W:List Wr}(hp:p.ok ops=true)
  (hback:∀i o,ops[i]?=some o->∀e,e∈o.after->Region.binds .any e=true->e.on < i)
  (hstep:∀i,i < ops.size->i≠ip->(ip < ops.size->((Jp ops.toList).getD i 0).testBit ip=false)->A7 P G ops i (p.st (λj=>decide (j < i)) st ops.size) (p.rs i) (p.ws i)) (hq:ops.size<=ip->Q .normal (p.st (λ_=>true) st ops.size))
  (hpan:ip < ops.size->Ms P G ops ip (p.st (λj=>decide (j < ip)) st ops.size) (p.rs ip) ex W/\∀D,Q ex ((p.st D st ops.size).app W))
  {fx:Fx} {γ0:Gh} {w0:World}:∀(O6:Nat) (D:zl) (listed:Array Bool) (γ:Gh) (a:Act) (w:World),listed.size=ops.size->(∀i,i < ops.size->listed.getD i true=D i/\listed.getD i false=D i)->(∀i,D i=true->i < ops.size/\i≠ip)->DM ops D->
   ((List.range ops.size).filter λi=>!D i).length<=O6->Qc G γ (p.st D st ops.size) a.tmps w->(Qd γ0 w0 γ w/\Zf γ0 st.b st.u γ (p.st D st ops.size).b (p.st D st ops.size).u)->a.defers=fx.ds->
   wpAnyIn (RF fx.ro) 0 P .any ops (F0 G fx γ0 st w0 Q) O6 listed a w:=by
 have pair:∀i j,i < ops.size->j < i->((Jp ops.toList).getD i 0).testBit j=true\/(He (p.ws j) (p.rs i)=true/\He (p.ws i) (p.rs j)=true/\He (p.ws i) ((p.ws j).map Wr.loc)=true):=by
  intro i j hi hj;unfold Y4.ok at hp;grind
 have readyD:∀(D:zl) (listed:Array Bool),(∀i,i < ops.size->listed.getD i true=D i/\listed.getD i false=D i)->listed.size=ops.size->∀i,i∈Region.ready .any ops listed->i < ops.size/\D i=false/\∀o,ops[i]?=some o->∀e,e∈o.after->Region.binds .any e=true->D e.on=true:=by
  grind [mem_ready,Array.getElem?_eq_some_iff,Option.some.injEq,Nat.lt_or_ge,Array.getD_eq_getD_getElem?,Array.getElem?_eq_none]
 have none_ready:∀(D:zl) (listed:Array Bool),(∀i,i < ops.size->listed.getD i true=D i/\listed.getD i false=D i)->Region.ready .any ops listed=[]->∀i,i < ops.size->D i=true:=by
  intro D listed hl hr i;induction i using Nat.strongRecOn with
  | _ i ih=>
   intro hi;cases hd:D i with
   | true=>rfl
   | false=>
    exfalso;have:i∈Region.ready .any ops listed:=mem_ready.2 ⟨by rw[(hl i hi).1];exact hd,ops[i],wm hi,λe he hb=>by
     have hb':=hback i _ (wm hi) e he hb;rw[(hl e.on (by omega)).2];exact ih e.on hb' (by omega)⟩
    rw[hr] at this;simp at this
 have fin:∀(D:zl) (γ:Gh) (a:Act) (w:World),(∀i,D i=true->i < ops.size/\i≠ip)->(∀i,i < ops.size->D i=true)->Qc G γ (p.st D st ops.size) a.tmps w->(Qd γ0 w0 γ w/\Zf γ0 st.b st.u γ (p.st D st ops.size).b (p.st D st ops.size).u)->a.defers=fx.ds->F0 G fx γ0 st w0 Q .normal a w:=by
  intro D γ a w hin hall hs hg hd;have hip:ops.size<=ip:=Nat.le_of_not_lt λh=>(hin ip (hall ip h)).2 rfl;have e:p.st D st ops.size=p.st (λ_=>true) st ops.size:=Y4.Ao p st _ hall;exact⟨_,γ,hs,hg,.of hd,by grind⟩
 intro O6;induction O6 with
 | zero=>
  intro D listed γ a w hsz hl hin hc hf hs hg hd;have hall:∀i,i < ops.size->D i=true:=by
   intro i hi;cases hdi:D i with
   | true=>rfl
   | false=>
    exfalso;have:i∈(List.range ops.size).filter λi=>!D i:=(by grind);grind
  refine⟨?_,(by grind)⟩;refine List.eq_nil_iff_forall_not_mem.2 λi hi=>?_;obtain⟨h1,h2,_⟩:=readyD D listed hl hsz i hi;grind
 | succ O6 ih=>
  intro D listed γ a w hsz hl hin hc hf hs hg hd;refine⟨λhr=>fin D γ a w hin (none_ready D listed hl hr) hs hg hd,λi hi=>?_⟩;have hin1:∀i,D i=true->i < ops.size:=λi h=>(hin i h).1;obtain⟨hlt,hDi,hpre⟩:=readyD D listed hl hsz i hi;have ho:ops[i]?=some ops[i]:=(by grind);have hagree:∀l,l∈p.rs i->O4 (p.st (λj=>decide (j < i)) st ops.size) (p.st D st ops.size) l:=by
   intro l hlr;refine Y4.agree p D st i ops.size λj hj=>?_;by_cases hji:j=i
   ·grind
   ·by_cases hlt':j < i
    ·rcases pair i j hlt hlt' with hm|⟨h1,_,_⟩
     ·have hDj:D j=true:=T1 hc hin1 (i+1) i (by omega) _ ho (.inr (hpre _ ho)) hm;grind
     grind [JY]
    ·rcases pair j i hj (by omega) with hm|⟨_,h2,_⟩
     ·refine .inl ⟨λh=>absurd h hlt',λhDj=>?_⟩;have hoj:ops[j]?=some ops[j]:=(by grind);have:=T1 hc hin1 (j+1) j (by omega) _ hoj (.inl hDj) hm;rw[hDi] at this;simp at this
     ·exact .inr (JY h2 hlr)
  by_cases hip:i=ip
  ·subst hip;obtain⟨h1,h3⟩:=hpan hlt;obtain⟨o,ho',hnd,hgd,he⟩:=h1 (p.st D st ops.size) (by simp[Y4.jI]) hagree;unfold wpOpIn;rw[ho'];simp only;rw[if_pos (W6 hs hgd)];exact kE hnd (he fx γ a w hs hd _ _ λa' w' γ' k1 k2 k3 k4=>⟨_,γ',k1,⟨hg.1.trans k2,hg.2.trans k3⟩,.of k4,h3 D⟩)
  have hnw:((Jp ops.toList).getD i 0).testBit ip=false:=by
   cases hm:((Jp ops.toList).getD i 0).testBit ip with
   | false=>rfl
   | true=>exact absurd rfl (hin ip (T1 hc hin1 (i+1) i (by omega) _ ho (.inr (hpre _ ho)) hm)).2
  have hst:=hstep i hlt hip (λ_=>hnw) (p.st D st ops.size) (by simp[Y4.jI]) hagree
  have hins:(p.st D st ops.size).app (p.ws i)=p.st (λj=>D j || decide (j=i)) st ops.size:=Y4.insert p D st i hDi ops.size hlt λj h1 h2 h3=>by
   rcases pair j i h2 h1 with hm|⟨_,_,h3'⟩
   ·exfalso;have hoj:ops[j]?=some ops[j]:=(by grind);have:=T1 hc hin1 (j+1) j (by omega) _ hoj (.inl h3) hm;grind
   ·exact h3'
  rw[hins] at hst;have next:∀(a':Act) (w':World) (γ':Gh),Qc G γ' (p.st (λj=>D j || decide (j=i)) st ops.size) a'.tmps w'->Qd γ w γ' w'->Zf γ (p.st D st ops.size).b (p.st D st ops.size).u γ' (p.st (λj=>D j || decide (j=i)) st ops.size).b (p.st (λj=>D j || decide (j=i)) st ops.size).u->a'.defers=fx.ds->
    wpAnyIn (RF fx.ro) 0 P .any ops (F0 G fx γ0 st w0 Q) O6 (listed.setIfInBounds i true) a' w':=by
   intro a' w' γ' hs' hg' hp' hd';refine ih (λj=>D j || decide (j=i)) (listed.setIfInBounds i true) γ' a' w' (by grind) (λj hj=>?_) (λj hj=>?_) ?_ ?_ hs' ⟨hg.1.trans hg',hg.2.trans hp'⟩ hd'
   ·by_cases hji:j=i
    ·subst hji;have:j < listed.size:=by omega
     simp[this]
    ·have hne:i≠j:=λe=>hji e.symm
     have e1:(listed.setIfInBounds i true).getD j true=listed.getD j true:=by simp[Array.getElem?_setIfInBounds_ne hne]
     grind
   ·grind
   ·intro k o hk hok e he hb;simp only[zY,zI] at hk ⊢;rcases hk with hk|rfl
    ·exact .inl (hc k o hk hok e he hb)
    grind
   ·have hmem:i∈(List.range ops.size).filter λj=>!D j:=(by grind)
    have hlt3:((List.range ops.size).filter λj=>!(D j || decide (j=i))).length < ((List.range ops.size).filter λj=>!D j).length:=by
     have e:(List.range ops.size).filter (λj=>!(D j || decide (j=i)))=((List.range ops.size).filter (λj=>!D j)).filter (λj=>!decide (j=i)):=by
      rw[List.filter_filter];congr 1;grind
     grind [Nat.lt_of_le_of_ne,List.length_filter_le,List.length_filter_eq_length_iff]
    omega
  unfold B7 at hst;unfold wpOpIn;rw[ho];rw[ho] at hst;simp only at hst ⊢;rcases hst with⟨hgd,he⟩|⟨hgd,hdst,heq⟩
  ·rw[if_pos (W6 hs hgd)];exact Lh (he ⟨none,a.defers,false⟩ γ a w hs rfl _ _ λ_ _ _ _ _ _ h=>h) (he fx γ a w hs hd _ _ next)
  ·rw[if_neg (by grind [W6])];refine⟨λ_ _=>trivial,next _ w γ ?_ (.refl γ w) ?_ (by rw[X2];exact hd)⟩
   ·rw[heq];exact hs.put hdst (v:=undef) (.Qt [] [] rfl (by grind))
   ·rw[heq];cases ops[i].dst<;>exact Zf.refl hs.u
theorem TV.bE{P:Program}{G:zi}{ops:Array Oper}{id:Nat}{st:St}{Q:Exit->St->Prop}{p:Y4}{ip:Nat}{ex:Exit}{W:List Wr}(hm:P.follows .mixedOrders=true)(hp:p.ok ops=true)
  (hback:(ops.toList.zipIdx.all λx=>x.1.after.all λe=>!Region.binds .any e || decide (e.on < x.2))=true)
  (hstep:∀i,i < ops.size->i≠ip->(ip < ops.size->((Jp ops.toList).getD i 0).testBit ip=false)->A7 P G ops i (p.st (λj=>decide (j < i)) st ops.size) (p.rs i) (p.ws i)) (hq:ops.size<=ip->Q .normal (p.st (λ_=>true) st ops.size))
  (hpan:ip < ops.size->Ms P G ops ip (p.st (λj=>decide (j < ip)) st ops.size) (p.rs ip) ex W/\∀D,Q ex ((p.st D st ops.size).app W)) :
  TV P G (.region id ops true) st Q:=λfx γ a w hs hd=>by
 have hs0:Qc G γ st a.tmps { w with drawn:=w.drawn+1 }:=by
  have g:Qd γ w γ { w with drawn:=w.drawn+1 }:=⟨rfl,rfl,rfl,zN _,λ_ _ _ _ h=>h,λ_ _=>zN _,(by grind),(by grind)⟩
  have bl:G6 γ st.b st.u γ st.b st.u:=.refl hs.u;refine⟨hs.n,λi=>(hs.t i).mono g bl,λb k hk=>?_,hs.u,hs.g.grow g,hs.o⟩;rcases hs.b b k hk with h0|hm|⟨hM,B,o,cs,e',h1,h2,h3,h4,h5,h6,h7,h8⟩
  ·exact .inl h0
  ·exact .inr (.inl (hm.same rfl (by grind) λc v hr=>hr.mono g bl))
  ·refine .inr (.inr ⟨hM,B,o,cs,e',h1,h2,h3,h4,h5,λi c hc=>?_,h7,h8⟩);obtain⟨v,a1,a2,a3,a4⟩:=h6 i c hc;exact⟨v,a1,a2.mono g bl,a3,a4⟩
 have g0:Qd γ w γ { w with drawn:=w.drawn+1 }:=⟨rfl,rfl,rfl,zN _,λ_ _ _ _ h=>h,λ_ _=>zN _,(by grind),(by grind)⟩;refine wpIn_region_any hm ?_
 have e0:p.st (λ_=>false) st ops.size=st:=by
  have:∀n,p.st (λ_=>false) st n=st:=λn=>by
   induction n with
   | zero=>rfl
   | succ n ih=>simp[Y4.st,ih]
  exact this _
 refine PA hp (λi o ho e he hb=>?_) hstep hq hpan ops.size (λ_=>false) _ γ a _ (by simp) (λi hi=>by simp[hi]) (λi h=>by simp at h) (λi o h=>by simp at h)
  (by grind) (by grind) ⟨g0,by rw[e0];exact .refl hs.u⟩ hd.1
 have hm':(o,i)∈ops.toList.zipIdx:=by
  grind
 grind [List.all_eq_true,Array.all_eq_true_iff_forall_mem]
theorem TV.draw{P:Program}{G:zi}{ops:Array Oper}{id:Nat}{st:St}{Q:Exit->St->Prop}{p:Y4}(hm:P.follows .mixedOrders=true)(hp:p.ok ops=true)
  (hback:(ops.toList.zipIdx.all λx=>x.1.after.all λe=>!Region.binds .any e || decide (e.on < x.2))=true)
  (hstep:∀i,i < ops.size->A7 P G ops i (p.st (λj=>decide (j < i)) st ops.size) (p.rs i) (p.ws i)) (hq:Q .normal (p.st (λ_=>true) st ops.size)) :
  TV P G (.region id ops true) st Q:=TV.bE (ip:=ops.size) (ex:=.normal) (W:=[]) hm hp hback (λi h _ _=>hstep i h) (λ_=>hq) λh=>absurd h (Nat.lt_irrefl _)
end Go.EV
