/- The value-level logic: a range over a function: the iterator is walked with the function that ranges lying suspended, on one ghost; a call of yield i ..; no conditions. -/
import Derived.Test.YtjpahkpfkohfkaaGreatDoorF5
import Derived.RangeFuncNested
import Derived.Laws.MakeOwn
import Derived.KernelRfl
set_option linter.unusedVariables false
set_option linter.unusedSimpArgs false
namespace Go.EV
open Go
theorem Rep.yld_inv{γ:Gh}{w:World}{bs:Nat→Option Blk}{u:Nat→Bool}{l:Nat}{v:Value}(h:Rep γ w bs u (.yld l) v):v=.func (.yield l) #[] #[]:=by
 cases h with
 | data h=>cases h;rfl
theorem Rep.pin{γ γ':Gh}{w w':World}{bs bs':Nat→Option Blk}{u u':Nat→Bool}(g:Grow γ w γ' w')(hp:Pin γ bs u γ' bs' u'){c:V}{v:Value}(h:Rep γ w bs u c v):okV R4 c=true→Rep γ' w' bs' u' c v:=by
 have top:∀{b},R4 b=true→R4 b=true:=fun h=>h
 induction h with
 | data h=>exact fun _=>.data (g.data h)
 | undef v=>exact fun _=>.undef v
 | ref b off len B o cap k h1 h2 h3 h4 h5 h6 h7=>
  intro ho
  simp only[okV] at ho
  obtain⟨_,_,hk⟩:=hp b (top ho)
  obtain⟨hu,hk⟩:=hk k h1
  rcases hk with hk|⟨k',hk,hs,hr,hl⟩
  ·exact .deadRef b off len _ hk hu rfl
  ·rw[←hs]
   exact .ref b off len B o cap k' hk (hl.trans h2) (by rw[hr h6];exact h3) h4 (g.roomAt (by rw[hs];exact h5)) (by rw[hs];exact h6) (by rw[hr h6];exact h7)
 | refE b off B k h1 h6 h2=>
  intro ho
  simp only[okV] at ho
  obtain⟨_,_,hk⟩:=hp b (top ho)
  obtain⟨hu,hk⟩:=hk k h1
  rcases hk with hk|⟨k',hk,hs,hr,hl⟩
  ·exact .deadRef b off 0 _ hk hu rfl
  ·exact .refE b off B k' hk (by rw[hs];exact h6) ((hr h6).trans h2)
 | refN b off k h1 h6 h2=>
  intro ho
  simp only[okV] at ho
  obtain⟨_,_,hk⟩:=hp b (top ho)
  obtain⟨hu,hk⟩:=hk k h1
  rcases hk with hk|⟨k',hk,hs,hr,hl⟩
  ·exact .deadRef b off 0 _ hk hu rfl
  ·exact .refN b off k' hk (by rw[hs];exact h6) ((hr h6).trans h2)
 | deadRef b off len v h1 h2 h3=>
  intro ho
  simp only[okV] at ho
  obtain⟨hu,hg,_⟩:=hp b (top ho)
  exact .deadRef b off len v (hg h2 h1) (hu h2) h3
 | ptr b i off B o k h1 h2 h3=>
  intro ho
  simp only[okV] at ho
  obtain⟨_,_,hk⟩:=hp b (top ho)
  obtain⟨hu,hk⟩:=hk k h1
  rcases hk with hk|⟨k',hk,hs,hr,hl⟩
  ·exact .deadPtr b i off _ hk hu rfl
  ·rw[←hs];exact .ptr b i off B o k' hk (hl.trans h2) (by rw[hs];exact h3)
 | mp b B k h1 h2 h3=>
  intro ho
  simp only[okV] at ho
  obtain⟨_,_,hk⟩:=hp b (top ho)
  obtain⟨hu,hk⟩:=hk k h1
  rcases hk with hk|⟨k',hk,hs,hr,hl⟩
  ·exact .deadMp b _ hk hu rfl
  ·exact .mp b B k' hk (hl.trans h2) (by rw[hs];exact h3)
 | deadMp b v h1 h2 h3=>
  intro ho
  simp only[okV] at ho
  obtain⟨hu,hg,_⟩:=hp b (top ho)
  exact .deadMp b v (hg h2 h1) (hu h2) h3
 | deadPtr b i off v h1 h2 h3=>
  intro ho
  simp only[okV] at ho
  obtain⟨hu,hg,_⟩:=hp b (top ho)
  exact .deadPtr b i off v (hg h2 h1) (hu h2) h3
 | fn f first captured fs cs h1 h2 _ _ ih1 ih2=>
  intro ho
  simp only[okV,ζA] at ho
  exact .fn f first captured fs cs h1 h2 (fun i c v hc hv=>ih1 i c v hc hv (P3 ho.1 hc)) (fun i c v hc hv=>ih2 i c v hc hv (P3 ho.2 hc))
 | agg cells vs h1 _ ih=>intro ho;exact .agg cells vs h1 fun i c v hc hv=>ih i c v hc hv (P3 (by simpa[okV] using ho) hc)
 | tup cells vs h1 _ ih=>intro ho;exact .tup cells vs h1 fun i c v hc hv=>ih i c v hc hv (P3 (by simpa[okV] using ho) hc)
def M7(n:Nat)(t:Nat→V)(b:Nat→Option Blk):St:=⟨n,t,b,uTop⟩
theorem Sim.resume{G:Nat→Option (List V)}{γ γ':Gh}{w w':World}{n m:Nat}{t t':Nat→V}{b b':Nat→Option Blk}{te tm:Array Value}(h:Sim G γ (M7 n t b) te w)(ht:∀i,okV R4 (t i)=true)
  (g:Grow γ w γ' w') (hp:Pin γ b uTop γ' b' uTop) (h':Sim G γ' (M7 m t' b') tm w'):Sim G γ' (M7 n t b') te w':=
 ⟨h.n,fun i=>(h.t i).pin g hp (ht i),h'.b,h'.u,h'.g,h'.o⟩
def setP(st:St)(l:List (Nat×V)):St:=l.foldl (fun st p=>st.setT p.1 p.2) st
theorem Sim.setP{G:Nat→Option (List V)}{γ:Gh}{w:World}:∀{ps:List Nat} {cs:List V} {vs:List Value} {st:St} {ts:Array Value},Sim G γ st ts w→(∀p,p∈ps→p < st.n)→cs.length=ps.length→vs.length=ps.length→
  (∀(i:Nat) (c:V) (v:Value),cs[i]?=some c→vs[i]?=some v→Rep γ w st.b st.u c v)→Sim G γ (EV.setP st (ps.zip cs)) ((ps.zip vs).foldl (fun t p=>t.setIfInBounds p.1 p.2) ts) w
 | [],cs,vs,st,ts,h,_,_,_,_=>by simpa[EV.setP] using h
 | p :: ps,c :: cs,v :: vs,st,ts,h,hp,h1,h2,hr=>by
  have key:Sim G γ (st.put (some p) c) ((⟨ts,[]⟩:Act).put (some p) v).tmps w:=Sim.put (a:=⟨ts,[]⟩) h (by simpa[H2] using hp p (by simp)) (hr 0 c v rfl rfl)
  exact Sim.setP (ps:=ps) (cs:=cs) (vs:=vs) (st:=st.setT p c) key (fun q hq=>hp q (by simp[hq])) (by simpa using h1) (by simpa using h2) fun i c' v' hc hv=>hr (i+1) c' v' (by simpa using hc) (by simpa using hv)
 | p :: ps,[],vs,st,ts,_,_,h1,_,_=>by simp at h1
 | p :: ps,c :: cs,[],st,ts,_,_,_,h2,_=>by simp at h2
theorem setP_bu:∀(L:List (Nat×V)) (s:St),(setP s L).b=s.b∧(setP s L).u=s.u
 | [],_=>⟨rfl,rfl⟩
 | p :: L,s=>⟨(setP_bu L (s.setT p.1 p.2)).1,(setP_bu L (s.setT p.1 p.2)).2⟩
def RoundT(P:Program)(G:Nat→Option (List V))(n:Nat)(t:Nat→V)(ps:List Nat)(assign body:Code)(b:Nat→Option Blk)(cs:List V)(R:Exit→(Nat→Option Blk)→Prop):Prop:=
 ∃st1,TV P G assign (setP (M7 n t b) (ps.zip cs)) (fun e s=>e=.normal∧Gst G s st1)∧
  TV P G body st1 (fun e s=>∃b' m,R e b'∧Gst G s (M7 m (fun _=>.undef) b'))
def N7:Exit→Option Code
 | .ret=>some .ret
 | .exit id=>some (.exit id)
 | _=>none
def D3(fn:FuncId)(te:Array Value)(ps:Array Tmp)(assign body:Code)(D:Nat)(e:Exit):Loop:=
 { state:=if (N7 e).isNone then .ready else .done,pending:=N7 e,fn,tmps:=te,params:=ps,assign,body,defers:=D }
structure YL where
 n:Nat
 t:Nat→V
 ps:Array Tmp
 assign:Code
 body:Code
structure Env(G:Nat→Option (List V))(L:YL)(γ0:Gh)(w0:World)(b0:Nat→Option Blk)(l D:Nat)(Ds:List Nat)(sz:Nat)(te:Array Value)(r:Loop)(γ:Gh)(b:Nat→Option Blk)(u:Nat→Bool)(w:World):Prop where
 sim0:Sim G γ0 (M7 L.n L.t b0) te w0
 grow:Grow γ0 w0 γ w
 pin:Pin γ0 b0 uTop γ b u
 loop:w.heap[l]?=some (.loop r)
 own:γ.own l=none
 lo:w0.heap.size≤l∧l < sz∧w0.heap.size≤sz∧sz≤w.heap.size
 dfr:∀E,E∈Ds→w.heap[E]?=some (.deferred (some []))∧γ.own E=none∧w0.heap.size≤E∧E < sz∧E≠l
def D1(sz:Nat)(γ:Gh)(w:World)(ds:List Deferred):Prop:=
 ∃Es:List Nat,ds=Es.map markD∧Es.Nodup∧∀E,E∈Es→sz≤E∧w.heap[E]?=some (.deferred (some []))∧γ.own E=none
theorem D1.nil{sz:Nat}{γ:Gh}{w:World}:D1 sz γ w []:=⟨[],rfl,by simp,fun E h=>by simp at h⟩
theorem D1.trans{sz:Nat}{γ γ':Gh}{w w':World}{ds ds':List Deferred}(h:D1 sz γ w ds)(g:Grow γ w γ' w')(k:C0 true w γ' w' ds ds')(hz:sz≤w.heap.size):D1 sz γ' w' ds':=by
 obtain⟨Es,rfl,h2,h3⟩:=h
 obtain⟨Fs,_,k1,k2,k3⟩:=k
 have lt:∀E,E∈Es→E < w.heap.size:=fun E hE=>(ζf.1 (h3 E hE).2.1).1
 refine⟨Fs++Es,by rw[k1];simp,List.nodup_append.2 ⟨k2,h2,fun x hx y hy e=>?_⟩,fun E hE=>?_⟩
 ·subst e
  have:=lt x hy
  have:=(k3 x hx).1
  omega
 ·rcases ζr.1 hE with hE|hE
  ·exact⟨Nat.le_trans hz (k3 E hE).1,(k3 E hE).2⟩
  ·obtain⟨a1,a2,a3⟩:=h3 E hE
   obtain⟨b1,b2,_⟩:=g.free E (lt E hE) a3
   exact⟨a1,b1.trans a2,b2⟩
theorem D1.grow{sz:Nat}{γ γ':Gh}{w w':World}{ds:List Deferred}(h:D1 sz γ w ds)(g:Grow γ w γ' w'):D1 sz γ' w' ds:=by
 obtain⟨Es,h1,h2,h3⟩:=h
 refine⟨Es,h1,h2,fun E hE=>?_⟩
 obtain⟨a1,a2,a3⟩:=h3 E hE
 obtain⟨b1,b2,_⟩:=g.free E (ζf.1 a2).1 a3
 exact⟨a1,b1.trans a2,b2⟩
theorem D1.put{sz:Nat}{γ:Gh}{w:World}{ds:List Deferred}{l:Nat}{r:Loop}{o:Obj}(h:D1 sz γ w ds)(hl:w.heap[l]?=some (.loop r)):D1 sz γ (w.putObj l o) ds:=by
 obtain⟨Es,h1,h2,h3⟩:=h
 refine⟨Es,h1,h2,fun E hE=>?_⟩
 obtain⟨a1,a2,a3⟩:=h3 E hE
 exact⟨a1,by rw[World.putObj_heap_other (fun e=>by rw[e,hl] at a2;cases a2)];exact a2,a3⟩
section
variable {P:Program} {G:Nat→Option (List V)} {L:YL} {γ0:Gh} {w0:World} {b0:Nat→Option Blk} {l D:Nat} {Ds:List Nat} {sz:Nat} {te:Array Value} {r:Loop} {γ:Gh} {b:Nat→Option Blk} {u:Nat→Bool} {w:World}
theorem Env.step(h:Env G L γ0 w0 b0 l D Ds sz te r γ b u w){γ':Gh}{b':Nat→Option Blk}{u':Nat→Bool}{w':World}(g:Grow γ w γ' w')(hp:Pin γ b u γ' b' u'):Env G L γ0 w0 b0 l D Ds sz te r γ' b' u' w':=by
 have l1:=(ζf.1 h.loop).1
 refine⟨h.sim0,h.grow.trans g,h.pin.trans hp,(g.free l l1 h.own).1.trans h.loop,(g.free l l1 h.own).2.1,⟨h.lo.1,h.lo.2.1,h.lo.2.2.1,Nat.le_trans h.lo.2.2.2 g.size⟩,fun E hE=>?_⟩
 obtain⟨a1,a2,a3⟩:=h.dfr E hE
 obtain⟨b1,b2,_⟩:=g.free E (ζf.1 a1).1 a2
 exact⟨b1.trans a1,b2,a3⟩
theorem Env.put(h:Env G L γ0 w0 b0 l D Ds sz te r γ b u w){i:Nat}{o o':Obj}(hi:w.heap[i]?=some o)(hn:dataObj o=false)(h0:w0.heap.size≤i)(hil:i≠l)(hd:∀E,E∈Ds→E≠i):Env G L γ0 w0 b0 l D Ds sz te r γ b u (w.putObj i o'):=
 ⟨h.sim0,h.grow.put hi hn h0,h.pin,(World.putObj_heap_other (Ne.symm hil)).trans h.loop,h.own,⟨h.lo.1,h.lo.2.1,h.lo.2.2.1,by rw[World.putObj_size];exact h.lo.2.2.2⟩,fun E hE=>by
  obtain⟨a1,a2⟩:=h.dfr E hE
  exact⟨(World.putObj_heap_other (hd E hE)).trans a1,a2⟩⟩
theorem Env.record(h:Env G L γ0 w0 b0 l D Ds sz te r γ b u w)(r':Loop):Env G L γ0 w0 b0 l D Ds sz te r' γ b u (w.putObj l (.loop r')):=
 ⟨h.sim0,h.grow.put h.loop rfl h.lo.1,h.pin,World.putObj_heap_same (ζf.1 h.loop).1,h.own,⟨h.lo.1,h.lo.2.1,h.lo.2.2.1,by rw[World.putObj_size];exact h.lo.2.2.2⟩,fun E hE=>by
  obtain⟨a1,a2,a3,a4,a5⟩:=h.dfr E hE
  exact⟨(World.putObj_heap_other a5).trans a1,a2,a3,a4,a5⟩⟩
theorem yield_round{fn:FuncId}{ni:Nat}{ti:Nat→V}{tm:Array Value}{cs:List V}{as:Array Value}{R:Exit→(Nat→Option Blk)→Prop}{X:Ending→World→Prop}(hs:Sim G γ (M7 ni ti b) tm w)(hti:∀i,okV R4 (ti i)=true)(ht:∀i,okV R4 (L.t i)=true)(hpn:∀p,p∈L.ps.toList→p < L.n)
  (he:Env G L γ0 w0 b0 l D Ds sz te (D3 fn te L.ps L.assign L.body D .normal) γ b uTop w) (hps:cs.length=L.ps.size) (hr:RoundT P G L.n L.t L.ps.toList L.assign L.body b cs R) (hR:∀e b',R e b'→e=.normal∨e=.ret∨∃id,e=.exit id)
  (ha:as.size=L.ps.size) (hcs:∀(i:Nat) (c:V) (v:Value),cs[i]?=some c→as[i]?=some v→Rep γ w b uTop c v)
  {ds:List Deferred} (hk:D1 sz γ w ds)
  (hX:∀e b' γ' w',R e b'→Env G L γ0 w0 b0 l D Ds sz te (D3 fn te L.ps L.assign L.body D e) γ' b' uTop w'→Sim G γ' (M7 ni ti b') tm w'→D1 sz γ' w' ds→(∀B,B < w.heap.size→γ.own B=none→B≠l→w'.heap[B]?=w.heap[B]?∧γ'.own B=none∧γ'.lim B=γ.lim B)→X (.returned (.bool (N7 e).isNone)) w') :
  RoundIn (RF none) 0 P l fn ((L.ps.zip as).foldl (fun t (p,v)=>t.setIfInBounds p v) te) L.assign L.body w X:=by
 obtain⟨st1,r1,r2⟩:=hr
 have e1:(L.ps.zip as).foldl (fun t (p,v)=>t.setIfInBounds p v) te=(L.ps.toList.zip as.toList).foldl (fun t p=>t.setIfInBounds p.1 p.2) te:=by
  rw[←Array.foldl_toList,Array.toList_zip]
 refine roundIn_of_wpIn trivial ?_
 rw[e1]
 have sT:Sim G γ (M7 L.n L.t b) te w:=he.sim0.resume ht he.grow he.pin hs
 have h1:Sim G γ (setP (M7 L.n L.t b) (L.ps.toList.zip cs)) ((L.ps.toList.zip as.toList).foldl (fun t p=>t.setIfInBounds p.1 p.2) te) w:=
  Sim.setP sT hpn (by simpa using hps) (by simpa using ha) fun i c v hc hv=>hcs i c v hc (by simpa using hv)
 have b1:=setP_bu (L.ps.toList.zip cs) (M7 L.n L.t b)
 refine wpIn_mono (r1 ⟨some l,[],true⟩ γ ⟨_,[]⟩ w h1 ⟨rfl,rfl,fun l' hl'=>by cases hl';exact⟨⟨_,he.loop⟩,he.own⟩⟩) fun e a1 w1 hl=>?_
 obtain⟨s1,γ1,k1,⟨k2,k2p⟩,k3,rfl,k4⟩:=hl
 obtain⟨γ2,m1,m2,m3⟩:=k4 γ1 a1.tmps w1 k1
 have g2:=k2.trans m2
 have p2:=k2p.trans m3
 rw[b1.1,b1.2] at p2
 have hl1:w1.heap[l]?=some (.loop (D3 fn te L.ps L.assign L.body D .normal)):=(k2.free l (ζf.1 he.loop).1 he.own).1.trans he.loop
 refine⟨_,run_beginRound hl1 rfl,?_⟩
 have cs1:∀o',Y4 w1 (w1.putObj l o'):=fun o'=>.put hl1 rfl
 have own2:γ2.own l=none:=(g2.free l (ζf.1 he.loop).1 he.own).2.1
 refine wpIn_mono (r2 ⟨some l,a1.defers,true⟩ γ2 a1 _ ((cs1 _).sim m1) ⟨rfl,rfl,fun l' hl'=>by cases hl';exact⟨⟨_,World.putObj_heap_same (ζf.1 hl1).1⟩,own2⟩⟩) fun e a2 w2 hl=>?_
 obtain⟨s2,γ3,n1,⟨n2,n2p⟩,n3,b',m,q1,q2⟩:=hl
 obtain⟨γ4,o1,o2,o3⟩:=q2 γ3 a2.tmps w2 n1
 have g4:=n2.trans o2
 have p4:=n2p.trans o3
 have eB:=he.record { D3 fn te L.ps L.assign L.body D .normal with state:=.busy }
 have csw:∀o',Y4 w (w.putObj l o'):=fun o'=>.put he.loop rfl
 have gB:Grow γ (w.putObj l (.loop { D3 fn te L.ps L.assign L.body D .normal with state:=.busy })) γ2 (w1.putObj l (.loop { D3 fn te L.ps L.assign L.body D .normal with state:=.busy })):=by
  refine⟨g2.os,g2.tape,g2.output,by simpa using g2.size,fun B o v hB hc=>?_,fun B hB=>g2.lim B (by simpa using hB),fun B hB hn=>?_,fun B cs e fz hc=>?_⟩
  ·have hne:B≠l:=fun e=>by
    subst e
    obtain⟨c1,c2,c3,hb⟩:=cellAt_block hc
    rw[World.putObj_heap_same (ζf.1 he.loop).1] at hb;cases hb
   refine(cs1 _).cell (g2.imm B o v hB ?_)
   unfold cellAt World.cell? at hc ⊢
   simp only[World.putObj_heap_other hne] at hc;exact hc
  ·rw[World.putObj_size] at hB
   obtain⟨a1,a2,a3⟩:=g2.free B hB hn
   refine⟨?_,a2,a3⟩
   by_cases e:B=l
   ·subst e;rw[World.putObj_heap_same (ζf.1 hl1).1,World.putObj_heap_same hB]
   ·rw[World.putObj_heap_other e,World.putObj_heap_other e];exact a1
  ·have hne:B≠l:=fun e'=>by
    subst e'
    rw[World.putObj_heap_same (ζf.1 he.loop).1] at hc;cases hc
   rw[World.putObj_heap_other hne] at hc
   obtain⟨cs',fz',c1,c2⟩:=g2.room B cs e fz hc
   exact⟨cs',fz',by rw[World.putObj_heap_other hne];exact c1,c2⟩
 have gT:=gB.trans g4
 have pT:Pin γ b uTop γ4 b' uTop:=p2.trans p4
 have sI:Sim G γ4 (M7 ni ti b') tm w2:=((csw _).sim hs).resume hti gT pT o1
 have f1:=eB.step gT pT
 have hl2:=f1.loop
 have mk2:D1 sz γ4 w2 ds:=(hk.put he.loop).grow gT
 have fin:∀(e:Exit),R e b'→(Instr.endRound l (N7 e)).run P w2=.ok (.bool (N7 e).isNone) (w2.putObj l (.loop (D3 fn te L.ps L.assign L.body D e)))∧X (.returned (.bool (N7 e).isNone)) (w2.putObj l (.loop (D3 fn te L.ps L.assign L.body D e))):=fun e hRe=>
  ⟨run_endRound (P:=P) (N7 e) hl2,hX e b' γ4 _ hRe (f1.record _) ((Y4.put hl2 rfl).sim sI) (mk2.put hl2) fun B hB hn hne=>by
   obtain⟨q1,q2,q3⟩:=gT.free B (by simpa using hB) hn
   rw[World.putObj_heap_other hne] at q1
   exact⟨(World.putObj_heap_other hne).trans q1,q2,q3⟩⟩
 rcases hR e b' q1 with rfl|rfl|⟨id,rfl⟩
 ·exact⟨_,_,fin .normal q1⟩
 ·exact⟨_,_,fin .ret q1⟩
 ·exact⟨_,_,fin (.exit id) q1⟩
theorem yield_op{fn:FuncId}{o:Oper}{x:Operand}{xs:Array Operand}{ts:Array TypeId}{ni:Nat}{ti:Nat→V}{a:Act}{cs:List V}{R:Exit→(Nat→Option Blk)→Prop}{nx:Act→World→Prop}{Q:Exit→Act→World→Prop}
  (ho:o.op=.call { callee:=.value x,args:=xs,argTypes:=ts }) (hx:(M7 ni ti b).ev G x=some (.yld l)) (hcs:evs ((M7 ni ti b).ev G) xs.toList=some cs)
  (hs:Sim G γ (M7 ni ti b) a.tmps w) (hti:∀i,okV R4 (ti i)=true) (ht:∀i,okV R4 (L.t i)=true) (hpn:∀p,p∈L.ps.toList→p < L.n)
  (he:Env G L γ0 w0 b0 l D Ds sz te (D3 fn te L.ps L.assign L.body D .normal) γ b uTop w) (hps:cs.length=L.ps.size) (hr:RoundT P G L.n L.t L.ps.toList L.assign L.body b cs R) (hR:∀e b',R e b'→e=.normal∨e=.ret∨∃id,e=.exit id)
  (hk:D1 sz γ w a.defers) (hX:∀e b' γ' w',R e b'→Env G L γ0 w0 b0 l D Ds sz te (D3 fn te L.ps L.assign L.body D e) γ' b' uTop w'→Sim G γ' (M7 ni ti b') a.tmps w'→D1 sz γ' w' a.defers→(∀B,B < w.heap.size→γ.own B=none→B≠l→w'.heap[B]?=w.heap[B]?∧γ'.own B=none∧γ'.lim B=γ.lim B)→nx (a.put o.dst (.bool (N7 e).isNone)) w') :
  o.wpIn (RF none) 0 P a w nx Q:=by
 refine⟨fun _ _=>trivial,?_⟩
 have hv:=(hs.ev hx).yld_inv
 have e : (execOp a.eval o) = (do let d ← Deferred.ofValue (a.eval x) (xs.map a.eval); invoke d.target d.args) := by
  unfold execOp;rw[ho];rfl
 have hm:=evs_rep hs hcs
 have k:(xs.toList.map a.eval).toArray=xs.map a.eval:=Array.ext' (by rw[Array.toList_map])
 rw[k] at hm
 have hsz:(xs.map a.eval).size=L.ps.size:=hm.1.trans hps
 have hrun:(execOp a.eval o).run P w=.ok (.round l fn ((L.ps.zip (xs.map a.eval)).foldl (fun t (p,v)=>t.setIfInBounds p v) te) L.assign L.body) w:=by
  rw[e,hv]
  have : (do let d ← Deferred.ofValue (.func (.yield l) #[] #[]) (xs.map a.eval); invoke d.target d.args : Sem Next) = Instr.yield l (xs.map a.eval) := by
   simp[Deferred.ofValue,invoke]
  rw[this]
  exact run_yield he.loop hsz
 show o.uponIn _ _ _ _ _ _ (((o.semAt none a.eval)).run P w)
 rw[Oper.semAt_none,hrun,Oper.uponIn_round]
 refine⟨fun h=>by simp[RF,Fence.wide] at h,?_⟩
 exact yield_round hs hti ht hpn he hps hr hR hsz (fun i c v hc hv=>hm.2 i c v hc hv) hk fun e b' γ' w' h1 h2 h3 h4 h5=>hX e b' γ' w' h1 h2 h3 h4 h5
end
def IterT(P:Program)(G:Nat→Option (List V))(c:Code)(m:Nat)(args:Nat→List V)(bi:Nat→Option Blk)(L:YL)(R:Exit→(Nat→Option Blk)→Prop):Prop:=
 ∀(fn:FuncId) (γ0:Gh) (w0:World) (b0:Nat→Option Blk) (l D:Nat) (Ds:List Nat) (sz:Nat) (te:Array Value) (γ:Gh) (a:Act) (w:World),
  Env G L γ0 w0 b0 l D Ds sz te (D3 fn te L.ps L.assign L.body D .normal) γ bi uTop w→Sim G γ (entry m (args l) bi) a.tmps w→a.defers=[]→
  CW none P c (fun e a' w'=>(e=.normal∨e=.ret)∧∃e2 b' γ' ni ti tm,R e2 b'∧Env G L γ0 w0 b0 l D Ds sz te (D3 fn te L.ps L.assign L.body D e2) γ' b' uTop w'∧Sim G γ' (M7 ni ti b') tm w'∧D1 sz γ' w' a'.defers) a w
theorem V5(w:World)(o:Obj)(B:Nat)(hB:B < w.heap.size):(w.alloc o).heap[B]?=w.heap[B]?:=by
 show (w.heap.push o)[B]?=_
 rw[Array.getElem?_push,if_neg (by omega)]
theorem Grow.alloc(γ:Gh)(w:World)(o:Obj):Grow γ w γ (w.alloc o)∧Y4 w (w.alloc o):=by
 have cs:Y4 w (w.alloc o):=⟨by simp,fun B cs e fz h=>by
  have:=(ζf.1 h).1
  exact(V5 w o B this).trans h,fun B es c h=>by
  have:=(ζf.1 h).1
  exact(V5 w o B this).trans h⟩
 exact⟨(Grow.refl γ w).same cs (fun B hB=>V5 w o B hB) rfl rfl rfl,cs⟩
section
variable {P:Program} {G:Nat→Option (List V)}
theorem enter_law{L:YL}(fn:FuncId){fx:Fx}{γ:Gh}{st:St}{a:Act}{w:World}(hs:Sim G γ st a.tmps w)(hx:FxOk fx γ a.defers w) :
  ∃(l D:Nat) (Ds:List Nat) (w1:World),(Instr.enterLoop fn a.tmps L.ps L.assign L.body fx.ro).run P w=.ok (l,Ds.map markD) w1∧Ds.Nodup∧w1.heap[l]?=some (.loop (D3 fn a.tmps L.ps L.assign L.body D .normal))∧
   (Grow γ w γ w1∧Y4 w w1)∧γ.own l=none∧(w.heap.size≤l∧l < w1.heap.size)∧∀E,E∈Ds→w1.heap[E]?=some (.deferred (some []))∧γ.own E=none∧w.heap.size≤E∧E < w1.heap.size∧E≠l:=by
 have hnone:∀B,w.heap.size≤B→γ.own B=none:=fun B hB=>by
  cases ho:γ.own B with
  | none=>rfl
  | some x=>have:=hs.o B x ho;omega
 cases hro:fx.ro with
 | none=>
  have hL:((w.alloc (.deferred (some []))).alloc (.loop (D3 fn a.tmps L.ps L.assign L.body w.heap.size .normal))).heap[w.heap.size+1]?=some (.loop (D3 fn a.tmps L.ps L.assign L.body w.heap.size .normal)):=by
   have:=World.alloc_heap_new (w.alloc (.deferred (some []))) (.loop (D3 fn a.tmps L.ps L.assign L.body w.heap.size .normal));rwa [World.size_alloc] at this
  have hD:((w.alloc (.deferred (some []))).alloc (.loop (D3 fn a.tmps L.ps L.assign L.body w.heap.size .normal))).heap[w.heap.size]?=some (.deferred (some [])):=
   (V5 _ _ _ (by simp)).trans (World.alloc_heap_new w _)
  obtain⟨x1,x2⟩:=Grow.alloc γ w (.deferred (some []))
  obtain⟨y1,y2⟩:=Grow.alloc γ (w.alloc (.deferred (some []))) (.loop (D3 fn a.tmps L.ps L.assign L.body w.heap.size .normal))
  refine⟨w.heap.size+1,w.heap.size,[w.heap.size],_,run_enterLoop_outer _ _ _ _ _,by simp,hL,⟨x1.trans y1,x2.trans y2⟩,hnone _ (by omega),⟨by omega,(ζf.1 hL).1⟩,fun E hE=>?_⟩
  simp only[ζu] at hE
  subst hE
  exact⟨hD,hnone _ (ζK _),ζK _,(ζf.1 hD).1,by omega⟩
 | some l0=>
  obtain⟨⟨r0,h0⟩,_⟩:=hx.2.2 l0 hro
  have hL:=World.alloc_heap_new w (.loop (D3 fn a.tmps L.ps L.assign L.body r0.defers .normal))
  exact⟨w.heap.size,r0.defers,[],_,run_enterLoop_inner h0 _ _ _ _ _,by simp,hL,Grow.alloc γ w _,hnone _ (ζK _),⟨ζK _,(ζf.1 hL).1⟩,fun E hE=>by simp at hE⟩
end
structure YS where
 x:Exit
 st:St
def YPost(G:Nat→Option (List V))(L:YL)(l:Nat)(fn:FuncId)(γ0:Gh)(w0:World)(b0:Nat→Option Blk)(D:Nat)(Ds:List Nat)(sz:Nat)(te:Array Value)(Q:Exit→YS→Prop)(e:Exit)(a':Act)(w':World):Prop:=
 ∃s' γ',D1 sz γ' w' a'.defers∧Env G L γ0 w0 b0 l D Ds sz te (D3 fn te L.ps L.assign L.body D s'.x) γ' s'.st.b s'.st.u w'∧Sim G γ' s'.st a'.tmps w'∧Q e s'
def YT(P:Program)(G:Nat→Option (List V))(L:YL)(l:Nat)(c:Code)(s:YS)(Q:Exit→YS→Prop):Prop:=
 ∀(fn:FuncId) (γ0:Gh) (w0:World) (b0:Nat→Option Blk) (D:Nat) (Ds:List Nat) (sz:Nat) (te:Array Value) (γ:Gh) (a:Act) (w:World),
  Env G L γ0 w0 b0 l D Ds sz te (D3 fn te L.ps L.assign L.body D s.x) γ s.st.b s.st.u w→Sim G γ s.st a.tmps w→D1 sz γ w a.defers→
  CW none P c (YPost G L l fn γ0 w0 b0 D Ds sz te Q) a w
def thenY(next:YS→Prop)(Q:Exit→YS→Prop):Exit→YS→Prop
 | .normal,s=>next s
 | e,s=>Q e s
def inBlockY(id:Nat)(Q:Exit→YS→Prop):Exit→YS→Prop
 | .exit id',s=>if id'=id then Q .normal s else Q (.exit id') s
 | e,s=>Q e s
section
variable {P:Program} {G:Nat→Option (List V)} {L:YL} {l:Nat} {s:YS} {Q:Exit→YS→Prop}
theorem YT.tv{c:Code}{Q1:Exit→St→Prop}(h:TV P G c s.st Q1)(hq:∀e st,Q1 e st→Q e ⟨s.x,st⟩):YT P G L l c s Q:=fun fn γ0 w0 b0 D Ds sz te γ a w he hs hd=>
 wpIn_mono (h ⟨none,a.defers,true⟩ γ a w hs (FxOk.free γ w)) fun e a' w' hl=>by
  obtain⟨st',γ',h1,⟨h2,h2p⟩,h3,h4⟩:=hl
  exact⟨⟨s.x,st'⟩,γ',hd.trans h2 h3 he.lo.2.2.2,he.step h2 h2p,h1,hq e st' h4⟩
theorem YT.seq{x y:Code}(h:YT P G L l x s (thenY (fun s=>YT P G L l y s Q) Q)):YT P G L l (.seq x y) s Q:=fun fn γ0 w0 b0 D Ds sz te γ a w he hs hd=>by
 refine wpIn_seq (wpIn_mono (h fn γ0 w0 b0 D Ds sz te γ a w he hs hd) fun e a' w' hl=>?_)
 obtain⟨s',γ',h1,h2,h3,h4⟩:=hl
 cases e with
 | normal=>exact h4 fn γ0 w0 b0 D Ds sz te γ' a' w' h2 h3 h1
 | _=>exact⟨s',γ',h1,h2,h3,h4⟩
theorem YT.cond{o:Operand}{x y:Code}{b:Bool}(hc:s.st.ev G o=some (.bool b))(h:YT P G L l (if b then x else y) s Q):YT P G L l (.cond o x y) s Q:=fun fn γ0 w0 b0 D Ds sz te γ a w he hs hd=>
 wpIn_cond ((hs.ev hc).bool_inv) (h fn γ0 w0 b0 D Ds sz te γ a w he hs hd)
theorem YT.block{id:Nat}{c:Code}(h:YT P G L l c s (inBlockY id Q)):YT P G L l (.block id c) s Q:=fun fn γ0 w0 b0 D Ds sz te γ a w he hs hd=>by
 refine wpIn_block (wpIn_mono (h fn γ0 w0 b0 D Ds sz te γ a w he hs hd) fun e a' w' hl=>?_)
 obtain⟨s',γ',h1,h2,h3,h4⟩:=hl
 cases e with
 | exit id'=>
  simp only[inBlockY] at h4
  simp only[Exit.inBlock]
  split
  ·rename_i he;rw[if_pos he] at h4;exact⟨s',γ',h1,h2,h3,h4⟩
  ·rename_i he;rw[if_neg he] at h4;exact⟨s',γ',h1,h2,h3,h4⟩
 | _=>exact⟨s',γ',h1,h2,h3,h4⟩
theorem YT.skip(h:Q .normal s):YT P G L l .skip s Q:=fun _ _ _ _ _ _ _ _ γ _ _ he hs hd=>wpIn_skip ⟨s,γ,hd,he,hs,h⟩
theorem YT.exit{id:Nat}(h:Q (.exit id) s):YT P G L l (.exit id) s Q:=fun _ _ _ _ _ _ _ _ γ _ _ he hs hd=>wpIn_exit ⟨s,γ,hd,he,hs,h⟩
theorem YT.loop{c:Code}(I:Nat→YS→Prop)(round:∀n s,I n s→YT P G L l c s (thenY (fun s'=>∃m,m < n∧I m s') Q)){n:Nat}(h:I n s):YT P G L l (.loop c) s Q:=fun fn γ0 w0 b0 D Ds sz te γ a w he hs hd=>by
 refine cw_loopN (fun n a' w'=>YPost G L l fn γ0 w0 b0 D Ds sz te (fun _ s=>I n s) .normal a' w') (fun n a' w' hI=>?_) n a w ⟨s,γ,hd,he,hs,h⟩
 obtain⟨s',γ',h1,h2,h3,h4⟩:=hI
 refine wpIn_mono (round n s' h4 fn γ0 w0 b0 D Ds sz te γ' a' w' h2 h3 h1) fun e a2 w2 hl=>?_
 obtain⟨s2,γ2,k1,k2,k3,k4⟩:=hl
 cases e with
 | normal=>obtain⟨m,hm,hI⟩:=k4;exact⟨m,hm,s2,γ2,k1,k2,k3,hI⟩
 | _=>exact⟨s2,γ2,k1,k2,k3,k4⟩
theorem YT.gst{c:Code}{x:Exit}{st st':St}(g:Gst G st st')(h:YT P G L l c ⟨x,st'⟩ Q):YT P G L l c ⟨x,st⟩ Q:=fun fn γ0 w0 b0 D Ds sz te γ a w he hs hd=>by
 obtain⟨γ',h1,h2,h3⟩:=g γ a.tmps w hs
 exact h fn γ0 w0 b0 D Ds sz te γ' a w (he.step h2 h3) h1 (hd.grow h2)
def H1(P:Program)(G:Nat→Option (List V))(L:YL)(l:Nat)(ops:Array Oper)(is:List Nat)(s:YS)(Q:Exit→YS→Prop):Prop:=
 ∀(fn:FuncId) (γ0:Gh) (w0:World) (b0:Nat→Option Blk) (D:Nat) (Ds:List Nat) (sz:Nat) (te:Array Value) (γ:Gh) (a:Act) (w:World),
  Env G L γ0 w0 b0 l D Ds sz te (D3 fn te L.ps L.assign L.body D s.x) γ s.st.b s.st.u w→Sim G γ s.st a.tmps w→D1 sz γ w a.defers→
  wpOpsIn (RF none) 0 P ops (YPost G L l fn γ0 w0 b0 D Ds sz te Q) is a w
theorem YT.region{id:Nat}{ops:Array Oper}(h:H1 P G L l ops (List.range ops.size) s Q):YT P G L l (.region id ops false) s Q:=fun fn γ0 w0 b0 D Ds sz te γ a w he hs hd=>wpIn_region (h fn γ0 w0 b0 D Ds sz te γ a w he hs hd)
theorem H1.nil{ops:Array Oper}(h:Q .normal s):H1 P G L l ops [] s Q:=fun _ _ _ _ _ _ _ _ γ _ _ he hs hd=>⟨s,γ,hd,he,hs,h⟩
theorem H1.gst{ops:Array Oper}{is:List Nat}{x:Exit}{st st':St}(g:Gst G st st')(h:H1 P G L l ops is ⟨x,st'⟩ Q):H1 P G L l ops is ⟨x,st⟩ Q:=fun fn γ0 w0 b0 D Ds sz te γ a w he hs hd=>by
 obtain⟨γ',h1,h2,h3⟩:=g γ a.tmps w hs
 exact h fn γ0 w0 b0 D Ds sz te γ' a w (he.step h2 h3) h1 (hd.grow h2)
theorem wpOpsIn_append{F:Fence}{n:Nat}{ops:Array Oper}{Q:Exit→Act→World→Prop}(js:List Nat):∀(is:List Nat) (a:Act) (w:World),wpOpsIn F n P ops (fun e a w=>e=.normal∧wpOpsIn F n P ops Q js a w) is a w→wpOpsIn F n P ops Q (is++js) a w
 | [],a,w,h=>h.2
 | i :: is,a,w,h=>by
  have ih:=wpOpsIn_append (F:=F) (n:=n) (ops:=ops) (Q:=Q) js is
  simp only[wpOpsIn,List.cons_append] at h ⊢
  split
  ·rename_i hi;rw[hi] at h;exact ih a w h
  ·rename_i o hi
   rw[hi] at h
   simp only at h ⊢
   split
   ·rename_i hw
    rw[if_pos hw] at h
    refine⟨h.1,?_⟩
    have h:=h.2
    unfold Oper.uponIn at h ⊢
    split at h
    ·exact ih _ _ h
    ·exact ih _ _ h
    ·exact ih _ _ h
    ·refine⟨h.1,CallsIn.mono h.2 fun e w' hr=>?_⟩
     cases e with
     | returned v=>exact ih _ _ hr
     | panicked ch=>exact absurd hr.1 (by simp)
     | outgrown=>obtain⟨a0,w0,h2⟩:=hr;exact absurd h2.1 (by simp)
    ·exact⟨h.1,RowsIn.mono h.2 fun v w' hr=>ih _ _ hr⟩
    ·refine⟨h.1,RoundIn.mono h.2 fun e w' hr=>?_⟩
     cases e with
     | returned v=>exact ih _ _ hr
     | panicked ch=>exact absurd hr.1 (by simp)
     | outgrown=>obtain⟨a0,w0,h2⟩:=hr;exact absurd h2.1 (by simp)
    ·exact absurd h.1 (by simp)
    ·exact h.elim
   ·rename_i hw;rw[if_neg hw] at h;exact⟨h.1,ih _ _ h.2⟩
theorem H1.tv{ops:Array Oper}{is js:List Nat}{Q1:Exit→St→Prop}(h:H3 P G ops is s.st Q1)(hq:∀e st,Q1 e st→e=.normal∧H1 P G L l ops js ⟨s.x,st⟩ Q):H1 P G L l ops (is++js) s Q:=fun fn γ0 w0 b0 D Ds sz te γ a w he hs hd=>by
 refine wpOpsIn_append js is a w (U9 (fun e a' w' hl=>?_) is a w (h ⟨none,a.defers,true⟩ γ a w hs (FxOk.free γ w)))
 obtain⟨st',γ',h1,⟨h2,h2p⟩,h3,h4⟩:=hl
 obtain⟨rfl,h5⟩:=hq e st' h4
 exact⟨rfl,h5 fn γ0 w0 b0 D Ds sz te γ' a' w' (he.step h2 h2p) h1 (hd.trans h2 h3 he.lo.2.2.2)⟩
theorem H1.step{ops:Array Oper}{i:Nat}{is:List Nat}{st':St}(h:stepG P G ops i s.st=some st')(hr:H1 P G L l ops is ⟨s.x,st'⟩ Q):H1 P G L l ops (i :: is) s Q:=
 H1.tv (is:=[i]) (js:=is) (Q1:=fun e st=>e=.normal∧st=st') (H3.cons (stepG_spec h) (H3.nil ⟨rfl,rfl⟩)) fun e st hq=>by
  obtain⟨rfl,rfl⟩:=hq
  exact⟨rfl,hr⟩
theorem IterT.of{c:Code}{m:Nat}{args:Nat→List V}{bi:Nat→Option Blk}{R:Exit→(Nat→Option Blk)→Prop}
  (h:∀l,YT P G L l c ⟨.normal,entry m (args l) bi⟩ (fun e s=>(e=.normal∨e=.ret)∧∃ni ti b',Gst G s.st (M7 ni ti b')∧R s.x b')):IterT P G c m args bi L R:=fun fn γ0 w0 b0 l D Ds sz te γ a w he hs hd=>
 wpIn_mono (h l fn γ0 w0 b0 D Ds sz te γ a w he hs (by rw[hd];exact D1.nil)) fun e a' w' hl=>by
  obtain⟨s',γ',h1,h2,h3,h4,ni,ti,b',h5,h6⟩:=hl
  obtain⟨γ2,k1,k2,k3⟩:=h5 γ' a'.tmps w' h3
  exact⟨h4,s'.x,b',γ2,ni,ti,a'.tmps,h6,h2.step k2 k3,k1,h1.grow k2⟩
end
def Z9(P:Program)(G:Nat→Option (List V))(kp:List Nat)(n:Nat)(c:Code)(x:Ext){ρ:Type}(g:T P G ρ)(E:ρ→Ext):Prop:=
 (x.ok,sx P G kp 100000 ρ (.mid E) g (.inl c) [] (x.D n))=(true,g.expect (.mid E))
theorem Z9.tv{P:Program}{G:Nat→Option (List V)}{kp:List Nat}{n:Nat}{c:Code}{x:Ext}{ρ:Type}{g:T P G ρ}{E:ρ→Ext}(h:Z9 P G kp n c x g E)(hm:P.follows .mixedOrders=true){r:ρ}(hr:g.run=some r)(hE:(E r).ok=true) :
  TV P G c (x.D n).st (fun e s=>e=(E r).ex∧Gst G s ((E r).D n).st):=by
 simp only[Z9,ζP] at h
 have key:TV P G c (x.D n).st (G9 P (.mid E) r n):=sx_ok hm 100000 _ _ _ _ _ _ _ (C4 h.1) h.2 hr
 refine key.mono fun e s hg=>?_
 obtain⟨g1,g2,g3,g4⟩:=hg
 have f:=L7 (G:=G) (s:=s) hE g3 g4
 rw[g2] at f
 exact⟨g1,f⟩
theorem H3.planM{P:Program}{G:Nat→Option (List V)}{ops:Array Oper}{Q:Exit→St→Prop}{p:J0}{st:St}{m:Nat}(h:∀i,i < m→A3 P G ops i (K0 p st i) (p.rs i) (p.ws i))(hq:Q .normal (K0 p st m)) :
  ∀n k,k+n=m→H3 P G ops (List.range' k n) (K0 p st k) Q
 | 0,k,hk=>by
  have:k=m:=by omega
  subst this;exact H3.nil hq
 | n+1,k,hk=>by
  rw[List.range'_succ]
  exact H3.cons (h k (by omega) _ rfl (fun l _=>F2.refl _ l)) (H3.planM h hq n (k+1) (by omega))
theorem H3.rel{P:Program}{G:Nat→Option (List V)}{ops:Array Oper}{l:List Nat}{st:St}{Q Q':Exit→St→Prop}(h:H3 P G ops l st Q')(hq:∀e s,Q' e s→Rel P G Q e s):H3 P G ops l st Q:=fun fx γ a w hs hd=>
 U9 (fun e a' w' hl=>by
  obtain⟨st',γ',h1,h2,h3,h4⟩:=hl
  exact(hq e st' h4 ⟨fx.ro,a'.defers,fx.mx⟩ γ' a' w' h1 rfl).grow2 h2 h3) l a w (h fx γ a w hs hd)
def A0(P:Program)(G:Nat→Option (List V))(kp:List Nat)(n id:Nat)(ops:Array Oper)(m:Nat)(x:Ext){ρ:Type}(g:T P G ρ)(E:ρ→Ext):Prop:=
 (x.ok,rg P G id ops (List.range' 0 m) g (x.D n).st [] (x.D n).sy (fun g s p sy=>regEnd kp (x.D n) s p sy fun d'=>sx P G kp 100 ρ (.mid E) g (.inr .normal) [] d') fun _ _ _ _ _=>.stuck 79)=(true,g.expect (.mid E))
theorem A0.tv{P:Program}{G:Nat→Option (List V)}{kp:List Nat}{n id:Nat}{ops:Array Oper}{m:Nat}{x:Ext}{ρ:Type}{g:T P G ρ}{E:ρ→Ext}(h:A0 P G kp n id ops m x g E)(hm:P.follows .mixedOrders=true){r:ρ}(hr:g.run=some r)(hE:(E r).ok=true) :
  H3 P G ops (List.range' 0 m) (x.D n).st (fun e s=>e=(E r).ex∧Gst G s ((E r).D n).st):=by
 simp only[A0,ζP] at h
 have hd:=C4 (n:=n) h.1
 rcases rg_sound (st0:=(x.D n).st) m g (x.D n).st [] (x.D n).sy h.2 hr ⟨rfl,fun j hj=>by simp at hj⟩ hd.sy with⟨g',s,p,sy',x1,x2,x3,x4,x5⟩|⟨_,_,_,_,_,_,_,x1,_⟩
 rotate_left
 ·exact absurd x1 (Z5 _ _ _)
 simp only[List.length_nil,ξv] at x5
 have hs:s=K0 p (x.D n).st m:=by rw[←x5];exact x3.1
 obtain⟨d',y1,y2,y3,y4⟩:=regEnd_spec x1 (fun j=>Z5 _ g' j) hd hs x4
 have hq:Rel P G (G9 P (.mid E) r d'.n) .normal d'.st:=sx_ok hm 100 _ _ _ _ _ _ _ y2 y1 x2
 rw[y4] at hq
 have key:=H3.planM (Q:=fun e s'=>e=.normal∧s'=s) (m:=m) (fun i hi=>x3.2 i (by omega)) ⟨rfl,hs.symm⟩ m 0 (by omega)
 refine H3.rel key fun e s' he=>?_
 obtain⟨rfl,rfl⟩:=he
 refine(hq.forget y3).mono fun s2 hg=>?_
 obtain⟨g1,g2,g3,g4⟩:=hg
 have f:=L7 (G:=G) (s:=s2) hE g3 g4
 rw[show s2.n=n from g2] at f
 exact⟨g1,f⟩
def tOf(ts:List (Nat×V))(i:Nat):V:=match ts.find? (fun p=>p.1==i) with|some p=>p.2|none=>.undef
theorem D9{x:Ext}(h:(x.bs.all fun p=>decide (1000000≤p.1))=true)(n:Nat):(x.D n).st=M7 n (tOf x.ts) (ofL x.bs):=by
 have hu:(fun i=>x.us.contains i || uTop i)=uTop:=funext fun i=>by
  cases hu:uTop i with
  | true=>simp
  | false=>
   simp only[Bool.or_false]
   refine Bool.eq_false_iff.2 fun hc=>?_
   simp only[Ext.us,ζD,ζF] at hc
   obtain⟨p,hp,rfl⟩:=ζt.1 hc
   have:=ζE.1 h p hp
   simp[uTop] at hu
   simp at this
   omega
 show (⟨n,tOf x.ts,ofL x.bs,fun i=>x.us.contains i || uTop i⟩:St)=⟨n,tOf x.ts,ofL x.bs,uTop⟩
 rw[hu]
theorem S6{u:Nat→Bool}{ts:List (Nat×V)}(h:(ts.all fun p=>okV u p.2)=true)(i:Nat):okV u (tOf ts i)=true:=by
 unfold tOf
 cases hf:ts.find? (fun p=>p.1==i) with
 | none=>rfl
 | some p=>exact ζE.1 h p (ξh hf)
theorem setP_susp(n:Nat)(ts:List (Nat×V))(b:Nat→Option Blk)(p:Nat)(c:V):setP (M7 n (tOf ts) b) [(p,c)]=M7 n (tOf ((p,c) :: ts)) b:=by
 unfold setP M7 tOf
 simp only[List.foldl,St.setT,St.mk.injEq,true_and,and_true]
 funext i
 rw[List.find?_cons]
 by_cases h:i=p
 ·subst h;simp
 ·have:(p==i)=false:=by simpa using fun e=>h e.symm
  rw[if_neg h]
  simp only[this]
theorem entry_ext{args:List V}{x:Ext}(hx:x.ts=U6 args)(hb:(x.bs.all fun p=>decide (1000000≤p.1))=true)(n:Nat):(x.D n).st=entry n args (ofL x.bs):=by
 rw[D9 hb,hx]
 unfold M7 entry
 simp only[St.mk.injEq,true_and,and_true]
 exact funext fun i=>argTs_find args 0 i
theorem callC_of_TV{P:Program}{G:Nat→Option (List V)}{f:FuncId}{fn:Func}{c:Code}{n:Nat}{args:List V}{ins:Nat→Option Blk}{res:V}{outs:Nat→Option Blk}
  (hf:P.funcs[f]?=some fn) (hb:fn.body=some c) (hn:n=max fn.ntmps args.length) (hc:A8 8 res res=res) (h:TV P G c (entry n args ins) (Done P fn.results.toList res outs)):CallC P G f args ins res outs:=
 callC_body hf hb hn fun γ a w hs hd=>wpIn_mono (h ⟨none,[],true⟩ γ a w hs ⟨hd,rfl,fun _ h=>by simp at h⟩) fun e a' w' hl=>⟨res,hc,hl⟩
theorem YT.piece{P:Program}{G:Nat→Option (List V)}{L:YL}{l:Nat}{kp:List Nat}{n:Nat}{c:Code}{x:Ext}{ρ:Type}{g:T P G ρ}{E:ρ→Ext}{y:Exit}{Q:Exit→YS→Prop}
  (h:Z9 P G kp n c x g E) (hm:P.follows .mixedOrders=true) {r:ρ} (hr:g.run=some r) (hE:(E r).ok=true) (hq:∀s,Gst G s ((E r).D n).st→Q (E r).ex ⟨y,s⟩):YT P G L l c ⟨y,(x.D n).st⟩ Q:=
 YT.tv (h.tv hm hr hE) fun e st hg=>by rw[hg.1];exact hq st hg.2
def sh(b:Nat):Nat:=1000000+b
def un(b:Nat):Nat:=(b / 1000000 - 1) * 1000000+b % 1000000
theorem un_sh(b:Nat):un (sh b)=b:=by unfold un sh;omega
theorem sh_un{b:Nat}(h:1000000≤b):sh (un b)=b:=by unfold un sh;omega
theorem le_sh(b:Nat):1000000≤sh b:=by unfold sh;omega
attribute [irreducible] sh un
theorem uTop_of{b:Nat}(h:1000000≤b):uTop b=true:=by unfold uTop;exact ξr h
theorem uTop_sh(b:Nat):uTop (sh b)=true:=uTop_of (le_sh b)
mutual
theorem refsV_ren(s:Nat→Nat):∀c:V,U2 (W5 s c)=(U2 c).map s
 | .ref b o l=>rfl
 | .ptr b i o=>rfl
 | .mp b=>rfl
 | .fn f a c=>by simp only[W5,U2,ζp];rw[T5 s a,T5 s c]
 | .agg l=>by simp only[W5,U2];exact T5 s l
 | .tup l=>by simp only[W5,U2];exact T5 s l
 | .int _ _=>rfl
 | .bool _=>rfl
 | .str _=>rfl
 | .nilp=>rfl
 | .nilf=>rfl
 | .yld _=>rfl
 | .nilsl=>rfl
 | .ifc _=>rfl
 | .sl _ _ _=>rfl
 | .snap _=>rfl
 | .undef=>rfl
theorem T5(s:Nat→Nat):∀l:List V,H7 (F0 s l)=(H7 l).map s
 | []=>rfl
 | c :: l=>by simp only[F0,H7,ζp];rw[refsV_ren s c,T5 s l]
end
mutual
theorem renV_back(s r:Nat→Nat)(h:∀b,s (r b)=b):∀c:V,W5 s (W5 r c)=c
 | .ref b o l=>by simp[W5,h]
 | .ptr b i o=>by simp[W5,h]
 | .mp b=>by simp[W5,h]
 | .fn f a c=>by simp only[W5];rw[T4 s r h a,T4 s r h c]
 | .agg l=>by simp only[W5];rw[T4 s r h l]
 | .tup l=>by simp only[W5];rw[T4 s r h l]
 | .int _ _=>rfl
 | .bool _=>rfl
 | .str _=>rfl
 | .nilp=>rfl
 | .nilf=>rfl
 | .yld _=>rfl
 | .nilsl=>rfl
 | .ifc _=>rfl
 | .sl _ _ _=>rfl
 | .snap _=>rfl
 | .undef=>rfl
theorem T4(s r:Nat→Nat)(h:∀b,s (r b)=b):∀l:List V,F0 s (F0 r l)=l
 | []=>rfl
 | c :: l=>by simp only[F0];rw[renV_back s r h c,T4 s r h l]
end
theorem Blk.ren_back(s r:Nat→Nat)(h:∀b,s (r b)=b)(k:Blk):(k.ren r).ren s=k:=by
 obtain⟨z,e,rows⟩:=k
 simp only[Blk.ren,ζq]
 congr 1
 have:(F0 s ∘ F0 r)=id:=funext fun l=>T4 s r h l
 rw[this,List.map_id]
def shB(b:Nat→Option Blk)(i:Nat):Option Blk:=if 1000000≤i then (b (un i)).map (Blk.ren sh) else none
theorem shB_sh(b:Nat→Option Blk)(i:Nat):shB b (sh i)=(b i).map (Blk.ren sh):=by
 unfold shB
 rw[if_pos (le_sh _),un_sh]
def St.shift(st:St):St:=M7 st.n (fun i=>W5 sh (st.t i)) (shB st.b)
def H4.sh:H4→H4
 | .blk b=>.blk (EV.sh b)
 | .nest b i j=>.nest (EV.sh b) i j
def Gh.shift(γ:Gh):Gh where
 loc:=fun i=>if 1000000≤i then γ.loc (un i) else none
 own:=fun B=>(γ.own B).map H4.sh
 lim:=γ.lim
theorem Sim.shift{G:Nat→Option (List V)}{γ:Gh}{st:St}{tmps:Array Value}{w:World}(hs:Sim G γ st tmps w):Sim G γ.shift st.shift tmps w:=by
 have loc:∀b,γ.shift.loc (sh b)=γ.loc b:=fun b=>by simp only[Gh.shift];rw[if_pos (le_sh _),un_sh]
 have tr:∀b,Tr γ st.b st.u γ.shift (shB st.b) uTop sh b:=fun b=>by
  refine⟨fun k hk=>⟨k.ren sh,by rw[shB_sh,hk];rfl,rfl,by simp[Blk.ren],loc b⟩,fun hn _=>⟨by rw[shB_sh,hn];rfl,uTop_sh b⟩⟩
 refine⟨hs.n,fun i=>Rep.ren (γ1:=γ) (γ2:=γ.shift) (w:=w) (w':=w) (bs1:=st.b) (u1:=st.u) (bs2:=shB st.b) (u2:=uTop) (s:=sh) (fun B o v h1 h2=>⟨h1,h2⟩) (fun _ _ h=>h) (hs.t i) (fun b _=>tr b),fun b k hk=>?_,fun b k hk=>?_,hs.g,fun B x hx=>?_⟩
 ·have hk':shB st.b b=some k:=hk
  unfold shB at hk'
  split at hk'
  ·rename_i hb
   obtain⟨k0,h0,rfl⟩:=ζb.1 hk'
   have:=(hs.b _ _ h0).ren (γ2:=γ.shift) (bs2:=shB st.b) (u2:=uTop) (s:=sh) (loc _) (fun _=>rfl) (fun B hB=>by simp only[Gh.shift,hB];rfl) (fun B i j hB=>by simp only[Gh.shift,hB];rfl) (fun b' _=>tr b')
   rw[sh_un hb] at this
   exact this
  ·simp at hk'
 ·have hk':shB st.b b=some k:=hk
  unfold shB at hk'
  split at hk'
  ·rename_i hb;exact uTop_of hb
  ·simp at hk'
 ·simp only[Gh.shift] at hx
  obtain⟨y,hy,_⟩:=ζb.1 hx
  exact hs.o B y hy
def H4.un:H4→Option H4
 | .blk b=>if 1000000≤b then some (.blk (EV.un b)) else none
 | .nest b i j=>if 1000000≤b then some (.nest (EV.un b) i j) else none
def Gh.unshift(γ:Gh):Gh where
 loc:=fun i=>γ.loc (sh i)
 own:=fun B=>(γ.own B).bind H4.un
 lim:=γ.lim
structure St.known(st:St):Prop where
 t:∀i,∀b,b∈U2 (st.t i)→st.u b=true
 b:∀i k,st.b i=some k→st.u i=true∧∀b,b∈H7 k.rows.flatten→st.u b=true
theorem Sim.unshift{G:Nat→Option (List V)}{γ:Gh}{st:St}{tmps:Array Value}{w:World}(hs:Sim G γ st.shift tmps w)(hk:st.known):Sim G γ.unshift st tmps w:=by
 have tr:∀b0,st.u b0=true→Tr γ (shB st.b) uTop γ.unshift st.b st.u un (sh b0):=fun b0 hu=>by
  rw[Tr,un_sh,shB_sh]
  refine⟨fun k h=>?_,fun h _=>⟨by simpa using h,hu⟩⟩
  obtain⟨k0,h0,rfl⟩:=ζb.1 h
  exact⟨k0,h0,rfl,by simp[Blk.ren],rfl⟩
 have ownB:∀B b0,γ.own B=some (.blk (sh b0))→γ.unshift.own B=some (.blk b0):=fun B b0 h=>by
  simp only[Gh.unshift,h,ξa,H4.un]
  rw[if_pos (le_sh _),un_sh]
 have ownN:∀B b0 i j,γ.own B=some (.nest (sh b0) i j)→γ.unshift.own B=some (.nest b0 i j):=fun B b0 i j h=>by
  simp only[Gh.unshift,h,ξa,H4.un]
  rw[if_pos (le_sh _),un_sh]
 refine⟨hs.n,fun i=>?_,fun b k hb=>?_,fun b k hb=>(hk.b b k hb).1,hs.g,fun B x hx=>?_⟩
 ·have h0:Rep γ w (shB st.b) uTop (W5 sh (st.t i)) (tmps.getD i undef):=hs.t i
  have h1:=Rep.ren (γ1:=γ) (γ2:=γ.unshift) (w:=w) (w':=w) (bs1:=shB st.b) (u1:=uTop) (bs2:=st.b) (u2:=st.u) (s:=un) (fun B o v h1 h2=>⟨h1,h2⟩) (fun _ _ h=>h) h0 (fun b hb=>by
   rw[refsV_ren] at hb
   obtain⟨b0,hb0,rfl⟩:=ζt.1 hb
   exact tr b0 (hk.t i b0 hb0))
  rw[renV_back un sh un_sh] at h1
  exact h1
 ·have hsb:shB st.b (sh b)=some (k.ren sh):=by rw[shB_sh,hb];rfl
  have h0:L2 γ w (shB st.b) uTop (sh b) (k.ren sh):=hs.b (sh b) _ hsb
  have h1:=h0.ren (γ2:=γ.unshift) (bs2:=st.b) (u2:=st.u) (s:=un) (by show γ.loc (sh (un (sh b)))=_;rw[un_sh]) (fun _=>rfl) (fun B hB=>by rw[un_sh];exact ownB B b hB) (fun B i j hB=>by rw[un_sh];exact ownN B b i j hB)
   (fun b' hb'=>by
    have:H7 (k.ren sh).rows.flatten=(H7 k.rows.flatten).map sh:=by
     show H7 ((k.rows.map (F0 sh)).flatten)=_
     rw[ren_flatten,T5]
    rw[this] at hb'
    obtain⟨b0,hb0,rfl⟩:=ζt.1 hb'
    exact tr b0 ((hk.b b k hb).2 b0 hb0))
  rw[un_sh,Blk.ren_back un sh un_sh] at h1
  exact h1
 ·simp only[Gh.unshift] at hx
  obtain⟨y,hy,_⟩:=ζc.1 hx
  exact hs.o B y hy
theorem O3.unshift{G:Nat→Option (List V)}{fx:Fx}{γ:Gh}{st:St}{w:World}{Q:Exit→St→Prop}{e:Exit}{a:Act}{w':World}
  (h:O3 G fx γ.shift st.shift w (fun e s=>∃s',s=s'.shift∧s'.u=st.u∧s'.known∧Q e s') e a w') (hsu:∀b k,st.b b=some k→st.u b=true):O3 G fx γ st w Q e a w':=by
 obtain⟨_,γ1,h1,⟨h2,h3⟩,⟨Ds,m0,m1,m2,m3⟩,s',rfl,hu,hk,hq⟩:=h
 have none1:∀B,γ1.own B=none→γ1.unshift.own B=none:=fun B hB=>by simp only[Gh.unshift,hB];rfl
 refine⟨s',γ1.unshift,h1.unshift hk,⟨⟨h2.os,h2.tape,h2.output,h2.size,h2.imm,h2.lim,fun B hB hn=>?_,h2.room⟩,fun b hb=>?_⟩,⟨Ds,m0,m1,m2,fun D hD=>⟨(m3 D hD).1,(m3 D hD).2.1,none1 D (m3 D hD).2.2⟩⟩,hq⟩
 ·obtain⟨a1,a2,a3⟩:=h2.free B hB (by simp only[Gh.shift,hn];rfl)
  exact⟨a1,none1 B a2,a3⟩
 ·obtain⟨p1,p2,p3⟩:=h3 (sh b) (by simp only[R4,ζA,ζF] at hb ⊢;exact⟨le_sh b,by unfold sh;omega⟩)
  refine⟨fun h=>by rw[hu];exact h,fun h hn=>?_,fun k hk'=>⟨?_,?_⟩⟩
  ·have:=p2 (uTop_sh b) (by show shB st.b (sh b)=none;rw[shB_sh,hn];rfl)
   have h0:shB s'.b (sh b)=none:=this
   rw[shB_sh] at h0
   simpa using h0
  ·rw[hu];exact hsu b k hk'
  ·obtain⟨_,q⟩:=p3 (k.ren sh) (by show shB st.b (sh b)=_;rw[shB_sh,hk'];rfl)
   rcases q with q|⟨k',q1,q2,q3,q4⟩
   ·have h0:shB s'.b (sh b)=none:=q
    rw[shB_sh] at h0
    exact .inl (by simpa using h0)
   ·have h0:shB s'.b (sh b)=some k':=q1
    rw[shB_sh] at h0
    obtain⟨k0,h00,rfl⟩:=ζb.1 h0
    refine .inr ⟨k0,h00,q2,by simpa[Blk.ren] using q3,?_⟩
    have q4:γ1.loc (sh b)=γ.shift.loc (sh b):=q4
    simp only[Gh.shift] at q4
    rw[if_pos (le_sh _),un_sh] at q4
    exact q4
mutual
theorem okV_refs{u:Nat→Bool}:∀c:V,(∀b,b∈U2 c→u b=true)→okV u c=true
 | .ref b o l,h=>h b (by simp[U2])
 | .ptr b i o,h=>h b (by simp[U2])
 | .mp b,h=>h b (by simp[U2])
 | .fn f a c,h=>by
  simp only[okV,ζA]
  exact⟨okL_refs a fun b hb=>h b (by simp only[U2,ζr];exact .inl hb),okL_refs c fun b hb=>h b (by simp only[U2,ζr];exact .inr hb)⟩
 | .agg l,h=>by simp only[okV];exact okL_refs l fun b hb=>h b (by simpa only[U2] using hb)
 | .tup l,h=>by simp only[okV];exact okL_refs l fun b hb=>h b (by simpa only[U2] using hb)
 | .int _ _,_=>rfl
 | .bool _,_=>rfl
 | .str _,_=>rfl
 | .nilp,_=>rfl
 | .nilf,_=>rfl
 | .yld _,_=>rfl
 | .nilsl,_=>rfl
 | .ifc _,_=>rfl
 | .sl _ _ _,_=>rfl
 | .snap _,_=>rfl
 | .undef,_=>rfl
theorem okL_refs{u:Nat→Bool}:∀l:List V,(∀b,b∈H7 l→u b=true)→okL u l=true
 | [],_=>rfl
 | c :: l,h=>by
  simp only[okL,ζA]
  exact⟨okV_refs c fun b hb=>h b (by simp only[H7,ζr];exact .inl hb),okL_refs l fun b hb=>h b (by simp only[H7,ζr];exact .inr hb)⟩
end
theorem ofL_cons(p:Nat×Blk)(l:List (Nat×Blk))(i:Nat):ofL (p :: l) i=if p.1=i then some p.2 else ofL l i:=by
 unfold ofL
 rw[List.find?_cons]
 by_cases h:p.1=i
 ·simp[h]
 ·have:(p.1==i)=false:=by simpa using h
  simp only[this]
  rw[if_neg h]
theorem shB_ofL:∀l:List (Nat×Blk),shB (ofL l)=ofL (l.map fun p=>(sh p.1,p.2.ren sh))
 | []=>funext fun i=>by unfold shB ofL;split<;>rfl
 | p :: l=>funext fun i=>by
  have ih:=congrFun (shB_ofL l) i
  rw[ξf,ofL_cons]
  unfold shB at ih ⊢
  rw[ofL_cons]
  by_cases h:sh p.1=i
  ·subst h
   rw[if_pos rfl,if_pos (le_sh _),un_sh,if_pos rfl];rfl
  ·rw[if_neg h]
   by_cases hi:1000000≤i
   ·rw[if_pos hi] at ih ⊢
    have:¬p.1=un i:=fun e=>h (by rw[e,sh_un hi])
    rw[if_neg this];exact ih
   ·rw[if_neg hi] at ih ⊢;exact ih
theorem tOf_cons(p:Nat×V)(l:List (Nat×V))(i:Nat):tOf (p :: l) i=if p.1=i then p.2 else tOf l i:=by
 unfold tOf
 rw[List.find?_cons]
 by_cases h:p.1=i
 ·simp[h]
 ·have:(p.1==i)=false:=by simpa using h
  simp only[this]
  rw[if_neg h]
theorem tOf_shift:∀l:List (Nat×V),(fun i=>W5 sh (tOf l i))=tOf (l.map fun p=>(p.1,W5 sh p.2))
 | []=>rfl
 | p :: l=>funext fun i=>by
  have ih:=congrFun (tOf_shift l) i
  rw[ξf,tOf_cons,tOf_cons,←ih]
  split<;>rfl
end Go.EV
namespace Go.EV
open Go
theorem H3.eqnil{P:Program}{G:Nat→Option (List V)}{ops:Array Oper}{st:St}{Q:Exit→St→Prop}{i:Nat}{rest:List Nat}{o:Oper}{d:Nat}{t:TypeId}{x y:Operand}{b:TypeId}{own:Bool}{z:Nat}{rows:List (List V)}
  (hi:ops[i]?=some o) (hg:X0 ops st o=some true) (ho:o.op=.binOp .eql t x y b) (hd:o.dst=some d) (hdn:H2 st.n (some d)=true) (ht:N8 P t=true) (hx:st.ev G x=some (.sl own z rows)) (hy:st.ev G y=some .nilsl)
  (h1:rows=[]→H3 P G ops rest (st.put (some d) (.bool true)) Q) (h2:H3 P G ops rest (st.put (some d) (.bool false)) Q):H3 P G ops (i :: rest) st Q:=fun fx γ a w hs hdf=>by
 simp only[wpOpsIn]
 rw[hi]
 simp only
 rw[if_pos (K9 hs hg)]
 have key:∀r:Bool,(execOp a.eval o).run P w=.ok (.value (.bool r)) w→H3 P G ops rest (st.put (some d) (.bool r)) Q→o.wpIn (RF fx.ro) 0 P a w (fun a' w'=>wpOpsIn (RF fx.ro) 0 P ops (O3 G fx γ st w Q) rest a' w') (O3 G fx γ st w Q):=fun r hr hT=>by
  have hw:∀{next:Act→World→Prop} {Q':Exit→Act→World→Prop},next (a.put o.dst (.bool r)) w→o.wp P a w next Q':=fun h=>by
   unfold Oper.wp;rw[hr];exact h
  refine op_in (hw (U1 _ _ _)) (hw ?_)
  rw[hd]
  have:=hT fx γ (a.put (some d) (.bool r)) w (hs.put hdn (.data (.bool r))) (by rw[U1];exact hdf)
  exact U9 (fun e a2 w2 hl=>hl.grow (st:=st) ⟨.refl γ w,Pin.refl hs.u⟩) rest _ w this
 have ev : execOp a.eval o = (do let v ← (do eqGuard .eql t x y (a.eval x) (a.eval y); binOp .eql t (a.eval x) (a.eval y)); pure (.value v)) := by simp only [execOp, ho]
 have yv:=(hs.ev hy).nilsl_inv
 obtain⟨e,hu⟩:∃e,P.underlying t=some (.slice e):=by unfold N8 at ht;split at ht<;>simp_all
 rcases(hs.ev hx).sl_inv with⟨a0,xv,hr⟩|⟨B,o',cap,vs,xv,-,-,-,-⟩
 ·cases a0 with
  | some a0=>
   refine key false ?_ h2
   rw[ev,xv,yv,ζT]
   have:=(M8 (P:=P) (w:=w) (t:=t) (x:=.slice (some a0) 0 0) (y:=.slice none 0 0) (r:=false) x y (fun op=>by cases op<;>simp[eqGuard]) (fun d=>by simp[Op.equalIn,ζO hu]) rfl rfl).1
   rw[this];rfl
  | none=>
  refine key true ?_ (h1 hr)
  rw[ev,xv,yv,ζT]
  have:=(M8 (P:=P) (w:=w) (t:=t) (x:=.slice none 0 0) (y:=.slice none 0 0) (r:=true) x y (fun op=>by cases op<;>simp[eqGuard]) (fun d=>by simp[Op.equalIn,ζO hu]) rfl rfl).1
  rw[this];rfl
 ·refine key false ?_ h2
  rw[ev,xv,yv,ζT]
  have:=(M8 (P:=P) (w:=w) (t:=t) (x:=.slice (some ⟨B,o',none⟩) rows.length cap) (y:=.slice none 0 0) (r:=false) x y (fun op=>by cases op<;>simp[eqGuard]) (fun d=>by simp[Op.equalIn,ζO hu]) rfl rfl).1
  rw[this];rfl
theorem forget_ts{st:St}{n:Nat}{ts:List (Nat×V)}(hn:st.n=n)(_:∀b,1000000≤b→st.u b=true)(ht:∀p,p∈ts→st.t p.1=p.2∧okV uTop p.2=true):G3 st ((Ext.l .normal ts []).D n).st where
 n:=hn.symm
 t:=fun i=>by
  show (match ts.find? (fun p=>p.1==i) with|some p=>p.2|none=>.undef)=_∨_
  cases hf:ts.find? (fun p=>p.1==i) with
  | none=>exact .inl rfl
  | some p=>
   obtain⟨h1,h2⟩:=D8 hf
   obtain⟨h3,h4⟩:=ht p h1
   subst h2
   refine .inr ⟨?_,O7 (u:=uTop) (fun b hb=>?_) _ (by rw[h3];exact h4)⟩
   ·show (match ts.find? (fun q=>q.1==p.1) with|some p=>p.2|none=>.undef)=_
    rw[hf];exact h3.symm
   ·rw[D.st_u];exact okU_top (of_decide_eq_true hb)
 b:=fun _=>.inl rfl
 p:=fun b hb=>by rw[D.st_u];exact okU_top (uPin_le hb)
def eqNilAt(ops:Array Oper):Option TypeId:=match ops[1]? with
 | some o=>match o.op,o.dst,o.guard with
  | .binOp .eql t (.tmp 3) (.const (.slice none 0 0)) _,some 4,none=>some t
  | _,_,_=>none
 | none=>none
theorem eqNilAt_spec{ops:Array Oper}{t:TypeId}(h:eqNilAt ops=some t):∃(o:Oper) (tb:TypeId),ops[1]?=some o∧o.op=.binOp .eql t (.tmp 3) (.const (.slice none 0 0)) tb∧o.dst=some 4∧o.guard=none:=by
 unfold eqNilAt at h
 split at h
 ·rename_i o h1
  split at h
  ·rename_i h2 h3 h4
   simp only[ζa] at h;subst h
   exact⟨o,_,h1,h2,h3,h4⟩
  ·simp at h
 ·simp at h
def T9:Option Code→Array Oper
 | some (.seq (.region _ o _) _)=>o
 | _=>#[]
def T8:Option Code→Array Oper
 | some (.seq _ (.seq (.seq (.region _ o _) _) _))=>o
 | _=>#[]
def I7:Option Code→Code
 | some (.seq _ (.seq (.seq _ (.cond _ c _)) _))=>c
 | _=>.skip
def D2:Option Code→Code
 | some (.seq _ (.seq _ c))=>c
 | _=>.skip
theorem clone_ok{P:Program}{G:Nat→Option (List V)}{f:FuncId}{fn:Func}{yes rest:Code}{ops0 ops1:Array Oper}{t:TypeId}{z:Nat}{α:Type}{ty:Ty α}{l:List α}{kp:List Nat}{ρ:Type}{g:T P G ρ}{r:ρ}{hx:([].all fun(p:Nat×Blk)=>!([BT.of 7 ty z ([]++l)].any fun x=>x.id==p.1))=true}
  (hm:P.follows .mixedOrders=true) (hM:z < W9) (hf:P.funcs[f]?=some fn) (hb:fn.body=some (.seq (.region 0 ops0 false) (.seq (.seq (.region 1 ops1 false) (.cond (.tmp 4) yes .skip)) rest)))
  (hn:8=max fn.ntmps 1) (hr:fn.results.toList=[.tmp 2]) (z0:ops0.size=1) (z1:ops1.size=2)
  (h0:stepG P G ops0 0 (entry 8 [.sl false z (l.map ty.c)] fun _=>none)=some ((entry 8 [.sl false z (l.map ty.c)] fun _=>none).put (some 2) .nilsl))
  (h1:stepG P G ops1 0 ((entry 8 [.sl false z (l.map ty.c)] fun _=>none).put (some 2) .nilsl)=some (((entry 8 [.sl false z (l.map ty.c)] fun _=>none).put (some 2) .nilsl).put (some 3) (.sl false z (l.map ty.c))))
  (hq:eqNilAt ops1=some t) (ht:N8 P t=true)
  (kY:Z9 P G [2] 8 yes (Ext.l .normal [(2,.nilsl)] []) (.done ():T P G Unit) (fun _=>Ext.l .ret [(2,.nilsl)] []))
  (kR:Z9 P G kp 8 rest (Ext.l .normal [(0,.sl false z (l.map ty.c)),(2,.nilsl)] []) g (fun _=>Ext.of .ret [(2,.ref 7 0 ([]++l).length)] [] [BT.of 7 ty z ([]++l)] hx))
  (hE:(Ext.of .ret [(2,.ref 7 0 ([]++l).length)] [] [BT.of 7 ty z ([]++l)] hx).ok=true) (hrun:g.run=some r) :
  CallC P G f [.sl false z (l.map ty.c)] (ofL []) (.ref 7 0 ([]++l).length) (ofL [(7,⟨z,true,([]++l).map ty.c⟩)]):=by
 obtain⟨o,tb,hi,ho,hd,hg⟩:=eqNilAt_spec hq
 refine callC_of_TV (n:=8) hf hb hn (by rfl) ?_
 rw[hr]
 have e0:ofL []=(fun _=>none:Nat→Option Blk):=rfl
 rw[e0]
 refine TV.seq (TV.region ?_)
 rw[z0]
 refine H3.cons (stepG_spec h0) (H3.nil ?_)
 show TV P G _ _ _
 refine TV.seq (TV.seq (TV.region ?_))
 rw[z1]
 refine H3.cons (stepG_spec h1) ?_
 refine H3.eqnil (rows:=l.map ty.c) (own:=false) (z:=z) hi (by unfold X0;rw[hg]) ho hd rfl ht rfl rfl (fun hnil=>H3.nil ?_) (H3.nil ?_)
 ·
  have hl:l=[]:=List.map_eq_nil_iff.1 hnil
  subst hl
  show TV P G _ _ _
  refine TV.cond (t:=true) rfl ?_
  refine TV.ghost (Gst.forget (forget_ts (n:=8) (ts:=[(2,.nilsl)]) rfl (fun b hb=>by simp[entry,St.put,St.setT,uTop,hb]) (fun p hp=>?_))) ?_
  ·simp only[ζu] at hp;subst hp;exact⟨rfl,rfl⟩
  refine TV.rel (kY.tv hm (r:=()) rfl rfl) fun e s he=>?_
  obtain⟨rfl,hs⟩:=he
  refine Rel.ghost hs (Rel.ghost (Gst.virtT (d:=7) (t:=2) z hM rfl rfl) (Rel.of ?_))
  show Done P _ _ _ _ _
  refine⟨.inr rfl,rfl,fun b k hk=>?_⟩
  simp only[ofL,List.find?] at hk
  split at hk
  ·rename_i x hx'
   split at hx'
   ·rename_i hb'
    simp only[ζa] at hx' hk
    subst hx';subst hk
    have:(7:Nat)=b:=by simpa using hb'
    subst this;rfl
   ·simp at hx'
  ·simp at hk
 ·show TV P G _ _ _
  refine TV.cond (t:=false) rfl (TV.skip ?_)
  show TV P G _ _ _
  refine TV.ghost (Gst.forget (forget_ts (n:=8) (ts:=[(0,.sl false z (l.map ty.c)),(2,.nilsl)]) rfl (fun b hb=>by simp[entry,St.put,St.setT,uTop,hb]) (fun p hp=>?_))) ?_
  ·simp only[ζv,ζw,or_false] at hp
   rcases hp with rfl|rfl
   ·exact⟨rfl,rfl⟩
   ·exact⟨rfl,rfl⟩
  refine TV.rel (kR.tv hm hrun hE) fun e s he=>?_
  obtain⟨rfl,hs⟩:=he
  refine Rel.ghost hs (Rel.of ?_)
  show Done P _ _ _ _ _
  refine⟨.inr rfl,rfl,fun b k hk=>?_⟩
  exact hk
theorem Ty.notOwn{α:Type}{ty:Ty α}(hs:∀y,ty.c y=ty.d y)(y:α){c:V}(hc:c∈ty.c y):c.isOwn=false:=by
 rw[hs y,←ty.st y] at hc
 obtain⟨c0,_,rfl⟩:=ζt.1 hc
 exact strip_own c0
def over{α:Type}(l:List α)(p:Nat)(r:List α):List α:=l.take p++r++l.drop (p+r.length)
theorem P6{α:Type}(l:List α)(p:Nat)(r:List α)(h:p+r.length≤l.length):(over l p r).length=l.length:=by
 simp[over];omega
theorem over_get{α:Type}(l:List α)(p:Nat)(r:List α)(h:p+r.length≤l.length)(q:Nat):(over l p r)[q]?=if p≤q∧q < p+r.length then r[q - p]? else l[q]?:=by
 unfold over
 have e1:(l.take p).length=p:=by simp;omega
 by_cases h1:q < p
 ·rw[if_neg (by omega),ξe,ζl (by omega),ζx,if_pos h1]
 ·rw[ξe,ζm (by omega),e1]
  by_cases h2:q < p+r.length
  ·rw[if_pos (by omega),ζl (by omega)]
  ·rw[if_neg (by omega),ζm (by omega),ζy]
   congr 1;omega
theorem Sim.putRows{G:Nat→Option (List V)}{γ:Gh}{st:St}{tmps:Array Value}{w:World}(h:Sim G γ st tmps w){α:Type}{ty:Ty α}{l r:List α}{b z p B o:Nat}{cs:Array Value}{e:TypeId}{news:List Value}
  (hk:st.b b=some ⟨z,true,l.map ty.c⟩) (hM:z < W9) (hs:∀y,ty.c y=ty.d y) (hloc:γ.loc b=some (B,o)) (hown:γ.own B=some (.blk b)) (hheap:M6 w B cs e)
  (h4:∀r,r∈l.map ty.c→r.length=z) (h5:o+(l.map ty.c).length * z≤cs.size)
  (h6:∀(i:Nat) (c:V),(l.map ty.c).flatten[i]?=some c→∃v,cs[o+i]?=some v∧Rep γ w st.b st.u c v∧v.oneCell'=true∧E5 γ w (.nest b (i / z) (i % z)) c v) (hlim:γ.lim B=0)
  (hp:p+r.length≤l.length) (hn:news.length=r.length * z) (hrz:∀q,q∈r.map ty.c→q.length=z)
  (hnew:∀(i:Nat) (c:V),(r.map ty.c).flatten[i]?=some c→∃v,news[i]?=some v∧Rep γ w st.b st.u c v∧v.oneCell'=true) :
  Sim G γ (st.setB b ⟨z,true,(over l p r).map ty.c⟩) tmps (World.setBlk w B (K6 cs (o+p * z) news) e)∧Grow γ w γ (World.setBlk w B (K6 cs (o+p * z) news) e)∧
   L1 γ st.b st.u γ (st.setB b ⟨z,true,(over l p r).map ty.c⟩).b (st.setB b ⟨z,true,(over l p r).map ty.c⟩).u:=by
 have hl:(l.map ty.c).length=l.length:=by simp
 rw[hl] at h5
 have hle:(p+r.length) * z≤l.length * z:=ξl _ hp
 rw[ξp] at hle
 obtain⟨r1,r2⟩:=F6 news (o+p * z) cs (by rw[hn];omega)
 have hz':∀q,q∈(over l p r).map ty.c→q.length=z:=fun q hq=>by
  obtain⟨y,hy,rfl⟩:=ζt.1 hq
  unfold over at hy
  rcases ζr.1 hy with hy|hy
  ·rcases ζr.1 hy with hy|hy
   ·exact h4 _ (ζt.2 ⟨y,ξt hy,rfl⟩)
   ·exact hrz _ (ζt.2 ⟨y,hy,rfl⟩)
  ·exact h4 _ (ζt.2 ⟨y,ξu hy,rfl⟩)
 refine h.storeBlk (k:=⟨z,true,l.map ty.c⟩) hk hM hloc hown hheap r1 hlim hz' (by simp[P6 l p r hp]) (by rw[hl];exact h5) fun i c hc=>?_
 have hpos:0 < z:=by
  rcases ξq z with h0|h0
  ·have:((over l p r).map ty.c).flatten=[]:=by
    rw[List.flatten_eq_nil_iff]
    intro q hq
    exact ζS.1 ((hz' q hq).trans h0)
   rw[this] at hc;simp at hc
  ·exact h0
 have ei:i=(i / z) * z+i % z:=by rw[ξw];exact(Nat.div_add_mod i z).symm
 have hm:=Nat.mod_lt i hpos
 have hc':=hc
 rw[ei,J7 _ hz' _ _ hm,ζo,over_get l p r hp] at hc'
 rw[r2,hn]
 by_cases hq:p≤i / z∧i / z < p+r.length
 ·rw[if_pos hq] at hc'
  have a1:p * z≤i / z * z:=ξl _ hq.1
  have a2:(i / z+1) * z≤(p+r.length) * z:=ξl _ hq.2
  rw[ξp,ξp] at a2
  rw[if_pos (by omega)]
  have e2:o+i - (o+p * z)=(i / z - p) * z+i % z:=by
   rw[Nat.sub_mul];omega
  have hcr:(r.map ty.c).flatten[(i / z - p) * z+i % z]?=some c:=by rw[J7 _ hrz _ _ hm,ζo];exact hc'
  obtain⟨v,v1,v2,v3⟩:=hnew _ c hcr
  obtain⟨q,hq1,hq2⟩:=ξm.1 (ζi hcr)
  obtain⟨y,_,rfl⟩:=ζt.1 hq1
  exact⟨v,by rw[e2];exact v1,v2,v3,.of_not_own (Ty.notOwn hs y hq2)⟩
 ·rw[if_neg hq] at hc'
  have hno:¬(o+p * z≤o+i∧o+i < o+p * z+r.length * z):=fun hx=>hq (by
   constructor
   ·exact(Nat.le_div_iff_mul_le hpos).2 (by omega)
   ·exact(Nat.div_lt_iff_lt_mul hpos).2 (by rw[ξp];omega))
  rw[if_neg hno]
  have hcl:(l.map ty.c).flatten[i]?=some c:=by rw[ei,J7 _ h4 _ _ hm,ζo];exact hc'
  exact h6 i c hcl
section
variable {P:Program} {G:Nat→Option (List V)}
def Rule.appSame{α:Type}{ty:Ty α}{t t2 e e2:TypeId}{z:Nat}(ox oy:Operand)(d b i j m:Nat)(l:List α)(ht:P.underlying t=some (.slice e))(ht2:P.underlying t2=some (.slice e2))(hi:(P.info? e).map TypeInfo.size=some z)
    (hs:∀y,ty.c y=ty.d y):Rule P G Unit where
  op:=.call { callee:=.builtin .append,args:=#[ox,oy],argTypes:=#[t,t2] }
  dst:=some d
  vals:=[(ox,.ref b 0 i),(oy,.ref b j m)]
  blks:=[(b,⟨z,true,l.map ty.c⟩)]
  o:=bif decide (i≤j∧j+m≤l.length∧0 < l.length) then some () else none
  ws:=fun _=>[.b b (some ⟨z,true,(over l i ((l.drop j).take m)).map ty.c⟩),.t d (.ref b 0 (i+m))]
  dt:=[b]
  dat:=fun _ q k hm _=>by
    simp only[ζv,ζw,or_false,Wr.b.injEq,ζa,reduceCtorEq] at hm
    obtain⟨_,rfl⟩:=hm
    exact ty.data _
  ok:=fun _ ho x st hop hdst hvs hb hd=>H6 fun γ a w hsim=>by
    have hc:i≤j∧j+m≤l.length∧0 < l.length:=by
      cases hcc:decide (i≤j∧j+m≤l.length∧0 < l.length) with
      | false=>rw[hcc] at ho;simp at ho
      | true=>simpa using hcc
    obtain⟨hij,hjm,hpos⟩:=hc
    have hbb:st.b b=some ⟨z,true,l.map ty.c⟩:=hb (b,⟨z,true,l.map ty.c⟩) (by simp)
    have rx:Rep γ w st.b st.u (.ref b 0 i) (a.eval ox):=hvs (ox,.ref b 0 i) (by simp) γ a w hsim
    have ry:Rep γ w st.b st.u (.ref b j m) (a.eval oy):=hvs (oy,.ref b j m) (by simp) γ a w hsim
    obtain⟨hdn,_⟩:=hd d rfl
    obtain⟨ei,hi2,hz⟩:=ζb.1 hi
    subst hz
    have hll:(l.map ty.c).length=l.length:=by simp
    rcases rx.ref_inv hbb with⟨B,o,cap,hv,hl,hil,hcap,hroom,hM,hcp⟩|⟨B,_,_,h0,_⟩|⟨_,_,h0,_⟩
    · rcases hsim.b b _ hbb with⟨v1,_⟩|hm|⟨_,B',o',cs,e',h1,h2,h3,h4,h5,h6,h7,h8⟩
      · rw[hl] at v1;simp at v1
      · exact(hm.small hM).elim
      rw[hl] at h1;simp only[ζa,ζP] at h1
      obtain⟨rfl,rfl⟩:=h1
      simp only at hM hcp h4 h5 h6 h7 hv hroom
      rw[hll] at hcp
      obtain⟨vs,so,_⟩:=ref_shape (P:=P) hsim hbb (by rw[hll];exact hjm) ry true
      have hrl:(((l.map ty.c).drop j).take m).length=m:=by simp;omega
      have hlen:=so.len
      have hfirst:=so.first
      simp only[hrl] at hlen hfirst
      have hvl:vs.length=m * ei.size:=by have:=so.rd.2.1;simpa only[hrl] using this
      have hone:∀v,v∈vs→v.oneCell'=true:=fun v hv=>by
        obtain⟨q,hq,rfl⟩:=List.getElem_of_mem hv
        have fl:(((l.map ty.c).drop j).take m).flatten.length=m * ei.size:=by
          rw[List.length_flatten]
          have:(((l.map ty.c).drop j).take m).map List.length=List.replicate (((l.map ty.c).drop j).take m).length ei.size:=List.eq_replicate_iff.2 ⟨by simp,fun x hx=>by obtain⟨r,hr,rfl⟩:=ζt.1 hx;exact so.rd.1 r hr⟩
          rw[this,hrl];simp
        obtain⟨v,a1,_,a3,_⟩:=so.rd.2.2 q _ (ζd (show q < (((l.map ty.c).drop j).take m).flatten.length by rw[fl];omega))
        rw[ζd hq] at a1
        simp only[ζa] at a1
        rw[a1];exact a3
      rw[hll] at h5
      have hle:(i+m) * ei.size≤l.length * ei.size:=ξl _ (by omega)
      rw[ξp] at hle
      have hrun:=run_append_in_any (P:=P) (w:=w) t t2 x.type e e2 ei ht ht2 hi2 B o i cap m (a.eval oy) vs cs e' hlen hfirst (by omega) h3 hone (by rw[hvl];omega)
      have er:((l.drop j).take m).map ty.c=((l.map ty.c).drop j).take m:=by rw[List.map_take,List.map_drop]
      have el:((l.drop j).take m).length=m:=by simp;omega
      have hov:=P6 l i ((l.drop j).take m) (by rw[el];omega)
      have key:=hsim.putRows (r:=(l.drop j).take m) (p:=i) (news:=vs) hbb hM hs hl h2 h3 h4 (by rw[hll];exact h5) h6 (h7 trivial) (by rw[el];omega) (by rw[el];exact hvl) (by rw[er];exact so.rd.1) (by
        rw[er];exact fun q c hc=>by obtain⟨v,v1,v2,v3,_⟩:=so.rd.2.2 q c hc;exact⟨v,v1,v2,v3⟩)
      have pre : execOp a.eval x = (do let v ← Builtin.append_ #[t, t2] x.type #[a.eval ox, a.eval oy]; pure (.value v)) := by
        have h1:execOp a.eval x=builtin .append #[t,t2] x.type (#[ox,oy].map fun|.const _=>true|_=>false) (#[ox,oy].map a.eval):=by
          show (execOp a.eval x)=_;unfold execOp;rw[hop];rfl
        rw[h1];simp[builtin]
      have ev:a.eval ox=.slice (some ⟨B,o,none⟩) i cap:=by simpa using hv
      refine⟨.slice (some ⟨B,o,none⟩) (i+m) cap,_,γ,by rw[pre,ζT,ev,hrun,ζQ];rfl,key.2.1,key.2.2.pin,?_⟩
      have hp:=key.1.put (a:=a) (dst:=some d) (c:=.ref b 0 (i+m)) (v:=.slice (some ⟨B,o,none⟩) (i+m) cap) (by simpa[H2,St.setB] using hdn) (by
        have hr2:=key.2.1.roomAt hroom
        have:=Rep.ref (γ:=γ) (w:=World.setBlk w B (K6 cs (o+i * ei.size) vs) e') (bs:=(st.setB b ⟨ei.size,true,(over l i ((l.drop j).take m)).map ty.c⟩).b) (u:=(st.setB b ⟨ei.size,true,(over l i ((l.drop j).take m)).map ty.c⟩).u) b 0 (i+m) B o cap ⟨ei.size,true,(over l i ((l.drop j).take m)).map ty.c⟩ (by simp[St.setB]) hl (by show 0+(i+m)≤((over l i ((l.drop j).take m)).map ty.c).length;rw[ζs,hov];omega) (by omega) hr2 hM (by show ((over l i ((l.drop j).take m)).map ty.c).length≤0+cap;rw[ζs,hov];omega)
        simpa using this)
      rw[hdst]
      exact hp
    · have h0:(l.map ty.c).length=0:=h0
      rw[hll] at h0;omega
    · have h0:(l.map ty.c).length=0:=h0
      rw[hll] at h0;omega
def Rule.clear{α:Type}{ty:Ty α}{t e:TypeId}{z:Nat}(ox:Operand)(b off len:Nat)(l:List α)(y0:α)(ht:P.underlying t=some (.slice e))(hi:(P.info? e).map TypeInfo.size=some z)(hzero:zeroV P e=some (ty.c y0))
    (hy:(ty.c y0).length=z) (hs:∀y,ty.c y=ty.d y):Rule P G Unit where
  op:=.call { callee:=.builtin .clear,args:=#[ox],argTypes:=#[t] }
  dst:=none
  vals:=[(ox,.ref b off len)]
  blks:=[(b,⟨z,true,l.map ty.c⟩)]
  o:=some ()
  ws:=fun _=>[.b b (some ⟨z,true,(over l off (List.replicate len y0)).map ty.c⟩)]
  dt:=[b]
  dat:=fun _ q k hm _=>by
    simp only[ζu,Wr.b.injEq,ζa] at hm
    obtain⟨_,rfl⟩:=hm
    exact ty.data _
  ok:=fun _ _ x st hop hdst hvs hb _=>H6 fun γ a w hsim=>by
    have hbb:st.b b=some ⟨z,true,l.map ty.c⟩:=hb (b,⟨z,true,l.map ty.c⟩) (by simp)
    have rx:Rep γ w st.b st.u (.ref b off len) (a.eval ox):=hvs (ox,.ref b off len) (by simp) γ a w hsim
    obtain⟨ei,hi2,hz⟩:=ζb.1 hi
    subst hz
    have hll:(l.map ty.c).length=l.length:=by simp
    have pre : execOp a.eval x = (do let v ← Builtin.clear_ #[t] x.type #[a.eval ox]; pure (.value v)) := by
      have h1:execOp a.eval x=builtin .clear #[t] x.type (#[ox].map fun|.const _=>true|_=>false) (#[ox].map a.eval):=by
        show (execOp a.eval x)=_;unfold execOp;rw[hop];rfl
      rw[h1];simp[builtin]
    have same:len=0→(Builtin.clear_ #[t] x.type #[a.eval ox]).run P w=.ok (.tuple #[]) w→∃v w' γ',(execOp a.eval x).run P w=.ok (.value v) w'∧Grow γ w γ' w'∧Pin γ st.b st.u γ' (st.app [.b b (some ⟨ei.size,true,(over l off (List.replicate len y0)).map ty.c⟩)]).b (st.app [.b b (some ⟨ei.size,true,(over l off (List.replicate len y0)).map ty.c⟩)]).u∧
        Sim G γ' (st.app [.b b (some ⟨ei.size,true,(over l off (List.replicate len y0)).map ty.c⟩)]) (a.put x.dst v).tmps w':=fun h0 hr=>by
      subst h0
      have eo:over l off (List.replicate 0 y0)=l:=by simp[over]
      rw[eo]
      have es:st.app [.b b (some ⟨ei.size,true,l.map ty.c⟩)]=st:=by
        show st.setB b _=st
        unfold St.setB
        cases st with
        | mk n t bb u=>
          simp only[St.mk.injEq,true_and]
          refine⟨funext fun q=>?_,funext fun q=>?_⟩
          · split
            · rename_i e;subst e;exact hbb.symm
            · rfl
          · split
            · rename_i e;subst e;exact(hsim.u q _ hbb).symm
            · rfl
      rw[es]
      exact⟨_,w,γ,by rw[pre,ζT,hr,ζQ];rfl,.refl γ w,.refl hsim.u,by rw[hdst];exact hsim⟩
    rcases rx.ref_inv hbb with⟨B,o,cap,hv,hl,hil,hcap,hroom,hM,hcp⟩|⟨B,hv,h0,_,_⟩|⟨hv,h0,_,_⟩
    · rcases ξq len with h0|hpos
      · refine same h0 ?_
        rw[hv,h0]
        simp[Builtin.clear_,ζO ht]
      rcases hsim.b b _ hbb with⟨v1,_⟩|hm|⟨_,B',o',cs,e',h1,h2,h3,h4,h5,h6,h7,h8⟩
      · rw[hl] at v1;simp at v1
      · exact(hm.small hM).elim
      rw[hl] at h1;simp only[ζa,ζP] at h1
      obtain⟨rfl,rfl⟩:=h1
      simp only at hM hcp hil h4 h5 h6 h7 hv hroom
      rw[hll] at hil h5
      obtain⟨zv,hz1,hz2⟩:=T3 (P:=P) (γ:=γ) (w:=w) (bs:=st.b) (u:=st.u) hzero
      have hzs:zv.cells.size=ei.size:=hz2.1.trans hy
      have hnl:(Builtin.zeroCells zv.cells len).toList.length=len * ei.size:=by simp[Builtin.zeroCells,hzs]
      have hg:∀q,q < len * ei.size→(Builtin.zeroCells zv.cells len).toList[q]?=zv.cells[q % ei.size]?:=fun q hq=>by
        have hzp:0 < ei.size:=by
          rcases ξq ei.size with h|h
          · rw[h] at hq;omega
          · exact h
        have hm:=Nat.mod_lt q hzp
        simp only[Builtin.zeroCells,Array.toList_map,Array.toList_range,ζo,hzs]
        rw[List.getElem?_range hq]
        simp[hzs,hm]
      have hcellz:∀(q:Nat) (c:V),(ty.c y0)[q]?=some c→∃v,zv.cells[q]?=some v∧Rep γ w st.b st.u c v∧v.oneCell'=true:=fun q c hc=>by
        have hq:q < zv.cells.size:=by rw[hz2.1];exact(ζe.1 hc).1
        have hx:zv.cells[q]?=some zv.cells[q]:=ζg hq
        exact⟨_,hx,hz2.2 q c _ hc hx,(hz2.2 q c _ hc hx).isCell_one (dcell_isCell (ζE.1 (ty.cd y0) c (ζi hc)))⟩
      have hone:∀v,v∈(Builtin.zeroCells zv.cells len).toList→v.oneCell'=true:=fun v hv=>by
        obtain⟨q,hq,rfl⟩:=List.getElem_of_mem hv
        have hq':q < len * ei.size:=by rw[←hnl];exact hq
        have hzp:0 < ei.size:=by
          rcases ξq ei.size with h|h
          · rw[h] at hq';omega
          · exact h
        have hm:=Nat.mod_lt q hzp
        obtain⟨v,v1,_,v3⟩:=hcellz (q % ei.size) _ (ζd (by rw[hy];exact hm))
        have:=hg q hq'
        rw[ζd hq,v1] at this
        simp only[ζa] at this
        rw[this];exact v3
      have hle:(off+len) * ei.size≤l.length * ei.size:=ξl _ hil
      rw[ξp] at hle
      have hst:=X7 (P:=P) (B:=B) (o:=o+off * ei.size) (e:=e') (Builtin.zeroCells zv.cells len).toList 0 w cs h3 hone (by rw[hnl];omega)
      have key:=hsim.putRows (r:=List.replicate len y0) (p:=off) (news:=(Builtin.zeroCells zv.cells len).toList) hbb hM hs hl h2 h3 h4 (by rw[hll];exact h5) h6 (h7 trivial) (by simpa using hil) (by rw[hnl];simp) (fun q hq=>by
          obtain⟨y,hy',rfl⟩:=ζt.1 hq
          rw[List.eq_of_mem_replicate hy'];exact hy) (fun q c hc=>by
          have hzp:0 < ei.size:=by
            rcases ξq ei.size with h|h
            · have:((List.replicate len y0).map ty.c).flatten=[]:=by
                rw[List.flatten_eq_nil_iff]
                intro r hr
                obtain⟨y,hy',rfl⟩:=ζt.1 hr
                rw[List.eq_of_mem_replicate hy']
                exact ζS.1 (hy.trans h)
              rw[this] at hc;simp at hc
            · exact h
          have hrs:∀r,r∈(List.replicate len y0).map ty.c→r.length=ei.size:=fun r hr=>by
            obtain⟨y,hy',rfl⟩:=ζt.1 hr
            rw[List.eq_of_mem_replicate hy'];exact hy
          have eq:q=(q / ei.size) * ei.size+q % ei.size:=by rw[ξw];exact(Nat.div_add_mod q ei.size).symm
          have hm:=Nat.mod_lt q hzp
          rw[eq,J7 _ hrs _ _ hm] at hc
          obtain⟨r,hr,hc2⟩:=ζc.1 hc
          rw[ζo,ζb] at hr
          obtain⟨y,hy',rfl⟩:=hr
          have hql:q / ei.size < len:=by have:=(ζe.1 hy').1;simpa using this
          have hyy:y=y0:=List.eq_of_mem_replicate (ζi hy')
          subst hyy
          obtain⟨v,v1,v2,v3⟩:=hcellz _ c hc2
          have hqs:q < len * ei.size:=by
            have:(q / ei.size+1) * ei.size≤len * ei.size:=ξl _ hql
            rw[ξp] at this;omega
          exact⟨v,by rw[hg q hqs];exact v1,v2,v3⟩)
      refine⟨.tuple #[],_,γ,?_,key.2.1,key.2.2.pin,by rw[hdst];exact key.1⟩
      rw[pre,ζT]
      have hne:len≠0:=by omega
      have:(Builtin.clear_ #[t] x.type #[a.eval ox]).run P w=.ok (.tuple #[]) (World.setBlk w B (K6 cs (o+off * ei.size+0) (Builtin.zeroCells zv.cells len).toList) e'):=by
        rw[hv]
        obtain⟨len',rfl⟩:∃len',len=len'+1:=⟨len - 1,by omega⟩
        simp[Builtin.clear_,ζO ht,hz1,hst]
      rw[this,ζQ]
      rfl
    · refine same h0 ?_
      rw[hv]
      simp[Builtin.clear_,ζO ht]
    · refine same h0 ?_
      rw[hv]
      simp[Builtin.clear_,ζO ht]
theorem effO_cut{x:Oper}{st:St}{t e:TypeId}{ei:TypeInfo}{ox ol oh:Operand}{om:Option Operand}{d b len lo hi:Nat}{k:Blk}{kl kh:IntKind}{vl vh:Int}{mx:Option V}(hop:x.op=.slice t ox (some ol) (some oh) om)(hdst:x.dst=some d)(hd:d < st.n)
  (ht:P.underlying t=some (.slice e)) (hi':P.info? e=some ei) (hz:k.size=ei.size) (hk:st.b b=some k) (hx:Evs G st ox (.ref b 0 len)) (hl:Evs G st ol (.int kl vl)) (hh:Evs G st oh (.int kh vh))
  (hm:match om,mx with|none,none=>True|some o,some c=>Evs G st o c|_,_=>False) (h1:hiR len k.rows.length (some (.int kh vh)) mx=some hi) (h2:loV (some (.int kl vl)) hi=some lo) :
  N0 P G x st (st.setT d (.ref b lo (hi - lo))):=by
 have:=X9 (P:=P) (G:=G) (o:=x) (st:=st) (c:=.ref b lo (hi - lo)) (by rw[hdst];simpa[H2] using hd) fun γ a w hs=>by
  have hsl:sliceV P st.b t (.ref b 0 len) (some (.int kl vl)) (some (.int kh vh)) mx=some (.ref b lo (hi - lo)):=by
   unfold sliceV
   simp only[ht,hi',hk,hz,if_true,Nat.sub_zero,h1,ξa,h2,ζZ,ξv]
  have rm:RepO γ w st.b st.u mx (om.map a.eval):=by
   cases om with
   | none=>cases mx with
    | none=>trivial
    | some c=>exact hm.elim
   | some o=>cases mx with
    | none=>exact hm.elim
    | some c=>exact hm γ a w hs
  obtain⟨y,y1,y2⟩:=run_sliceV (P:=P) hsl (hx γ a w hs) (vlo:=some (a.eval ol)) (vhi:=some (a.eval oh)) (vmx:=om.map a.eval) (hl γ a w hs) (hh γ a w hs) rm
  exact⟨y,by simp[execOp,hop,y1],y2⟩
 rw[hdst] at this
 exact this
def Rule.cap2{α:Type}{ty:Ty α}{t e:TypeId}{z:Nat}(ox ol oh:Operand)(d b len:Nat)(l:List α)(kl kh:IntKind)(vl vh:Int)(ht:P.underlying t=some (.slice e))(hi:(P.info? e).map TypeInfo.size=some z):Rule P G Unit where
 op:=.slice t ox (some ol) (some oh) none
 dst:=some d
 vals:=[(ox,.ref b 0 len),(ol,.int kl vl),(oh,.int kh vh)]
 blks:=[(b,⟨z,true,l.map ty.c⟩)]
 o:=bif decide (0≤vl∧vl≤vh∧vh≤l.length) then some () else none
 ws:=fun _=>[.t d (.ref b vl.toNat (vh.toNat - vl.toNat))]
 dt:=[]
 dat:=fun _ _ _ _ h=>by simp at h
 ok:=fun _ ho x st hop hdst hvs hb hd=>by
  have hc:0≤vl∧vl≤vh∧vh≤l.length:=by
   cases hcc:decide (0≤vl∧vl≤vh∧vh≤l.length) with
   | false=>rw[hcc] at ho;simp at ho
   | true=>simpa using hcc
  obtain⟨ei,hi,hz⟩:=ζb.1 hi
  exact effO_cut (om:=none) (mx:=none) hop hdst (hd d rfl).1 ht hi hz.symm (hb (b,⟨z,true,l.map ty.c⟩) (by simp)) (hvs (ox,.ref b 0 len) (by simp)) (hvs (ol,.int kl vl) (by simp)) (hvs (oh,.int kh vh) (by simp)) trivial
   (by unfold hiR;simp only[ζs];rw[if_pos ⟨by omega,.inr hc.2.2⟩]) (by unfold loV;simp only;rw[if_pos (by omega)])
def Rule.cap3{α:Type}{ty:Ty α}{t e:TypeId}{z:Nat}(ox ol oh om:Operand)(d b len:Nat)(l:List α)(kl kh km:IntKind)(vl vh vm:Int)(ht:P.underlying t=some (.slice e))(hi:(P.info? e).map TypeInfo.size=some z):Rule P G Unit where
 op:=.slice t ox (some ol) (some oh) (some om)
 dst:=some d
 vals:=[(ox,.ref b 0 len),(ol,.int kl vl),(oh,.int kh vh),(om,.int km vm)]
 blks:=[(b,⟨z,true,l.map ty.c⟩)]
 o:=bif decide (0≤vl∧vl≤vh∧vh≤vm∧vm=l.length) then some () else none
 ws:=fun _=>[.t d (.ref b vl.toNat (vh.toNat - vl.toNat))]
 dt:=[]
 dat:=fun _ _ _ _ h=>by simp at h
 ok:=fun _ ho x st hop hdst hvs hb hd=>by
  have hc:0≤vl∧vl≤vh∧vh≤vm∧vm=l.length:=by
   cases hcc:decide (0≤vl∧vl≤vh∧vh≤vm∧vm=l.length) with
   | false=>rw[hcc] at ho;simp at ho
   | true=>simpa using hcc
  obtain⟨ei,hi,hz⟩:=ζb.1 hi
  exact effO_cut (om:=some om) (mx:=some (.int km vm)) hop hdst (hd d rfl).1 ht hi hz.symm (hb (b,⟨z,true,l.map ty.c⟩) (by simp)) (hvs (ox,.ref b 0 len) (by simp)) (hvs (ol,.int kl vl) (by simp)) (hvs (oh,.int kh vh) (by simp)) (hvs (om,.int km vm) (by simp))
   (by unfold hiR;simp only[ζs];rw[if_pos (by omega)]) (by unfold loV;simp only;rw[if_pos (by omega)])
theorem run_cutU{γ:Gh}{w:World}{bs:Nat→Option Blk}{u:Nat→Bool}{t e:TypeId}{ei:TypeInfo}{b len:Nat}{k:Blk}{kl kh km:IntKind}{vl vh vm:Int}{v:Value}(hu:P.underlying t=some (.slice e))(hi':P.info? e=some ei)(hk:bs b=some k)
  (hr:Rep γ w bs u (.ref b 0 len) v) (hc:0≤vl∧vl≤vh∧vh≤vm∧vm≤k.rows.length):∃y,(Instr.sliceAt t v (some (.int kl vl)) (some (.int kh vh)) (some (.int km vm))).run P w=.ok y w:=by
 have fin:∀(n cap:Nat) (a:Option Addr),vm≤cap→∃y,(Instr.sliceAt t (.slice a n cap) (some (.int kl vl)) (some (.int kh vh)) (some (.int km vm))).run P w=.ok y w:=fun n cap a hcap=>by
  have h1:∀code,(Instr.sliceBound (.int km vm) cap code).run P w=.ok vm.toNat w:=fun code=>run_sliceBound w km vm cap code (by omega) (by omega)
  have h2:∀code,(Instr.sliceBound (.int kh vh) vm.toNat code).run P w=.ok vh.toNat w:=fun code=>run_sliceBound w kh vh vm.toNat code (by omega) (by omega)
  have h3:∀code,(Instr.sliceBound (.int kl vl) vh.toNat code).run P w=.ok vl.toNat w:=fun code=>run_sliceBound w kl vl vh.toNat code (by omega) (by omega)
  have hb:(Instr.sliceBounds true n cap (some (.int kl vl)) (some (.int kh vh)) (some (.int km vm))).run P w=.ok (vl.toNat,vh.toNat,vm.toNat) w:=by
   simp[Instr.sliceBounds,ζT,ζQ,h1,h2,h3]
  cases a with
  | some a=>exact⟨.slice (if vm.toNat=vl.toNat then some a else some (a.add (vl.toNat * ei.size))) (vh.toNat - vl.toNat) (vm.toNat - vl.toNat),by simp[Instr.sliceAt,Instr.slice,ζO hu,hb,sizeOf,typeInfo,hi']⟩
  | none=>exact⟨.slice none (vh.toNat - vl.toNat) (vm.toNat - vl.toNat),by simp[Instr.sliceAt,Instr.slice,ζO hu,hb,sizeOf,typeInfo,hi']⟩
 rcases hr.ref_inv hk with⟨B,o,cap,rfl,hl,c1,c2,c3,hz,hcp⟩|⟨B,rfl,rfl,c1,hz⟩|⟨rfl,rfl,c1,hz⟩
 ·exact fin _ _ _ (by omega)
 ·exact fin _ _ _ (by omega)
 ·exact fin _ _ _ (by omega)
def Rule.cap3u{α:Type}{ty:Ty α}{t e:TypeId}{z:Nat}(ox ol oh om:Operand)(d b len:Nat)(l:List α)(kl kh km:IntKind)(vl vh vm:Int)(ht:P.underlying t=some (.slice e))(hi:(P.info? e).isSome=true):Rule P G Unit where
 op:=.slice t ox (some ol) (some oh) (some om)
 dst:=some d
 vals:=[(ox,.ref b 0 len),(ol,.int kl vl),(oh,.int kh vh),(om,.int km vm)]
 blks:=[(b,⟨z,true,l.map ty.c⟩)]
 o:=bif decide (0≤vl∧vl≤vh∧vh≤vm∧vm≤l.length) then some () else none
 ws:=fun _=>[.t d .undef]
 dt:=[]
 dat:=fun _ _ _ _ h=>by simp at h
 ok:=fun _ ho x st hop hdst hvs hb hd=>by
  have hc:0≤vl∧vl≤vh∧vh≤vm∧vm≤l.length:=by
   cases hcc:decide (0≤vl∧vl≤vh∧vh≤vm∧vm≤l.length) with
   | false=>rw[hcc] at ho;simp at ho
   | true=>simpa using hcc
  obtain⟨ei,hi⟩:=Option.isSome_iff_exists.1 hi
  have hk:st.b b=some ⟨z,true,l.map ty.c⟩:=hb (b,⟨z,true,l.map ty.c⟩) (by simp)
  have:=X9 (P:=P) (G:=G) (o:=x) (st:=st) (c:=.undef) (by rw[hdst];simpa[H2] using(hd d rfl).1) fun γ a w hs=>by
   have e1:=(hvs (ol,.int kl vl) (by simp) γ a w hs).int_inv
   have e2:=(hvs (oh,.int kh vh) (by simp) γ a w hs).int_inv
   have e3:=(hvs (om,.int km vm) (by simp) γ a w hs).int_inv
   simp only at e1 e2 e3
   obtain⟨y,hy⟩:=run_cutU (P:=P) (kl:=kl) (kh:=kh) (km:=km) ht hi hk (hvs (ox,.ref b 0 len) (by simp) γ a w hs) (vl:=vl) (vh:=vh) (vm:=vm) (by simpa using hc)
   exact⟨y,by simp[execOp,hop,e1,e2,e3,hy],.undef _⟩
  rw[hdst] at this
  exact this
end
theorem CallC.trim{P:Program}{G:Nat→Option (List V)}{f:FuncId}{args:List V}{ins:Nat→Option Blk}{d m:Nat}{k:Blk}(h:CallC P G f args ins (.ref d 0 m) (ofL [(d,k)]))(hd:d < 1000000)(hx:k.excl=true)(hm:m≤k.rows.length)
  (hdat:∀r,r∈k.rows→∀c,c∈r→U5 c=true∧c.isOwn=false) :
  CallC P G f args ins (.ref d 0 m) (ofL [(d,⟨k.size,k.excl,k.rows.take m⟩)]):=fun γ w vs hg ho ha hb=>by
 refine(h γ w vs hg ho ha hb).mono fun e w' hq=>?_
 obtain⟨v,γ',rfl,hg,hpin,hr,hbo,hown⟩:=hq
 have e1:ofL [(d,k)] d=some k:=by simp[ofL]
 have e2:ofL [(d,(⟨k.size,k.excl,k.rows.take m⟩:Blk))] d=some ⟨k.size,k.excl,k.rows.take m⟩:=by simp[ofL]
 have e3:∀b,b≠d→ofL [(d,k)] b=none∧ofL [(d,(⟨k.size,k.excl,k.rows.take m⟩:Blk))] b=none:=fun b hne=>by
  have:(d==b)=false:=by simpa using fun e=>hne e.symm
  exact⟨by simp[ofL,this],by simp[ofL,this]⟩
 have hlen:(k.rows.take m).length=m:=by simp;omega
 have hdata:∀(c:V) (v:Value),U5 c=true→Rep γ' w' (ofL [(d,k)]) (fun _=>true) c v→Rep γ' w' (ofL [(d,(⟨k.size,k.excl,k.rows.take m⟩:Blk))]) (fun _=>true) c v:=fun c v hc hr=>.data (dcell_data hc hr)
 refine⟨v,γ',rfl,hg,fun b hb'=>?_,?_,fun b q hq=>?_,hown⟩
 ·obtain⟨p1,p2,p3⟩:=hpin b hb'
  have hne:b≠d:=fun e=>by have:=uPin_le (b:=b) (by assumption);omega
  refine⟨p1,fun hu hn=>(e3 b hne).2,fun q hq=>⟨(p3 q hq).1,.inl (e3 b hne).2⟩⟩
 ·rcases hr.ref_inv e1 with⟨B,o,cap,rfl,hl,hil,hcap,hroom,hM,hcp⟩|⟨B,rfl,rfl,h0,hM⟩|⟨rfl,rfl,h0,hM⟩
  ·have:=Rep.ref (γ:=γ') (w:=w') (bs:=ofL [(d,(⟨k.size,k.excl,k.rows.take m⟩:Blk))]) (u:=fun _=>true) d 0 m B o cap ⟨k.size,k.excl,k.rows.take m⟩ e2 hl (by show 0+m≤(k.rows.take m).length;omega) hcap hroom hM (by show (k.rows.take m).length≤0+cap;omega)
   exact this
  ·exact .refE d 0 B ⟨k.size,k.excl,k.rows.take 0⟩ e2 hM (by simp)
  ·exact .refN d 0 ⟨k.size,k.excl,k.rows.take 0⟩ e2 hM (by simp)
 ·by_cases hbd:b=d
  ·subst hbd
   rw[e2] at hq
   simp only[ζa] at hq
   subst hq
   rcases hbo b k e1 with⟨v1,v2⟩|hmp|⟨hM,B,o,cs,e,a1,a2,a3,a4,a5,a6,a7,a8⟩
   ·exact .inl ⟨v1,by simp[v2]⟩
   ·rcases hr.ref_inv e1 with⟨_,_,_,_,_,_,_,_,hM,_⟩|⟨_,_,_,_,hM⟩|⟨_,_,_,hM⟩<;>exact(hmp.small hM).elim
   ·have hle:m * k.size≤k.rows.length * k.size:=ξl _ hm
    refine .inr (.inr ⟨hM,B,o,cs,e,a1,a2,a3,fun r hr=>a4 r (ξt hr),by show o+(k.rows.take m).length * k.size≤_;rw[hlen];omega,fun i c hc=>?_,a7,by rw[a7 hx];exact Nat.zero_le _⟩)
    have hc':k.rows.flatten[i]?=some c:=by
     have:=N9 k.rows a4 0 m i c (by simpa using hc)
     simpa using this
    obtain⟨y,b1,b2,b3,_⟩:=a6 i c hc'
    obtain⟨r,r1,r2⟩:=ξm.1 (ζi hc')
    obtain⟨d1,d2⟩:=hdat r r1 c r2
    exact⟨y,b1,hdata c y d1 b2,b3,.of_not_own d2⟩
  ·rw[(e3 b hbd).2] at hq;simp at hq
noncomputable def Spec.trim{P:Program}{G:Nat→Option (List V)}{α:Type}(s:Spec P G (List α×Nat))(ty:Ty α)(d z:Nat)(hd:d < 1000000)(hs:∀y,ty.c y=ty.d y)(hr:∀r,s.res r=.ref d 0 r.2)(ho:∀r,s.outs r=[(d,⟨z,true,r.1.map ty.c⟩)]):Spec P G (List α) where
  f:=s.f
  args:=s.args
  ins:=s.ins
  o:=match s.o with|some r=>bif decide (r.2≤r.1.length) then some (r.1.take r.2) else none|none=>none
  res:=fun l=>.ref d 0 l.length
  outs:=fun l=>[(d,⟨z,true,l.map ty.c⟩)]
  dt:=[d]
  dat:=fun _ p hp _=>by rw[ζu.1 hp];exact ty.data _
  ok:=fun l hl=>by
    split at hl
    · rename_i r hso
      cases hc:decide (r.2≤r.1.length) with
      | false=>rw[hc] at hl;simp at hl
      | true=>
        rw[hc] at hl
        simp only[cond_true,ζa] at hl
        subst hl
        have hc:r.2≤r.1.length:=by simpa using hc
        have h:=s.ok r hso
        rw[hr,ho] at h
        have k:=h.trim (m:=r.2) hd rfl (by simpa using hc) fun q hq c hcq=>by
          obtain⟨y,_,rfl⟩:=ζt.1 hq
          exact⟨ζE.1 (ty.cd y) c hcq,Ty.notOwn hs y hcq⟩
        have e1:(r.1.take r.2).length=r.2:=by simp;omega
        rw[e1,List.map_take]
        exact k
    · simp at hl
def Rule.makeNums{P:Program}{G:Nat→Option (List V)}{ty:Ty Int}{t e:TypeId}{k:IntKind}(ol oc:Operand)(d n:Nat)(by_:Nat)(ht:P.underlying t=some (.slice e))
    (hi:(P.info? e).map (fun i=>(i.size,i.bytes))=some (1,by_)) (hz:(P.info? e).bind TypeInfo.zero=some (.int k 0)) (hb:by_ * n≤281474976710656∧n≤9223372036854775807) (hc:∀x,ty.c x=[.int k x]):Rule P G Unit where
  op:=.makeSlice t ol oc
  dst:=some d
  vals:=[(ol,.int .i64 (n:Int)),(oc,.int .i64 (n:Int))]
  blks:=[]
  o:=some ()
  ws:=fun _=>[.b d (some ⟨1,true,(List.replicate n (0:Int)).map ty.c⟩),.t d (.ref d 0 n)]
  dt:=[d]
  dat:=fun _ i k h _=>by
    simp only[ζv,Wr.b.injEq,ζa,reduceCtorEq,ζw,or_false] at h
    rw[h.2];exact ty.data _
  ok:=fun _ _ x st hop hdst hvs _ hd=>H6 fun γ a w hs=>by
    obtain⟨h1,h2⟩:=hd d rfl
    obtain⟨i,hi1,hi2⟩:=ζb.1 hi
    simp only[ζP] at hi2
    obtain⟨s1,s2⟩:=hi2
    have hz':i.zero=some (.int k 0):=by rw[hi1] at hz;exact hz
    have e1:a.eval ol=.int .i64 (n:Int):=(hvs (ol,.int .i64 (n:Int)) (by simp) γ a w hs).int_inv
    have e2:a.eval oc=.int .i64 (n:Int):=(hvs (oc,.int .i64 (n:Int)) (by simp) γ a w hs).int_inv
    have hrun:=run_make (P:=P) w t e i (.int k 0) ht hi1 hz' .i64 .i64 (n:Int) (n:Int) (by omega) (by omega) (by rw[s2];have:=hb.1;omega) (by omega)
    have hrows:(List.replicate n (0:Int)).map ty.c=List.replicate n [V.int k 0]:=by rw[List.map_replicate,hc]
    have hcell:∀j (c:V),((List.replicate n (0:Int)).map ty.c).flatten[j]?=some c→j < n∧c=.int k 0:=fun j c hj=>by
      rw[hrows] at hj
      have hl:(List.replicate n [V.int k 0]).flatten=List.replicate n (V.int k 0):=by
        induction n with
        | zero=>rfl
        | succ m ih=>simp[List.replicate_succ,List.flatten_cons]
      rw[hl] at hj
      obtain⟨a1,a2⟩:=ζe.1 hj
      simp only[ζH] at a1
      simp only[List.getElem_replicate] at a2
      exact⟨a1,a2.symm⟩
    have sz:(madeCells (Value.int k 0).cells ((n:Int).toNat * i.size)).size=n:=by rw[size_madeCells,s1];simp
    have key:=hs.newBlk (d:=d) (size:=1) (rows:=(List.replicate n (0:Int)).map ty.c) (cs:=madeCells (Value.int k 0).cells ((n:Int).toNat * i.size)) (e:=e) (w1:={ w with heap:=w.heap.push (.cells (madeCells (Value.int k 0).cells ((n:Int).toNat * i.size)) e) }) (by decide) h2 rfl ⟨rfl,rfl,rfl⟩
      (fun r hr=>by rw[hrows] at hr;rw[(List.mem_replicate.1 hr).2];rfl) (by rw[sz];simp) (fun j c hj=>by
        obtain⟨j1,rfl⟩:=hcell j c hj
        refine⟨.int k 0,?_,.data (.int k 0),rfl,rfl⟩
        unfold madeCells
        rw[Array.getElem?_map]
        have hlt:j < (n:Int).toNat * i.size:=by rw[s1];simpa using j1
        have:(Array.range ((n:Int).toNat * i.size))[j]?=some j:=by rw[Array.getElem?_range,if_pos hlt]
        rw[this]
        have hcs:(Value.int k 0).cells=#[.int k 0]:=rfl
        simp only[ζZ,ζa,hcs]
        have:j % (#[Value.int k 0]:Array Value).size=0:=Nat.mod_one j
        rw[this];rfl)
    refine⟨.slice (some ⟨w.heap.size,0,none⟩) n n,_,γ.add d w.heap.size,?_,key.2.1,key.2.2.pin,?_⟩
    · have e3 : (execOp a.eval x) = (do let v ← Instr.makeSlice t (a.eval ol) (a.eval oc); pure (.value v) : Sem Next) := by unfold execOp; rw [hop]
      rw[e3,ζT,e1,e2,hrun]
      rfl
    · rw[hdst]
      have hb':=key.1.put (a:=a) (dst:=some d) (c:=.ref d 0 n) (v:=.slice (some ⟨w.heap.size,0,none⟩) n n) (by simpa[H2,St.setB] using h1) (by
        have:=Rep.ref (γ:=γ.add d w.heap.size) (w:={ w with heap:=w.heap.push (.cells (madeCells (Value.int k 0).cells ((n:Int).toNat * i.size)) e) }) (bs:=(st.setB d ⟨1,true,(List.replicate n (0:Int)).map ty.c⟩).b) (u:=(st.setB d ⟨1,true,(List.replicate n (0:Int)).map ty.c⟩).u)
          d 0 n w.heap.size 0 n ⟨1,true,(List.replicate n (0:Int)).map ty.c⟩ (by simp[St.setB]) (by simp[Gh.add]) (by simp) (ζK _) ⟨madeCells (Value.int k 0).cells ((n:Int).toNat * i.size),e,(0,0),Array.getElem?_push_size,by rw[sz];simp⟩ (by show 1 < W9;decide) (by simp)
        simpa using this)
      exact hb'
def Rule.makeD{P:Program}{G:Nat→Option (List V)}{α:Type}{ty:Ty α}{t e:TypeId}{zv:Value}{zc:V}(a0:α)(ol oc:Operand)(d:Nat)(n m:Int)(by_:Nat)(ht:P.underlying t=some (.slice e))
    (hi:(P.info? e).map (fun i=>(i.size,i.bytes))=some (1,by_)) (hz:(P.info? e).bind TypeInfo.zero=some zv) (hc:ty.c a0=[zc]) (hzc:zv.cells=#[zv]∧zv.oneCell'=true∧zc.isOwn=false) (hrep:∀lim w,W2 lim w zc zv):Rule P G Unit where
  op:=.makeSlice t ol oc
  dst:=some d
  vals:=[(ol,.int .i64 n),(oc,.int .i64 m)]
  blks:=[]
  o:=bif decide (0≤n)&&decide (n≤m)&&decide (by_ * m.toNat≤281474976710656)&&decide (m≤9223372036854775807) then some () else none
  ws:=fun _=>[.b d (some ⟨1,true,(List.replicate n.toNat a0).map ty.c⟩),.t d (.ref d 0 n.toNat)]
  dt:=[d]
  dat:=fun _ i k h _=>by
    simp only[ζv,Wr.b.injEq,ζa,reduceCtorEq,ζw,or_false] at h
    rw[h.2];exact ty.data _
  ok:=fun r ho x st hop hdst hvs hbs hd=>H6 fun γ a w hs=>by
    have hc3:(decide (0≤n)&&decide (n≤m)&&decide (by_ * m.toNat≤281474976710656)&&decide (m≤9223372036854775807))=true:=by
      cases hh:(decide (0≤n)&&decide (n≤m)&&decide (by_ * m.toNat≤281474976710656)&&decide (m≤9223372036854775807)) with
      | true=>rfl
      | false=>rw[hh] at ho;simp at ho
    simp only[ζA,ζF] at hc3
    obtain⟨⟨⟨c0,c1⟩,c2⟩,c3⟩:=hc3
    obtain⟨N,rfl⟩:=Int.eq_ofNat_of_zero_le c0
    obtain⟨M,rfl⟩:=Int.eq_ofNat_of_zero_le (Int.le_trans c0 c1)
    simp only[ζz] at *
    have hNM:N≤M:=by omega
    obtain⟨h1,h2⟩:=hd d rfl
    obtain⟨i,hi1,hi2⟩:=ζb.1 hi
    simp only[ζP] at hi2
    obtain⟨s1,s2⟩:=hi2
    have hz':i.zero=some zv:=by rw[hi1] at hz;exact hz
    have e1:a.eval ol=.int .i64 (N:Int):=(hvs (ol,.int .i64 (N:Int)) (by simp) γ a w hs).int_inv
    have e2:a.eval oc=.int .i64 (M:Int):=(hvs (oc,.int .i64 (M:Int)) (by simp) γ a w hs).int_inv
    have hrun:=run_make (P:=P) w t e i zv ht hi1 hz' .i64 .i64 (N:Int) (M:Int) (by omega) (by omega) (by rw[s2];omega) (by omega)
    simp only[ζz] at hrun
    have hrows:(List.replicate N a0).map ty.c=List.replicate N [zc]:=by rw[List.map_replicate,hc]
    have hcell:∀j (c:V),((List.replicate N a0).map ty.c).flatten[j]?=some c→j < N∧c=zc:=fun j c hj=>by
      rw[hrows] at hj
      have hl:∀N:Nat,(List.replicate N [zc]).flatten=List.replicate N zc:=fun N=>by
        induction N with
        | zero=>rfl
        | succ m ih=>simp[List.replicate_succ,List.flatten_cons,ih]
      rw[hl] at hj
      obtain⟨a1,a2⟩:=ζe.1 hj
      simp only[ζH] at a1
      simp only[List.getElem_replicate] at a2
      exact⟨a1,a2.symm⟩
    have sz:(madeCells zv.cells (M * i.size)).size=M:=by rw[size_madeCells,s1];simp
    have key:=hs.newBlk (d:=d) (size:=1) (rows:=(List.replicate N a0).map ty.c) (cs:=madeCells zv.cells (M * i.size)) (e:=e) (w1:={ w with heap:=w.heap.push (.cells (madeCells zv.cells (M * i.size)) e) }) (by decide) h2 rfl ⟨rfl,rfl,rfl⟩
      (fun r hr=>by rw[hrows] at hr;rw[(List.mem_replicate.1 hr).2];rfl) (by rw[sz];simpa using hNM) (fun j c hj=>by
        obtain⟨j1,rfl⟩:=hcell j c hj
        refine⟨zv,?_,.data (hrep _ _),hzc.2.1,hzc.2.2⟩
        unfold madeCells
        rw[Array.getElem?_map]
        have hlt:j < M * i.size:=by rw[s1];omega
        have:(Array.range (M * i.size))[j]?=some j:=by rw[Array.getElem?_range,if_pos hlt]
        rw[this]
        simp only[ζZ,ζa,hzc.1]
        have:j % (#[zv]:Array Value).size=0:=Nat.mod_one j
        rw[this];rfl)
    refine⟨.slice (some ⟨w.heap.size,0,none⟩) N M,_,γ.add d w.heap.size,?_,key.2.1,key.2.2.pin,?_⟩
    · have e3 : (execOp a.eval x) = (do let v ← Instr.makeSlice t (a.eval ol) (a.eval oc); pure (.value v) : Sem Next) := by unfold execOp; rw [hop]
      rw[e3,ζT,e1,e2,hrun]
      rfl
    · rw[hdst]
      have hb':=key.1.put (a:=a) (dst:=some d) (c:=.ref d 0 N) (v:=.slice (some ⟨w.heap.size,0,none⟩) N M) (by simpa[H2,St.setB] using h1) (by
        have:=Rep.ref (γ:=γ.add d w.heap.size) (w:={ w with heap:=w.heap.push (.cells (madeCells zv.cells (M * i.size)) e) }) (bs:=(st.setB d ⟨1,true,(List.replicate N a0).map ty.c⟩).b) (u:=(st.setB d ⟨1,true,(List.replicate N a0).map ty.c⟩).u)
          d 0 N w.heap.size 0 M ⟨1,true,(List.replicate N a0).map ty.c⟩ (by simp[St.setB]) (by simp[Gh.add]) (by simp) hNM ⟨madeCells zv.cells (M * i.size),e,(0,0),Array.getElem?_push_size,by rw[sz];simp⟩ (by show 1 < W9;decide) (by simpa using hNM)
        simpa using this)
      exact hb'
def Rule.allocAny{P:Program}{G:Nat→Option (List V)}(e:TypeId)(d:Nat)(hi:((P.info? e).bind TypeInfo.zero).any (fun z=>z.oneCell'&&z.cells.size==1)=true):Rule P G Unit where
  op:=.alloc e
  dst:=some d
  vals:=[]
  blks:=[]
  o:=some ()
  ws:=fun _=>[.b d (some ⟨1,true,[[.undef]]⟩),.t d (.ptr d 0 0)]
  dt:=[]
  dat:=fun _ _ _ _ h=>by simp at h
  ok:=fun _ _ x st hop hdst _ _ hd=>H6 fun γ a w hs=>by
    obtain⟨h1,h2⟩:=hd d rfl
    obtain⟨z,hz,hz2⟩:∃z,(P.info? e).bind TypeInfo.zero=some z∧(z.oneCell'&&z.cells.size==1)=true:=by
      cases hz:(P.info? e).bind TypeInfo.zero with
      | none=>rw[hz] at hi;simp at hi
      | some z=>rw[hz] at hi;exact⟨z,rfl,by simpa using hi⟩
    obtain⟨i,hi1,hi2⟩:=ζc.1 hz
    simp only[ζA,beq_iff_eq] at hz2
    have hzr:(zeroValue e).run P w=.ok z w:=by simp[zeroValue,typeInfo,hi1,hi2]
    have hc1:z.cells=#[z]:=by cases z<;>first|rfl|(simp[Value.oneCell'] at hz2)
    have key:=hs.newBlk (d:=d) (size:=1) (rows:=[[.undef]]) (cs:=z.cells) (e:=e) (w1:={ w with heap:=w.heap.push (.cells z.cells e) }) (by decide) h2 rfl ⟨rfl,rfl,rfl⟩ (by simp) (by simp[hz2.2]) (fun j c hj=>by
      simp only[List.flatten_cons,List.flatten_nil,ξk] at hj
      obtain⟨hj1,hj2⟩:=ζe.1 hj
      have:j=0:=by simpa using hj1
      subst this
      simp only[List.getElem_cons_zero] at hj2
      subst hj2
      exact⟨z,by rw[hc1];rfl,.undef z,hz2.1,rfl⟩)
    refine⟨.pointer (some ⟨w.heap.size,0,none⟩),{ w with heap:=w.heap.push (.cells z.cells e) },γ.add d w.heap.size,?_,key.2.1,key.2.2.pin,?_⟩
    · simp[execOp,hop,Instr.alloc,hzr,newVar,newRow]
    · rw[hdst]
      have:=key.1.put (a:=a) (dst:=some d) (c:=.ptr d 0 0) (v:=.pointer (some ⟨w.heap.size,0,none⟩)) (by simpa[H2,St.setB] using h1) (by
        have:=Rep.ptr (γ:=γ.add d w.heap.size) (w:={ w with heap:=w.heap.push (.cells z.cells e) }) (u:=(st.setB d ⟨1,true,[[.undef]]⟩).u) (bs:=(st.setB d ⟨1,true,[[.undef]]⟩).b) d 0 0 w.heap.size 0 ⟨1,true,[[.undef]]⟩ (by simp[St.setB]) (by simp[Gh.add]) (by show 1 < W9;decide)
        simpa using this)
      exact this
theorem rowsN_map{ty:Ty Int}(hc:∀x,ty.c x=[.int .u8 x]):∀l:List Int,rowsN (l.map ty.c)=some l
 | []=>rfl
 | x :: l=>by
  simp only[ξf,rowsN,hc,rowN,rowsN_map hc l]
def Rule.textOf{P:Program}{G:Nat→Option (List V)}{ty:Ty Int}{s t e:TypeId}(ox:Operand)(d b:Nat)(l:List Int)(n:Nat)(hs:P.underlying s=some (.slice e))(ht:P.underlying t=some .string)(he:P.underlying e=some (.int .u8))(hn:l.length=n)(hc:∀x,ty.c x=[.int .u8 x]):Rule P G Unit where
 op:=.convert s t ox
 dst:=some d
 vals:=[(ox,.ref b 0 n)]
 blks:=[(b,⟨1,true,l.map ty.c⟩)]
 o:=some ()
 ws:=fun _=>[.t d (.str (strOfNums l))]
 dt:=[]
 dat:=fun _ _ _ _ h=>by simp at h
 ok:=fun _ _ x st hop hdst hvs hb hd=>H6 fun γ a w hs'=>by
  have hx:=hvs (ox,.ref b 0 n) (by simp) γ a w hs'
  have hk:=hb (b,⟨1,true,l.map ty.c⟩) (by simp)
  have hcv:convL P st.b s t (.ref b 0 n)=some (.str (strOfNums l)):=by
   simp only[convL,hs,ht,he,hk]
   rw[if_pos ⟨trivial,by simp[hn]⟩,List.drop_zero,←hn,←ζs (f:=ty.c),List.take_length,rowsN_map hc]
   rfl
  obtain⟨v,h1,h2⟩:=run_convL hs' hcv hx
  refine⟨v,w,γ,?_,.refl γ w,.refl hs'.u,?_⟩
  ·have e3 : (execOp a.eval x) = (do let v ← convert s t (a.eval ox); pure (.value v) : Sem Next) := by unfold execOp; rw [hop]
   rw[e3,ζT,h1]
   rfl
  ·rw[hdst]
   exact hs'.put (a:=a) (dst:=some d) (by simpa[H2] using(hd d rfl).1) h2
theorem evs_vals{G:Nat→Option (List V)}{γ:Gh}{st:St}{a:Act}{w:World}(hs:Sim G γ st a.tmps w):∀(xs:List Operand) (vs:List V),xs.length=vs.length→(∀p,p∈xs.zip vs→Evs G st p.1 p.2)→
  J8 γ w st.b st.u vs (xs.map a.eval).toArray
 | [],[],_,_=>⟨rfl,fun i c v hc=>by simp at hc⟩
 | x :: xs,v :: vs,hl,h=>by
  have ih:=evs_vals hs xs vs (by simpa using hl) fun p hp=>h p (by simp[hp])
  refine⟨by have:=ih.1;simp at this ⊢;exact this,fun i c y hc hy=>?_⟩
  cases i with
  | zero=>
   simp at hc hy
   subst hc;subst hy
   exact h (x,v) (by simp) γ a w hs
  | succ i=>exact ih.2 i c y (by simpa using hc) (by simpa using hy)
 | [],_ :: _,hl,_=>by simp at hl
 | _ :: _,[],hl,_=>by simp at hl
abbrev CB:=Nat×Nat×Blk
def cbOf(lits:List CB)(typs:List (Nat×BT)):List CB:=lits++typs.map fun y=>(y.1,y.2.id,y.2.k)
def Rule.callRead{P:Program}{G:Nat→Option (List V)}{α:Type}(S:Spec P G α)(x:Operand)(xs:Array Operand)(ts:Array TypeId)(d:Nat)(first vs caps:List V)(lits:List CB)(typs:List (Nat×BT))(Li:List (Nat×Nat))
    (hLi:(cbOf lits typs).map (fun y=>(y.1,y.2.1))=Li) (hids:idsOk Li [] []=true) (hxs:xs.toList.length=vs.length)
    (hfn:(P.funcs[S.f]?).any (fun fn=>!(fn.name== "runtime.NumGoroutine")&&fn.body.isSome)=true)
    (hargs:F0 (Y1 Li) (first++vs++caps)=S.args) (hra:(H7 (first++vs++caps)).all (fun b=>Li.any fun y=>y.2==b)=true)
    (hins:lits.map (fun y=>(y.1,y.2.2.ren (Y1 Li)))++typs.map (fun y=>(y.1,y.2.k))=S.ins)
    (hrl:(lits.all fun y=>(H7 y.2.2.rows.flatten).all fun b=>Li.any fun z=>z.2==b)=true) (hrc:(lits.all fun y=>(H7 (y.2.2.ren (Y1 Li)).rows.flatten).all fun b=>Li.any fun z=>z.1==b)=true)
    (hback:lits.map (fun y=>(y.2.2.ren (Y1 Li)).ren (Y8 Li))=lits.map (·.2.2)) (houts:∀r,S.outs r=S.ins) (hres:∀r,W5 (Y8 Li) (S.res r)=S.res r∧U2 (S.res r)=[]):Rule P G α where
  op:=.call { callee:=.value x,args:=xs,argTypes:=ts }
  dst:=some d
  vals:=(x,.fn S.f first caps) :: xs.toList.zip vs
  blks:=(cbOf lits typs).map (·.2)
  o:=S.o
  ws:=fun r=>[.t d (S.res r)]
  dt:=[]
  dat:=fun _ _ _ _ h=>by simp at h
  ok:=fun q ho o st hop hdst hvs hbs hd=>by
    obtain⟨hdn,_⟩:=hd d rfl
    obtain⟨fn,hf,hf2⟩:∃fn,P.funcs[S.f]?=some fn∧(!(fn.name== "runtime.NumGoroutine")&&fn.body.isSome)=true:=by
      cases h:P.funcs[S.f]? with
      | none=>rw[h] at hfn;simp at hfn
      | some fn=>rw[h] at hfn;exact⟨fn,rfl,by simpa using hfn⟩
    simp only[ζA,ζB] at hf2
    have hnone:fn.body.isNone=false:=by cases hb:fn.body with
      | none=>rw[hb] at hf2;simp at hf2
      | some c=>rfl
    simp only[idsOk,ξk,ζA,ζE,beq_iff_eq,ζF,ζB] at hids
    obtain⟨⟨⟨i1,i2⟩,i3⟩,i4⟩:=hids
    have cr:∀y,y∈Li→Y8 Li y.1=y.2:=fun y hy=>(i1 y hy).1.1
    have ce:∀y,y∈Li→Y1 Li y.2=y.1:=fun y hy=>(i1 y hy).1.2
    have memAny:∀{c:Nat},(Li.any fun y=>y.1==c)=true→∃y,y∈Li∧y.1=c:=fun h=>by
      obtain⟨y,hy,e⟩:=List.any_eq_true.1 h;exact⟨y,hy,by simpa using e⟩
    have memAny2:∀{c:Nat},(Li.any fun y=>y.2==c)=true→∃y,y∈Li∧y.2=c:=fun h=>by
      obtain⟨y,hy,e⟩:=List.any_eq_true.1 h;exact⟨y,hy,by simpa using e⟩
    have anyMem:∀{y:Nat×Nat},y∈Li→(Li.any fun z=>z.1==y.1)=true:=fun h=>List.any_eq_true.2 ⟨_,h,by simp⟩
    have hins2:S.ins=(cbOf lits typs).map fun y=>(y.1,y.2.2.ren (Y1 Li)):=by
      rw[←hins,cbOf,ζp,ζq]
      congr 1
      exact ξi fun y _=>by show (y.1,y.2.k)=(y.1,y.2.k.ren (Y1 Li));rw[y.2.dat.ren]
    have blk:∀y,y∈Li→∃z,z∈cbOf lits typs∧z.1=y.1∧z.2.1=y.2:=fun y hy=>by
      rw[←hLi] at hy
      obtain⟨z,hz,rfl⟩:=ζt.1 hy
      exact⟨z,hz,rfl,rfl⟩
    have inLi:∀z,z∈cbOf lits typs→(z.1,z.2.1)∈Li:=fun z hz=>by rw[←hLi];exact ζt.2 ⟨z,hz,rfl⟩
    have same:∀z z',z∈cbOf lits typs→z'∈cbOf lits typs→z.1=z'.1→st.b z.2.1=st.b z'.2.1:=fun z z' h h' e=>by
      have a1:=cr _ (inLi z h)
      have a2:=cr _ (inLi z' h')
      simp only at a1 a2
      rw[←a1,←a2,e]
    have hb:∀z,z∈cbOf lits typs→st.b z.2.1=some z.2.2:=fun z hz=>hbs z.2 (ζt.2 ⟨z,hz,rfl⟩)
    have hofL:∀z,z∈cbOf lits typs→ofL S.ins z.1=some (z.2.2.ren (Y1 Li)):=fun z hz=>by
      rw[hins2]
      unfold ofL
      cases hf:((cbOf lits typs).map fun y=>(y.1,y.2.2.ren (Y1 Li))).find? (fun x=>x.1==z.1) with
      | none=>
        have:=List.find?_eq_none.1 hf (z.1,z.2.2.ren (Y1 Li)) (ζt.2 ⟨z,hz,rfl⟩)
        simp at this
      | some p=>
        obtain⟨z0,hz0,rfl⟩:=ζt.1 (ξh hf)
        have e:z0.1=z.1:=by simpa using List.find?_some hf
        have:=same z0 z hz0 hz e
        rw[hb z0 hz0,hb z hz] at this
        simp only[ζa] at this
        simp only[this]
    have hback2:∀z,z∈cbOf lits typs→(z.2.2.ren (Y1 Li)).ren (Y8 Li)=z.2.2:=fun z hz=>by
      rcases ζr.1 hz with h|h
      · exact List.map_inj_left.1 hback z h
      · obtain⟨y,_,rfl⟩:=ζt.1 h
        show (y.2.k.ren _).ren _=y.2.k
        rw[y.2.dat.ren,y.2.dat.ren]
    have hrl2:∀z,z∈cbOf lits typs→∀b,b∈H7 z.2.2.rows.flatten→(Li.any fun y=>y.2==b)=true:=fun z hz b hm=>by
      rcases ζr.1 hz with h|h
      · exact ζE.1 (ζE.1 hrl z h) b hm
      · obtain⟨y,_,rfl⟩:=ζt.1 h
        rw[y.2.dat.refs] at hm;simp at hm
    have hrc2:∀z,z∈cbOf lits typs→∀b,b∈H7 (z.2.2.ren (Y1 Li)).rows.flatten→(Li.any fun y=>y.1==b)=true:=fun z hz b hm=>by
      rcases ζr.1 hz with h|h
      · exact ζE.1 (ζE.1 hrc z h) b hm
      · obtain⟨y,_,rfl⟩:=ζt.1 h
        have hm':b∈H7 (y.2.k.ren (Y1 Li)).rows.flatten:=hm
        rw[y.2.dat.ren,y.2.dat.refs] at hm';simp at hm'
    intro fx γ a w hs had next Q hn
    have key:=effO_callS (P:=P) (G:=G) (o:=o) (st0:=st) (st:=st) (f:=S.f) (cs:=first++vs++caps) (res:=S.res q) (ins:=ofL S.ins) (outs:=ofL (S.outs q)) (K:=fun c=>Li.any fun y=>y.1==c) (Kin:=fun c=>Li.any fun y=>y.1==c) (Y8 Li) (Y1 Li)
      (fun γ a w hsim=>by
        have hx:=hvs (x,.fn S.f first caps) (by simp) γ a w hsim
        obtain⟨fs,cv,hv,l1,l2,p1,p2⟩:=hx.fn_inv
        have hm:=evs_vals hsim xs.toList vs hxs fun p hp=>hvs p (by simp[hp])
        have k:(xs.toList.map a.eval).toArray=xs.map a.eval:=Array.ext' (by rw[Array.toList_map])
        rw[k] at hm
        exact⟨γ,_,hsim,.refl γ w,.refl hsim.u,run_call hop hv hf hf2.1 hnone,(J8.append (J8.append ⟨by simpa using l1,fun i c v hc hx=>p1 i c v hc (by simpa using hx)⟩ hm) ⟨by simpa using l2,fun i c v hc hx=>p2 i c v hc (by simpa using hx)⟩)⟩)
      (fun c hK=>by obtain⟨y,hy,rfl⟩:=memAny hK;rw[cr y hy,ce y hy])
      (fun c hK=>by
        obtain⟨y,hy,rfl⟩:=memAny hK
        exact⟨anyMem hy,i2 y hy⟩)
      (fun c hK=>by
        obtain⟨y,hy,rfl⟩:=memAny hK
        obtain⟨z,hz,z1,z2⟩:=blk y hy
        refine⟨z.2.2,by rw[cr y hy,←z2];exact hb z hz,by rw[←z1];exact hofL z hz,fun b hbk=>?_⟩
        obtain⟨u,hu,rfl⟩:=memAny2 (hrl2 z hz b hbk)
        rw[ce u hu,cr u hu]
        exact⟨anyMem hu,rfl⟩)
      (fun c hK=>by
        cases hf:ofL S.ins c with
        | none=>rfl
        | some k=>
          have:=O8 hf
          rw[hins2] at this
          obtain⟨z,hz,e⟩:=ζt.1 this
          simp only[ζP] at e
          have h3:=anyMem (inLi z hz)
          simp only[e.1] at h3
          rw[hK] at h3;simp at h3)
      (fun c hK hKi=>by rw[hK] at hKi;simp at hKi)
      (fun c k hk=>by
        rw[houts] at hk
        have:=O8 hk
        rw[hins2] at this
        obtain⟨z,hz,e⟩:=ζt.1 this
        simp only[ζP] at e
        obtain⟨rfl,rfl⟩:=e
        exact⟨anyMem (inLi z hz),fun b hbk=>hrc2 z hz b hbk⟩)
      (fun b hbr=>by rw[(hres q).2] at hbr;simp at hbr)
      (fun b hbr=>by
        obtain⟨u,hu,rfl⟩:=memAny2 (ζE.1 hra b hbr)
        rw[ce u hu,cr u hu]
        exact⟨anyMem hu,rfl⟩)
      (by rw[hargs];exact S.ok q ho) (by rw[hdst];simpa[H2] using hdn)
    have hst:st.after (fun j=>(Li.any fun y=>y.1==Y1 Li j)&&(Y8 Li (Y1 Li j)==j)) (Y1 Li) (Y8 Li) (ofL (S.outs q))=st:=by
      refine St.ext' rfl fun l=>?_
      cases l with
      | t i=>exact rfl
      | b j=>
        cases hJ:((Li.any fun y=>y.1==Y1 Li j)&&(Y8 Li (Y1 Li j)==j)) with
        | false=>exact⟨by simp only[St.after,hJ];rfl,by simp only[St.after,hJ];rfl⟩
        | true=>
          have hJ':=hJ
          simp only[ζA,beq_iff_eq] at hJ'
          obtain⟨y,hy,e⟩:=memAny hJ'.1
          obtain⟨z,hz,z1,z2⟩:=blk y hy
          have ej:z.2.1=j:=by rw[z2,←cr y hy,e];exact hJ'.2
          have hbz:=hb z hz
          rw[ej] at hbz
          refine⟨?_,?_⟩
          · simp only[St.after,hJ,if_true]
            rw[houts,←e,←z1,hofL z hz,hbz]
            simp only[ζZ,hback2 z hz]
          · simp only[St.after,hJ,Bool.true_or]
            exact(hs.u j _ hbz).symm
    rw[hst,(hres q).1] at key
    refine key fx γ a w hs had next Q fun a' w' γ' h1 h2 h3 h4=>hn a' w' γ' ?_ h2 ?_ h4
    · rw[hdst] at h1;exact h1
    · rw[hdst] at h3;exact h3
section
variable {P:Program} {G:Nat→Option (List V)}
theorem range_lawF{g:Operand}{L:YL}{bs:Nat→Option Blk}{f:FuncId}{fi:Func}{c:Code}{first caps:List V}{R:Exit→(Nat→Option Blk)→Prop}{Q:Exit→St→Prop}
  (hg:(M7 L.n L.t bs).ev G g=some (.fn f first caps)) (ht:∀i,okV R4 (L.t i)=true) (hf:P.funcs[f]?=some fi) (hb:fi.body=some c) (hname:(fi.name== "runtime.NumGoroutine")=false) (hres:fi.results=#[])
  (hi:IterT P G c (max fi.ntmps (first.length+1+caps.length)) (fun l=>first++.yld l :: caps) bs L R)
  (hR:∀e b',R e b'→(e=.normal∨e=.ret∨∃id,e=.exit id)∧Q e (M7 L.n L.t b')):TV P G (.rangeFunc g L.ps L.assign L.body) (M7 L.n L.t bs) Q:=fun fx γ a w hs hx=>by
 refine wpIn_rangeFunc fun fn _=>?_
 obtain⟨fs,cv,hv,l1,l2,p1,p2⟩:=(hs.ev hg).fn_inv
 obtain⟨l,D,Ds,w1,hrun,hnd,hL,gw,hown,hlo,hdf⟩:=enter_law (P:=P) (L:=L) fn hs hx
 have env:Env G L γ w bs l D Ds w1.heap.size a.tmps (D3 fn a.tmps L.ps L.assign L.body D .normal) γ bs uTop w1:=
  ⟨hs,gw.1,Pin.refl hs.u,hL,hown,⟨hlo.1,hlo.2,gw.1.size,ζK _⟩,hdf⟩
 have hbody':¬fi.body=none:=by rw[hb];simp
 have hname':¬fi.name= "runtime.NumGoroutine":=by simpa using hname
 refine⟨l,Ds.map markD,w1,{ target:=.fn (.func f) cv.toArray,args:=fs.toArray++#[Value.func (Fn.yield l) #[] #[]] },w1,f,fs.toArray++#[Value.func (Fn.yield l) #[] #[]]++cv.toArray,w1,hrun,?_,fun _ _=>trivial,?_,fun h=>by simp[RF,Fence.wide] at h,?_⟩
 ·have e:(resolve a.eval (rangeCall g l) 0)=Deferred.ofValue (a.eval g) #[.func (.yield l) #[] #[]]:=by
   simp[resolve,Act.eval]
  rw[e,hv]
  simp[Deferred.ofValue]
 ·simp[invoke,callFunc,hf,hname',hbody']
 ·refine calls_in ((callsIn_wide (n:=0)).1 (callsIn_of_wp_marks hf hb trivial ?_))
  have key:=hi fn γ w bs l D Ds w1.heap.size a.tmps γ
   { tmps:=(fs.toArray++#[Value.func (Fn.yield l) #[] #[]]++cv.toArray)++Array.replicate (fi.ntmps - (fs.toArray++#[Value.func (Fn.yield l) #[] #[]]++cv.toArray).size) undef,defers:=[] } w1 env ?_ rfl
  ·refine wpIn_mono key fun e a' w' h=>?_
   obtain⟨h1,e2,b',γ',ni,ti,tm,h3,h4,h5,Es,k1,k2,k3⟩:=h
   have fin:LeavesInM (RF none) 0 P fi a'.tmps (rangePost (RF fx.ro) 0 P l (O3 G fx γ (M7 L.n L.t bs) w Q) { a with defers:=Ds.map markD++a.defers }) a'.defers .returning w':=by
    rw[k1]
    refine C2 (fun w''=>Env G L γ w bs l D Ds w1.heap.size a.tmps (D3 fn a.tmps L.ps L.assign L.body D e2) γ' b' uTop w''∧Sim G γ' (M7 ni ti b') tm w'') (fun w'' hI=>?_) Es w' ⟨h4,h5⟩ k2 (fun E hE=>(k3 E hE).2.1) fun E w'' hE hI hd=>
     ⟨hI.1.put hd rfl (Nat.le_trans gw.1.size (k3 E hE).1) (fun e=>by rw[e,hI.1.loop] at hd;cases hd) (fun E' hE' e=>by
      have h6:=(hI.1.dfr E' hE').2.2.2.1
      have h7:=(k3 E hE).1
      omega),(Y4.put hd rfl).sim hI.2⟩
    obtain⟨h4,h5⟩:=hI
    refine⟨.tuple #[],by rw[results_eq,hres,ζT];simp[ζU],?_⟩
    refine⟨_,_,run_endLoop h4.loop (by unfold D3;simp only;split<;>simp),?_⟩
    have h6:=h4.record { D3 fn a.tmps L.ps L.assign L.body D e2 with state:=.exhausted }
    have sT:Sim G γ' (M7 L.n L.t b') a.tmps (w''.putObj l (.loop { D3 fn a.tmps L.ps L.assign L.body D e2 with state:=.exhausted })):=
     h6.sim0.resume ht h6.grow h6.pin ((Y4.put h4.loop rfl).sim h5)
    have lift:∀e3 a3,a3.tmps=a.tmps→a3.defers=Ds.map markD++a.defers→Q e3 (M7 L.n L.t b')→O3 G fx γ (M7 L.n L.t bs) w Q e3 a3 (w''.putObj l (.loop { D3 fn a.tmps L.ps L.assign L.body D e2 with state:=.exhausted })):=fun e3 a3 e1 e2 hq=>
     ⟨M7 L.n L.t b',γ',by rw[e1];exact sT,⟨h6.grow,h6.pin⟩,⟨Ds,fun h=>by rw[hx.2.1] at h;simp at h,by rw[e2,hx.1],hnd,fun E hE=>by
      obtain⟨d1,d2,d3,_⟩:=h6.dfr E hE
      exact⟨d3,d1,d2⟩⟩,hq⟩
    obtain⟨q1,q2⟩:=hR e2 b' h3
    rcases q1 with rfl|rfl|⟨id,rfl⟩
    ·exact lift .normal _ rfl rfl q2
    ·exact wpIn_ret (lift .ret _ rfl rfl q2)
    ·exact wpIn_exit (lift (.exit id) _ rfl rfl q2)
   rcases h1 with rfl|rfl
   ·exact fin
   ·exact fin
  ·refine gw.2.sim ⟨by show _=max fi.ntmps (first.length+1+caps.length);simp;omega,fun i=>?_,hs.b,hs.u,hs.g,hs.o⟩
   have hvals:∀j x,(first++.yld l :: caps)[j]?=some x→∃y,(fs++Value.func (Fn.yield l) #[] #[] :: cv)[j]?=some y∧Rep γ w bs uTop x y:=fun j x hx=>by
    rcases ζN j first.length with hj|hj
    ·rw[ζl hj] at hx
     have hj':j < fs.length:=by omega
     refine⟨fs[j],by rw[ζl hj'];exact ζd hj',p1 j x _ hx (ζd hj')⟩
    ·rw[ζm hj] at hx
     rw[ζm (by omega)]
     rw[l1]
     cases hk:j - first.length with
     | zero=>
      rw[hk] at hx
      simp only[ξo,ζa] at hx
      subst hx
      exact⟨_,rfl,.data (.yld _)⟩
     | succ k=>
      rw[hk] at hx
      simp only[List.getElem?_cons_succ] at hx ⊢
      have hk2:=(ζe.1 hx).1
      exact⟨cv[k]'(by omega),ζd (by omega),p2 k x _ hx (ζd (by omega))⟩
   have e:((fs.toArray++#[Value.func (Fn.yield l) #[] #[]]++cv.toArray)++Array.replicate (fi.ntmps - (fs.toArray++#[Value.func (Fn.yield l) #[] #[]]++cv.toArray).size) undef).getD i undef=((fs++Value.func (Fn.yield l) #[] #[] :: cv)++List.replicate (fi.ntmps - (fs.length+1+cv.length)) undef).getD i undef:=by
    rw[ζW,ζV]
    congr 1
    rw[←Array.getElem?_toList]
    have hn:fi.ntmps - (fs.toArray++#[Value.func (Fn.yield l) #[] #[]]++cv.toArray).size=fi.ntmps - (fs.length+1+cv.length):=by
     simp only[Array.size_append,List.size_toArray,ξj,List.length_nil]
    rw[hn]
    simp only[Array.toList_append,Array.toList_replicate,ξe,List.singleton_append]
   show Rep _ _ _ _ _ (Array.getD _ i undef)
   rw[e]
   show Rep _ _ _ _ ((first++.yld l :: caps).getD i .undef) _
   cases hx:(first++.yld l :: caps)[i]? with
   | none=>rw[ζV,hx];exact .undef _
   | some x=>
    obtain⟨y,hy,hr⟩:=hvals i x hx
    have hi':=(ζe.1 hy).1
    rw[ζV,ζV,hx,ζl hi',hy]
    exact hr
theorem H1.yieldG{L:YL}{l:Nat}{s:YS}{Q:Exit→YS→Prop}{ops:Array Oper}{i:Nat}{is:List Nat}{o:Oper}{x:Operand}{xs:Array Operand}{ts:Array TypeId}{cs:List V}{R:Exit→(Nat→Option Blk)→Prop}(hi:ops[i]?=some o)(hgd:X0 ops s.st o=some true)
  (ho:o.op=.call { callee:=.value x,args:=xs,argTypes:=ts }) (hx:s.st.ev G x=some (.yld l)) (hcs:evs (s.st.ev G) xs.toList=some cs) (hdst:H2 s.st.n o.dst=true)
  (hsu:s.st.u=uTop) (hsx:s.x=.normal) (hti:∀i,okV R4 (s.st.t i)=true) (ht:∀i,okV R4 (L.t i)=true) (hpn:∀p,p∈L.ps.toList→p < L.n) (hps:cs.length=L.ps.size) (hr:RoundT P G L.n L.t L.ps.toList L.assign L.body s.st.b cs R)
  (hR:∀e b',R e b'→e=.normal∨e=.ret∨∃id,e=.exit id)
  (hn:∀e b',R e b'→H1 P G L l ops is ⟨e,(M7 s.st.n s.st.t b').put o.dst (.bool (N7 e).isNone)⟩ Q):H1 P G L l ops (i :: is) s Q:=fun fn γ0 w0 b0 D Ds sz te γ a w he hs hd=>by
 obtain⟨sx,⟨ni,ti,b,u⟩⟩:=s
 simp only at hsu hsx
 subst hsu;subst hsx
 simp only[wpOpsIn,hi]
 have hw:Region.wanted o (yielded ops a.tmps)=true:=K9 hs hgd
 rw[if_pos hw]
 have pu:∀(e:Exit) (b':Nat→Option Blk),((M7 ni ti b').put o.dst (.bool (N7 e).isNone)).b=b'∧((M7 ni ti b').put o.dst (.bool (N7 e).isNone)).u=uTop:=fun e b'=>by
  cases o.dst<;>exact⟨rfl,rfl⟩
 exact yield_op ho hx hcs hs hti ht hpn he hps hr hR hd fun e b' γ' w' h1 h2 h3 h4 _=>hn e b' h1 fn γ0 w0 b0 D Ds sz te γ' _ w' (by rw[(pu e b').1,(pu e b').2];exact h2) (h3.put hdst (.data (.bool _))) (by rw[U1];exact h4)
end
theorem TV.rangeF{P:Program}{G:Nat→Option (List V)}{g:Operand}{ps:Array Tmp}{assign body:Code}{st:St}{f:FuncId}{fi:Func}{c:Code}{first caps:List V}{R:Exit→(Nat→Option Blk)→Prop}{Q:Exit→St→Prop}
  (hg:st.shift.ev G g=some (.fn f first caps)) (hf:P.funcs[f]?=some fi) (hb:fi.body=some c) (hname:(fi.name== "runtime.NumGoroutine")=false) (hres:fi.results=#[]) (hu:∀b k,st.b b=some k→st.u b=true) (hpn:∀i,okV R4 (W5 sh (st.t i))=true)
  (hi:IterT P G c (max fi.ntmps (first.length+1+caps.length)) (fun l=>first++.yld l :: caps) (shB st.b) ⟨st.n,fun i=>W5 sh (st.t i),ps,assign,body⟩ R)
  (hR:∀e b',R e b'→(e=.normal∨e=.ret∨∃id,e=.exit id)∧∃b0,b'=shB b0∧(⟨st.n,st.t,b0,st.u⟩:St).known∧Q e ⟨st.n,st.t,b0,st.u⟩):TV P G (.rangeFunc g ps assign body) st Q:=fun fx γ a w hs hx=>by
 have hx':FxOk fx γ.shift a.defers w:=⟨hx.1,hx.2.1,fun l hl=>⟨(hx.2.2 l hl).1,by simp only[Gh.shift,(hx.2.2 l hl).2];rfl⟩⟩
 have key:CW fx.ro P (.rangeFunc g ps assign body) (O3 G fx γ.shift st.shift w (fun e s=>∃s':St,s=s'.shift∧s'.u=st.u∧s'.known∧Q e s')) a w  :=range_lawF (first:=first) (L:=⟨st.n,fun i=>W5 sh (st.t i),ps,assign,body⟩) (bs:=shB st.b) (Q:=fun e s=>∃s':St,s=s'.shift∧s'.u=st.u∧s'.known∧Q e s') hg hpn hf hb hname hres hi (fun e b' h=>by
   obtain⟨h1,b0,rfl,h2,h3⟩:=hR e b' h
   exact⟨h1,⟨st.n,st.t,b0,st.u⟩,rfl,rfl,h2,h3⟩) fx γ.shift a w hs.shift hx'
 exact wpIn_mono key fun e a' w' hl=>O3.unshift hl hu
theorem Gst.snapT{G:Nat→Option (List V)}{st:St}{t b:Nat}{k:Blk}{row:List V}(ht:st.t t=.ptr b 0 0)(hb:st.b b=some k)(hr:k.rows=[row])(hM:k.size < W9)(hd:∀c,c∈row→U5 c=true):Gst G st ((st.delB b).setT t (.snap row)):=fun γ tmps w hs=>by
 obtain⟨γ',h1,h2,h3,_,h4⟩:=hs.shareL hb (fun r hr' c hc=>by rw[hr] at hr';simp only[ζu] at hr';subst hr';exact hd c hc)
 refine⟨γ',?_,h2,h3⟩
 have hp:=hs.t t
 rw[ht] at hp
 obtain⟨B,o,hv,hl⟩:=hp.ptr_inv hb
 have hat:BlkAt γ w st.b st.u b k:=by
  rcases hs.b b k hb with⟨h0,_⟩|hm|ha
  ·rw[hl] at h0;simp at h0
  ·exact(hm.small hM).elim
  ·exact ha
 obtain⟨_,B',o',cs,e,g1,g2,g3,g4,g5,g6,_,_⟩:=hat
 rw[hl] at g1;simp only[ζa,ζP] at g1
 obtain⟨rfl,rfl⟩:=g1
 rw[hr] at g5
 simp only[List.length_singleton,Nat.one_mul] at g5
 have hsl:=h4 (.ref b 0 1) (.slice (some ⟨B,o,none⟩) 1 1) (by
  have:=Rep.ref (γ:=γ) (w:=w) (bs:=st.b) (u:=st.u) b 0 1 B o 1 k hb hl (by rw[hr];simp) (ζK _) (g3.room (by omega)) hM (by rw[hr];simp)
  simpa using this)
 simp only[shV,if_true,hr,List.drop_zero,List.take_succ_cons,List.take_zero] at hsl
 have hsn:Rep γ' w (st.delB b).b (st.delB b).u (.snap row) (tmps.getD t undef):=by
  rcases hsl.sl_inv with⟨a,_,h0⟩|⟨B2,o2,cap,vs,e2,_,_,k3,k4⟩
  ·simp at h0
  ·simp only[Value.slice.injEq,ζa,Addr.mk.injEq,and_true] at e2
   obtain⟨⟨rfl,rfl⟩,_⟩:=e2
   rw[hv]
   have:([row].flatten)=row:=by simp
   rw[this] at k3 k4
   have:=W2.snap (lim:=γ'.lim) (w:=w) row B o vs k3 k4
   exact .data (by simpa using this)
 exact⟨h1.n,fun i=>by
  simp only[St.setT]
  by_cases hi:i=t
  ·subst hi;rw[if_pos rfl];exact hsn
  ·rw[if_neg hi];exact h1.t i,h1.b,h1.u,h1.g,h1.o⟩
theorem ofL_mem{l:List (Nat×Blk)}(h:(l.map (·.1)).Nodup){p:Nat×Blk}(hp:p∈l):ofL l p.1=some p.2:=by
 induction l with
 | nil=>simp at hp
 | cons q l ih=>
  rw[ofL_cons]
  simp only[ξf,List.nodup_cons] at h
  rcases ζv.1 hp with rfl|hp
  ·rw[if_pos rfl]
  ·have:q.1≠p.1:=fun e=>h.1 (by rw[e];exact ζt.2 ⟨p,hp,rfl⟩)
   rw[if_neg this];exact ih h.2 hp
theorem Gst.mob{G:Nat→Option (List V)}{lits rest:List (Nat×Blk)}{kd:Blk}{d m n:Nat}(hdm:d≠m)(hpm:R4 m=false)(hm:uTop m=true)(hnd:((lits++(d,kd) :: rest).map (·.1)).Nodup)(hkd:U8 kd.rows)(hrd:∀p,p∈rest→U8 p.2.rows)
  (hl:(lits.all fun p=>p.1 != m&&uTop p.1&&(p.2.rows.all fun r=>r.all (okV fun i=>(((lits++(d,kd) :: rest).map (·.1)).contains i || uTop i)&&i != m))&&((p.2.ren (W3 d m)).rows.all fun r=>r.all (okV uTop)))=true)
  (hr:(rest.all fun p=>p.1 != m&&uTop p.1)=true) :
  Gst G (G0 n [] (lits++(d,kd) :: rest) ((lits++(d,kd) :: rest).map (·.1))) (M7 n (fun _=>.undef) (ofL ((lits.map fun p=>(p.1,p.2.ren (W3 d m)))++(m,kd) :: rest))):=by
 let bs:=lits++(d,kd) :: rest
 let u1:Nat→Bool:=fun i=>(((lits++(d,kd) :: rest).map (·.1)).contains i || uTop i)&&i != m
 let st1:St:=⟨n,fun _=>.undef,ofL bs,u1⟩
 have hbo:∀b k,st1.b b=some k→(b,k)∈bs:=fun b k h=>O8 (show ofL bs b=some k from h)
 have hne:∀p,p∈bs→p.1≠m:=fun p hp=>by
  rcases ζr.1 hp with h|h
  ·have:=ζE.1 hl p h
   simp only[ζA,bne_iff_ne] at this;exact this.1.1.1
  ·rcases ζv.1 h with rfl|h
   ·exact hdm
   ·have:=ζE.1 hr p h
    simp only[ζA,bne_iff_ne] at this;exact this.1
 have f1:G3 (G0 n [] bs (bs.map (·.1))) st1:=⟨rfl,fun i=>.inl rfl,fun b=>.inr ⟨rfl,fun k hk=>by
  have hmem:=hbo b k hk
  refine⟨?_,fun r hr' c hc=>?_⟩
  ·show (((bs.map (·.1)).contains b || uTop b)&&b != m)=true
   simp only[ζA,ζX,ζD,ζF,bne_iff_ne]
   exact⟨.inl (ζt.2 ⟨_,hmem,rfl⟩),hne _ hmem⟩
  ·rcases ζr.1 hmem with h|h
   ·have:=ζE.1 hl _ h
    simp only[ζA] at this
    exact ζE.1 (ζE.1 this.1.2 r hr') c hc
   ·rcases ζv.1 h with h|h
    ·cases h;exact G7 (hkd r hr' c hc) _
    ·exact G7 (hrd _ h r hr' c hc) _⟩,fun b hb=>by
  show (((bs.map (·.1)).contains b || uTop b)&&b != m)=true
  have hbm:b≠m:=fun e=>by rw[e,hpm] at hb;simp at hb
  simp[uPin_top hb,hbm]⟩
 have hu1:st1.u m=false:=by show (_&&m != m)=false;simp
 refine Gst.trans (Gst.forget f1) (Gst.trans (Gst.renm hdm hu1) (Gst.forget ⟨rfl,fun i=>.inl rfl,fun b=>?_,fun b hb=>uPin_top hb⟩))
 show ofL _ b=none∨_
 cases hf:ofL ((lits.map fun p=>(p.1,p.2.ren (W3 d m)))++(m,kd) :: rest) b with
 | none=>exact .inl rfl
 | some k=>
  have hmem:=O8 hf
  have look:∀p,p∈bs→st1.b p.1=some p.2:=fun p hp=>ofL_mem hnd hp
  rcases ζr.1 hmem with h|h
  ·obtain⟨p,hp,e⟩:=ζt.1 h
   simp only[ζP] at e
   obtain⟨rfl,rfl⟩:=e
   have hpm':=hne p (ξd _ hp)
   have hpd:p.1≠d:=fun e=>by
    have:=hnd
    simp only[ζp,ξf] at this
    exact(List.nodup_append.1 this).2.2 p.1 (ζt.2 ⟨p,hp,rfl⟩) d (by simp) e
   have hall:=ζE.1 hl p hp
   simp only[ζA] at hall
   refine .inr ⟨?_,fun k hk=>?_⟩
   ·show ofL _ p.1=(if p.1=m then (st1.b d).map (Blk.ren (W3 d m)) else if p.1=d then none else (st1.b p.1).map (Blk.ren (W3 d m)))
    rw[hf,if_neg hpm',if_neg hpd,look p (ξd _ hp)];rfl
   ·have hk':(if p.1=m then (st1.b d).map (Blk.ren (W3 d m)) else if p.1=d then none else (st1.b p.1).map (Blk.ren (W3 d m)))=some k:=hk
    rw[if_neg hpm',if_neg hpd,look p (ξd _ hp)] at hk'
    simp only[ζZ,ζa] at hk'
    subst hk'
    exact⟨hall.1.1.2,fun r hr' c hc=>ζE.1 (ζE.1 hall.2 r hr') c hc⟩
  ·rcases ζv.1 h with h|h
   ·cases h
    refine .inr ⟨?_,fun k' hk=>?_⟩
    ·show ofL _ m=(if m=m then (st1.b d).map (Blk.ren (W3 d m)) else if m=d then none else (st1.b m).map (Blk.ren (W3 d m)))
     rw[hf,if_pos rfl,look (d,kd) (by simp[bs])]
     simp only[ζZ,hkd.ren]
    ·have hk':(if m=m then (st1.b d).map (Blk.ren (W3 d m)) else if m=d then none else (st1.b m).map (Blk.ren (W3 d m)))=some k':=hk
     rw[if_pos rfl,look (d,kd) (by simp[bs])] at hk'
     simp only[ζZ,hkd.ren,ζa] at hk'
     subst hk'
     exact⟨hm,fun r hr' c hc=>G7 (hkd r hr' c hc) _⟩
   ·have hin:(b,k)∈bs:=List.mem_append_right _ (List.mem_cons_of_mem _ h)
    have hpm':b≠m:=hne _ hin
    have hpd:b≠d:=fun e=>by
     have:=hnd
     simp only[ζp,ξf] at this
     have h2:=(List.nodup_cons.1 (List.nodup_append.1 this).2.1).1
     exact h2 (ζt.2 ⟨(b,k),h,e⟩)
    have hall:=ζE.1 hr _ h
    simp only[ζA] at hall
    have hk3:(k:Blk).ren (W3 d m)=k:=(hrd _ h).ren _
    refine .inr ⟨?_,fun k' hk=>?_⟩
    ·show ofL _ b=(if b=m then (st1.b d).map (Blk.ren (W3 d m)) else if b=d then none else (st1.b b).map (Blk.ren (W3 d m)))
     rw[hf,if_neg hpm',if_neg hpd,look (b,k) hin]
     simp only[ζZ,hk3]
    ·have hk':(if b=m then (st1.b d).map (Blk.ren (W3 d m)) else if b=d then none else (st1.b b).map (Blk.ren (W3 d m)))=some k':=hk
     rw[if_neg hpm',if_neg hpd,look (b,k) hin] at hk'
     simp only[ζZ,hk3,ζa] at hk'
     subst hk'
     exact⟨hall.2,fun r hr' c hc=>G7 (hrd _ h r hr' c hc) _⟩
def cL:Code→Code
 | .seq x _=>x
 | _=>.skip
def cR:Code→Code
 | .seq _ y=>y
 | _=>.skip
def cB:Code→Code
 | .block _ y=>y
 | .loop y=>y
 | .scope y=>y
 | _=>.skip
def rAssign:Code→Code
 | .rangeFunc _ _ a _=>a
 | _=>.skip
def rBody:Code→Code
 | .rangeFunc _ _ _ b=>b
 | _=>.skip
def rOps:Code→Array Oper
 | .region _ o _=>o
 | _=>#[]
theorem T6{σ ε:Type}(f:σ→Option (σ⊕ε))(m:Nat)(x:σ):I8 f (m+1) x=(match f x with|none=>none|some (.inl z)=>I8 f m z|some (.inr e)=>some e):=by
 cases h:f x with
 | none=>simp only[I8,h]
 | some y=>cases y<;>simp only[I8,h]
theorem Gst.same{G:Nat→Option (List V)}(st:St):Gst G st st:=fun γ _ w hs=>⟨γ,hs,.refl γ w,.refl hs.u⟩
theorem find_b{l:List (Nat×Blk)}{b:Nat}{k:Blk}(h:ofL l b=some k):∃q,q∈l∧q.1=b∧q.2=k:=by
 unfold ofL at h
 split at h
 ·rename_i q hq
  exact⟨q,ξh hq,by simpa using List.find?_some hq,ζR h⟩
 ·simp at h
section
variable {P:Program} {G:Nat→Option (List V)}
def Rule.appTo{α:Type}{ty:Ty α}{t t2 e e2:TypeId}{z bytes:Nat}(ox oy:Operand)(d bx i:Nat)(lx:List α)(b off m:Nat)(ex:Bool)(l:List α)(ht:P.underlying t=some (.slice e))(ht2:P.underlying t2=some (.slice e2))
    (hi:(P.info? e).map (fun i=>(i.size,i.bytes))=some (z,bytes)) (hby:0 < bytes) (hz:(zeroV P e).map List.length=some z) (hs:∀y,ty.c y=ty.d y):Rule P G Unit where
  op:=.call { callee:=.builtin .append,args:=#[ox,oy],argTypes:=#[t,t2] }
  dst:=some d
  vals:=[(ox,.ref bx 0 i),(oy,.ref b off m)]
  blks:=[(bx,⟨z,true,lx.map ty.c⟩),(b,⟨z,ex,l.map ty.c⟩)]
  o:=bif decide (i≤lx.length∧off+m≤l.length∧(i+m) * bytes≤140737488355328) then some () else none
  ws:=fun _=>[.b bx none,.b d (some ⟨z,true,(lx.take i++(l.drop off).take m).map ty.c⟩),.t d (.ref d 0 (lx.take i++(l.drop off).take m).length)]
  dt:=[d]
  dat:=fun _ q k hm _=>by
    simp only[ζv,ζw,or_false,Wr.b.injEq,ζa,reduceCtorEq,and_false,false_or] at hm
    obtain⟨_,rfl⟩:=hm
    exact ty.data _
  ok:=fun _ ho x st hop hdst hvs hb hd=>by
    have hc:i≤lx.length∧off+m≤l.length∧(i+m) * bytes≤140737488355328:=by
      cases hcc:decide (i≤lx.length∧off+m≤l.length∧(i+m) * bytes≤140737488355328) with
      | false=>rw[hcc] at ho;simp at ho
      | true=>simpa using hcc
    obtain⟨h1,h2,h3⟩:=hc
    have hbx:st.b bx=some ⟨z,true,lx.map ty.c⟩:=hb (bx,⟨z,true,lx.map ty.c⟩) (by simp)
    have hbb:st.b b=some ⟨z,ex,l.map ty.c⟩:=hb (b,⟨z,ex,l.map ty.c⟩) (by simp)
    obtain⟨hdn,hu⟩:=hd d rfl
    obtain⟨ei,hi2,hz2⟩:=ζb.1 hi
    simp only[ζP] at hz2
    obtain⟨rfl,rfl⟩:=hz2
    have el:(((l.drop off).take m).map ty.c).map (·.map V.strip)=((l.drop off).take m).map ty.c:=by
      rw[ζq]
      exact ξi fun y _=>by
        show (ty.c y).map V.strip=ty.c y
        rw[hs y];exact ty.st y
    have e1:((lx.map ty.c).drop 0).take i=(lx.take i).map ty.c:=by rw[List.drop_zero,List.map_take]
    have e2:((l.map ty.c).drop off).take m=((l.drop off).take m).map ty.c:=by rw[List.map_take,List.map_drop]
    have hl1:(lx.take i).length=i:=by simp;omega
    have hl2:((l.drop off).take m).length=m:=by simp;omega
    have hds:dstV st.b ei.size (.ref bx 0 i)=some ⟨some bx,0,ei.size,true,(lx.take i).map ty.c⟩:=by
      unfold dstV
      simp only[hbx,ζs,ξv,true_or,and_true,h1,if_true,e1]
    have hss:srcV st.b ei.size (some b) (.ref b off m)=some ⟨none,0,ei.size,true,((l.drop off).take m).map ty.c⟩:=by
      unfold srcV
      simp only[hbb,ζs,true_and,h2,if_true,e2,el]
    have ha:appendW P st.b t t2 (fun _=>some b) (.ref bx 0 i) (.ref b off m)=some (⟨some bx,0,ei.size,true,(lx.take i).map ty.c⟩,⟨none,0,ei.size,true,((l.drop off).take m).map ty.c⟩,⟨ei.size,true,(lx.take i).map ty.c++((l.drop off).take m).map ty.c⟩):=by
      unfold appendW
      simp only[ht,ht2,hi2,hds,hss,ζs,hl1,hl2,h3,hby,hz,and_self,if_true]
    have:=effO_appendW (P:=P) (G:=G) (o:=x) (st:=st) (x:=ox) (y:=oy) (t:=t) (t2:=t2) (d:=d) hop hdst hdn hu (hvs (ox,.ref bx 0 i) (by simp)) (hvs (oy,.ref b off m) (by simp)) ha (fun _ _ h=>by simp at h)
    simp only[ζs,←ζp] at this
    rw[←ζn] at this
    exact this
def Rule.mapLen{α:Type}{ty:Ty α}{t kt et:TypeId}(om:Operand)(d b z:Nat)(excl:Bool)(l:List α)(ht:P.underlying t=some (.map kt et)):Rule P G Unit where
  op:=.call { callee:=.builtin .len,args:=#[om],argTypes:=#[t] }
  dst:=some d
  vals:=[(om,.mp b)]
  blks:=[(b,⟨z,excl,l.map ty.c⟩)]
  o:=some ()
  ws:=fun _=>[.t d (.int .i64 (l.length:Int))]
  dt:=[]
  dat:=fun _ _ _ _ h=>by simp at h
  ok:=fun _ _ x st hop hdst hv hb hd=>by
    obtain⟨h1,_⟩:=hd d rfl
    have:=X9 (P:=P) (G:=G) (o:=x) (st:=st) (c:=.int .i64 (l.length:Int)) (by rw[hdst];simpa[H2] using h1) fun γ a w hs=>by
      have hbb:=hb (b,⟨z,excl,l.map ty.c⟩) (by simp)
      obtain⟨B,hB,hl,hM⟩:=(hv (om,.mp b) (by simp) γ a w hs).mp_inv hbb
      have pre : execOp a.eval x = (do let v ← Builtin.len_ #[t] x.type #[a.eval om]; pure (.value v)) := by
        have h1:execOp a.eval x=builtin .len #[t] x.type (#[om].map fun|.const _=>true|_=>false) (#[om].map a.eval):=by
          show (execOp a.eval x)=_;unfold execOp;rw[hop];rfl
        rw[h1];simp[builtin]
      rcases hs.b b _ hbb with⟨h0,_⟩|⟨_,B',es,clock,g1,g2,g3,g4,_⟩|ha
      · rw[hl] at h0;simp at h0
      · rw[hl] at g1;simp only[ζa,ζP,and_true] at g1
        subst g1
        have hsz:es.size=l.length:=by simpa using g4
        refine⟨goInt (es.size:Int),?_,by rw[hsz];exact .data (.int _ _)⟩
        rw[pre,hB]
        simp[Builtin.len_,ζO ht,MapKept.run_getObj_map g3]
      · exact absurd ha.1 (Nat.not_lt_of_le hM)
    rw[hdst] at this
    exact this
end
end Go.EV
