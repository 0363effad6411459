/- Local arrays told cell by cell (a row a cell), so that they may be indexed by what is not known; interface values: made, asserted. Rules of operation ..; no conditions. -/
import Derived.Test.YtjpahkpfkohfkaaGreatDoorF5
import Derived.Test.YtjpahkpfkohfkaaGreatDoorF6
import Derived.Laws.Build
import Derived.Below
import Derived.Laws.IdiomStrings
import Derived.Laws.AppendOwn
import Derived.RecoverIn
import Derived.Maps.RangeRun
import Derived.OrdersIn
import Derived.KernelRfl
set_option linter.unusedVariables false
set_option linter.unusedSimpArgs false
namespace Go.EV
open Go
theorem singles_flatten:∀l:List V,(l.map fun c=>[c]).flatten=l
 | []=>rfl
 | c :: l=>by simp[singles_flatten l]
theorem singles_of{α:Type}{ty:Ty α}(h1:∀x,(ty.c x).length=1):∀l:List α,((l.map ty.c).flatten.map fun c=>[c])=l.map ty.c
 | []=>rfl
 | x :: l=>by
  obtain⟨c,hc⟩:=List.length_eq_one_iff.1 (h1 x)
  simp only[ξf,List.flatten_cons,ζp,hc,List.map_nil]
  rw[singles_of h1 l];rfl
theorem single_len{α:Type}{ty:Ty α}(h1:∀x,(ty.c x).length=1)(l:List α):(l.map ty.c).flatten.length=l.length:=by
 induction l with
 | nil=>rfl
 | cons x l ih=>simp only[ξf,List.flatten_cons,ζn,ξj,h1 x,ih];omega
theorem Sim.newCells{G:Nat→Option (List V)}{γ:Gh}{st:St}{a:Act}{w:World}(h:Sim G γ st a.tmps w){d:Nat}{cells:List V}{vs:Array Value}{e:TypeId}(hu:st.u d=false)(hd:d < st.n)
  (hr:J8 γ w st.b st.u cells vs) (hc:∀c,c∈cells→c.isCell=true∧c.isOwn=false) :
  ∃γ',Grow γ w γ' { w with heap:=w.heap.push (.cells vs e) }∧Pin γ st.b st.u γ' (st.setB d ⟨1,true,cells.map fun c=>[c]⟩).b (st.setB d ⟨1,true,cells.map fun c=>[c]⟩).u∧
   Sim G γ' ((st.setB d ⟨1,true,cells.map fun c=>[c]⟩).setT d (.ptr d 0 0)) (a.put (some d) (.pointer (some ⟨w.heap.size,0,none⟩))).tmps { w with heap:=w.heap.push (.cells vs e) }:=by
 have hM:(1:Nat) < W9:=by decide
 have key:=h.newBlk (d:=d) (size:=1) (rows:=cells.map fun c=>[c]) (cs:=vs) (e:=e) (w1:={ w with heap:=w.heap.push (.cells vs e) }) hM hu rfl ⟨rfl,rfl,rfl⟩ (fun r hr=>by
  obtain⟨c,_,rfl⟩:=ζt.1 hr;rfl) (by simp[hr.1]) (fun i c hi=>by
  rw[singles_flatten] at hi
  have hlt:i < vs.size:=by rw[hr.1];exact(ζe.1 hi).1
  have hv:vs[i]?=some vs[i]:=ζg hlt
  obtain⟨c1,c2⟩:=hc c (ζi hi)
  exact⟨vs[i],hv,hr.2 i c _ hi hv,(hr.2 i c _ hi hv).isCell_one c1,c2⟩)
 refine⟨_,key.2.1,key.2.2.pin,?_⟩
 have hp:=key.1.put (a:=a) (dst:=some d) (c:=.ptr d 0 0) (v:=.pointer (some ⟨w.heap.size,0,none⟩)) (by simpa[H2,St.setB] using hd) (by
  have:=Rep.ptr (γ:=γ.add d w.heap.size) (w:={ w with heap:=w.heap.push (.cells vs e) }) (u:=(st.setB d ⟨1,true,cells.map fun c=>[c]⟩).u) (bs:=(st.setB d ⟨1,true,cells.map fun c=>[c]⟩).b) d 0 0 w.heap.size 0 ⟨1,true,cells.map fun c=>[c]⟩ (by simp[St.setB]) (by simp[Gh.add]) hM
  simpa using this)
 exact hp
section
variable {P:Program} {G:Nat→Option (List V)} {α:Type} {ty:Ty α}
def Rule.allocS(e:TypeId)(d:Nat)(l:List α)(h1:∀x,(ty.c x).length=1)(hz:zeroV P e=some (l.map ty.c).flatten):Rule P G Unit where
 op:=.alloc e
 dst:=some d
 vals:=[]
 blks:=[]
 o:=some ()
 ws:=fun _=>[.b d (some ⟨1,true,l.map ty.c⟩),.t d (.ptr d 0 0)]
 dt:=[d]
 dat:=fun _ i k h _=>by
  simp only[ζv,Wr.b.injEq,ζa,reduceCtorEq,ζw,or_false] at h
  rw[h.2];exact ty.data _
 ok:=fun _ _ x st hop hdst _ _ hd=>H6 fun γ a w hs=>by
  obtain⟨hn,hu⟩:=hd d rfl
  obtain⟨z,hz1,hz2⟩:=T3 (P:=P) (γ:=γ) (w:=w) (bs:=st.b) (u:=st.u) hz
  obtain⟨γ',g,pn,hs'⟩:=hs.newCells (e:=e) hu hn hz2 (zeroV_isCell hz)
  rw[singles_of h1] at pn hs'
  refine⟨_,_,γ',?_,g,pn,by rw[hdst];exact hs'⟩
  simp[execOp,hop,Instr.alloc,hz1,newVar,newRow]
def Rule.boxS(e:TypeId)(ox:Operand)(d:Nat)(l:List α)(h1:∀x,(ty.c x).length=1)(hb:boxV (.agg (l.map ty.c).flatten)=some (l.map ty.c).flatten):Rule P G Unit where
 op:=.box e ox
 dst:=some d
 vals:=[(ox,.agg (l.map ty.c).flatten)]
 blks:=[]
 o:=some ()
 ws:=fun _=>[.b d (some ⟨1,true,l.map ty.c⟩),.t d (.ptr d 0 0)]
 dt:=[d]
 dat:=fun _ i k h _=>by
  simp only[ζv,Wr.b.injEq,ζa,reduceCtorEq,ζw,or_false] at h
  rw[h.2];exact ty.data _
 ok:=fun _ _ x st hop hdst hvs _ hd=>H6 fun γ a w hs=>by
  obtain⟨hn,hu⟩:=hd d rfl
  have hx:=hvs (ox,.agg (l.map ty.c).flatten) (by simp) γ a w hs
  obtain⟨k1,k2⟩:=boxV_spec hb hx
  obtain⟨γ',g,pn,hs'⟩:=hs.newCells (e:=e) hu hn k1 k2
  rw[singles_of h1] at pn hs'
  refine⟨_,_,γ',?_,g,pn,by rw[hdst];exact hs'⟩
  simp[execOp,hop,Instr.box,newVar,newRow]
def Rule.arrAt(t:TypeId)(ox oi:Operand)(d b:Nat)(k:Blk)(r:Nat)(kd:IntKind)(n:Int)(len:Nat){e:TypeId}(ht:P.underlying t=some (.array len e))(he:(P.info? e).map (·.size)=some k.size):Rule P G Unit where
  op:=.indexAddr t ox oi
  dst:=some d
  vals:=[(ox,.ptr b r 0),(oi,.int kd n)]
  blks:=[(b,k)]
  o:=bif decide (0≤n)&&decide (n < (len:Int)) then some () else none
  ws:=fun _=>[.t d (.ptr b (r+n.toNat) 0)]
  dt:=[]
  dat:=fun _ _ _ _ h=>by simp at h
  ok:=fun _ ho x st hop hdst hvs hb hd=>by
    have hn:0≤n∧n < (len:Int):=by
      cases hh:(decide (0≤n)&&decide (n < (len:Int))) with
      | true=>simpa using hh
      | false=>rw[hh] at ho;simp at ho
    obtain⟨hdn,hu⟩:=hd d rfl
    have key:N0 P G x st (st.put (some d) (.ptr b (r+n.toNat) 0)):=by
      rw[←hdst]
      refine X9 (by rw[hdst];simpa[H2] using hdn) fun γ a w hs=>?_
      have hx:=hvs (ox,.ptr b r 0) (by simp) γ a w hs
      have hi:=hvs (oi,.int kd n) (by simp) γ a w hs
      have hk:=hb (b,k) (by simp)
      obtain⟨B,o,hv,hl⟩:=hx.ptr_inv hk
      have hvi:=hi.int_inv
      obtain⟨ej,hej,hsz⟩:=ζb.1 he
      refine⟨.pointer (some ⟨B,o+(r * k.size+0)+n.toNat * ej.size,none⟩),?_,?_⟩
      · have hrun:=S7 (P:=P) (w:=w) (k:=kd) (i:=n) (B:=B) (o:=o+(r * k.size+0)) ht hej hn
        simp only[execOp,hop,hv,hvi,ζT,hrun,ζQ,ζU]
      · have:=Rep.ptr (γ:=γ) (w:=w) (u:=st.u) b (r+n.toNat) 0 B o k hk hl (hx.ptr_small hk)
        rwa [show o+((r+n.toNat) * k.size+0)=o+(r * k.size+0)+n.toNat * ej.size by rw[hsz,ξp];omega] at this
    exact key
def Rule.loadX(t:TypeId)(ox:Operand)(d b:Nat)(k:Blk)(c:V)(hM:k.size < W9)(h:O9 P t k.rows.flatten=some c):Rule P G Unit where
  op:=.load t ox
  dst:=some d
  vals:=[(ox,.ptr b 0 0)]
  blks:=[(b,k)]
  o:=some ()
  ws:=fun _=>[.t d c]
  dt:=[]
  dat:=fun _ _ _ _ h=>by simp at h
  ok:=fun _ _ x st hop hdst hvs hb hd=>by
    obtain⟨hdn,hu⟩:=hd d rfl
    have key:N0 P G x st (st.put (some d) c):=by
      rw[←hdst]
      refine X9 (by rw[hdst];simpa[H2] using hdn) fun γ a w hs=>?_
      have hx:=hvs (ox,.ptr b 0 0) (by simp) γ a w hs
      have hk:=hb (b,k) (by simp)
      obtain⟨B,o,hv,hl⟩:=hx.ptr_inv hk
      have hcs:L9 γ w st.b st.u B o k.rows.flatten:=by
        rcases hs.b b k hk with⟨v1,_⟩|hm|⟨_,B2,o2,cs2,e2,h1,h2,h3,h4,h5,h6,h7,h8⟩
        · rw[hl] at v1;simp at v1
        · exact(hm.small hM).elim
        rw[hl] at h1;simp only[ζa,ζP] at h1
        obtain⟨rfl,rfl⟩:=h1
        intro j c' hc'
        obtain⟨v,q1,q2,_⟩:=h6 j c' hc'
        exact⟨v,by rw[h3.cellAt];exact q1,q2⟩
      obtain⟨y,hy,hd'⟩:=V1 h hcs
      have e0:o+(0 * k.size+0)=o:=by omega
      rw[e0] at hv
      exact⟨y,by simp[execOp,hop,hv,Instr.loadAt,Instr.sureAddr,hy],hd'⟩
    exact key
def Rule.storeX(t:TypeId)(ox ov:Operand)(b:Nat)(k:Blk)(c:V)(l:List α)(h1:∀x,(ty.c x).length=1)(hM:k.size < W9)(hz:k.size=1)(hex:k.excl=true)(hn:k.rows.length=l.length)(hb:boxV c=some (l.map ty.c).flatten)
    (ht:(P.info? t).map (·.size)=some l.length):Rule P G Unit where
  op:=.store t ox ov
  dst:=none
  vals:=[(ox,.ptr b 0 0),(ov,c)]
  blks:=[(b,k)]
  o:=some ()
  ws:=fun _=>[.b b (some ⟨k.size,k.excl,l.map ty.c⟩)]
  dt:=[]
  dat:=fun _ i k' h _=>by
    simp only[ζv,Wr.b.injEq,ζa,ζw,or_false] at h
    rw[h.2];exact ty.data _
  ok:=fun _ _ x st hop hdst hvs hbk _=>effO_skip fun γ a w hsim=>by
    have hx:=hvs (ox,.ptr b 0 0) (by simp) γ a w hsim
    have hy:=hvs (ov,c) (by simp) γ a w hsim
    have hk:=hbk (b,k) (by simp)
    obtain⟨ti,hti,hsz⟩:=ζb.1 ht
    obtain⟨B,o',hv,hl⟩:=hx.ptr_inv hk
    obtain⟨hcr,hcell⟩:=boxV_spec hb hy
    have hcl:((l.map ty.c).flatten).length=l.length:=single_len h1 l
    rcases hsim.b b k hk with⟨v1,_⟩|hm|⟨_,B2,o2,cs2,e2,g1,g2,g3,g4,g5,g6,g7,g8⟩
    · rw[hl] at v1;simp at v1
    · exact(hm.small hM).elim
    rw[hl] at g1;simp only[ζa,ζP] at g1
    obtain⟨rfl,rfl⟩:=g1
    have hvl:(a.eval ov).cells.toList.length=l.length:=by have:=hcr.1;rw[hcl] at this;simpa using this
    have hcap:o'+l.length≤cs2.size:=by rw[hn,hz] at g5;omega
    have hone:∀v,v∈(a.eval ov).cells.toList→v.oneCell'=true:=fun v hv=>by
      obtain⟨j,hj,rfl⟩:=List.getElem_of_mem hv
      have hjc:j < ((l.map ty.c).flatten).length:=by rw[hcl,←hvl];exact hj
      have:=hcr.2 j _ _ (ζd hjc) (by rw[ζg (by simpa using hj)])
      exact this.isCell_one (hcell _ (List.getElem_mem hjc)).1
    have hrun:=X7 (P:=P) (B:=B) (o:=o'+(0 * k.size+0)) (e:=e2) (a.eval ov).cells.toList 0 w cs2 g3 hone (by rw[hvl];omega)
    obtain⟨r1,r2⟩:=F6 (a.eval ov).cells.toList (o'+(0 * k.size+0)+0) cs2 (by rw[hvl];omega)
    have key:=hsim.storeBlk (cs':=K6 cs2 (o'+(0 * k.size+0)+0) (a.eval ov).cells.toList) (rows':=l.map ty.c) hk hM hl g2 g3 r1 (g7 hex)
      (fun q hq=>by
        obtain⟨x,_,rfl⟩:=ζt.1 hq
        rw[h1,hz])
      (by simp[hn]) g5 (fun idx c' hc'=>by
        have hidx:idx < l.length:=by rw[←hcl];exact(ζe.1 hc').1
        rw[r2,if_pos (by rw[hvl];omega)]
        have hj:idx < (a.eval ov).cells.toList.length:=by rw[hvl];exact hidx
        rw[show o'+idx - (o'+(0 * k.size+0)+0)=idx by omega]
        refine⟨_,ζd hj,?_,hone _ (List.getElem_mem hj),.of_not_own (hcell c' (ζi hc')).2⟩
        exact hcr.2 idx c' _ hc' (by rw[ζg (by simpa using hj)];simp))
    refine⟨_,γ,?_,key.2.1,key.2.2.pin,by rw[hdst];exact key.1⟩
    have hsize:¬((a.eval ov).cells.size≠ti.size):=by rw[hcr.1,hcl,hsz];simp
    simp only[execOp,hop,Instr.storeAt,hv,Instr.sureAddr,storeVar,sizeOf,typeInfo,hti,ζT,run_program,ζU,ζQ,Sem.run_ite,hsize,if_false,hrun]
end
theorem Grow.below{γ:Gh}{w w':World}(b:RowKit.Below w.heap.size w w'):Grow γ w γ w' where
 os:=b.os
 tape:=b.tape
 output:=b.output
 size:=b.size
 imm:=fun B o v _ h=>by
  have hb:=cellAt_lt h
  unfold cellAt World.cell? at h ⊢
  rw[b.block B hb];exact h
 lim:=fun _ _=>ζK _
 free:=fun B hB h=>⟨b.block B hB,h,rfl⟩
 room:=fun B cs e fz h=>by
  refine⟨cs,fz,?_,rfl,.inl rfl⟩
  rw[b.block B (by
   rcases ζN B w.heap.size with hb|hb
   ·exact hb
   ·rw[Array.getElem?_eq_none hb] at h;simp at h)]
  exact h
theorem callC_shelf{P:Program}{G:Nat→Option (List V)}{f:FuncId}{args:List V}{vs:Array Value}{res:V}{v:Value}
  (hargs:∀(γ:Gh) (w:World) as,J8 γ w (ofL []) uTop args as→as=vs) (h:∀w,Calls P f vs w fun e w'=>e=.returned v∧RowKit.Below w.heap.size w w')
  (hres:∀(γ:Gh) (w:World) bs u,Rep γ w bs u res v):CallC P G f args (ofL []) res (ofL []):=fun γ w as _ hown hc _=>by
 obtain rfl:=hargs γ w as hc
 refine(h w).mono fun e w' hh=>?_
 obtain⟨rfl,b⟩:=hh
 refine⟨v,γ,rfl,Grow.below b,?_,hres _ _ _ _,fun b k hk=>by simp[ofL] at hk,fun B x hB=>ζM (hown B x hB) b.size⟩
 exact fun b _=>⟨fun _=>rfl,fun _ h=>h,fun k hk=>by simp[ofL] at hk⟩
theorem args_str{s:ByteArray}(γ:Gh)(w:World) as (h:J8 γ w (ofL []) uTop [.str s] as):as=#[.string s]:=by
 obtain⟨h1,h2⟩:=h
 have h0:0 < as.size:=by rw[h1];exact Nat.zero_lt_one
 have:=(h2 0 (.str s) as[0] rfl (ζg h0)).str_inv
 apply Array.ext
 ·rw[h1];rfl
 ·intro i hi hi'
  have:i=0:=by rw[h1] at hi;simp at hi;exact hi
  subst this
  assumption
def Y7(s:ByteArray):List Int:=s.data.toList.map fun b=>(b.toNat:Int)
theorem S8(s:ByteArray):(Y7 s).length=s.size:=by
 unfold Y7
 rw[ζs,Array.length_toList]
 rfl
theorem singles_map{ty:Ty Int}(hc:∀x,ty.c x=[.int .u8 x])(l:List Int):(l.map ty.c).flatten=l.map (V.int .u8):=by
 induction l with
 | nil=>rfl
 | cons x l ih=>simp only[ξf,List.flatten_cons,hc,ih];rfl
section
variable {P:Program} {G:Nat→Option (List V)} {ty:Ty Int}
theorem run_copy_text{w:World}{dT sT t elem:TypeId}{B o n cap:Nat}{s:ByteArray}{cs:Array Value}{e:TypeId}(hu:P.underlying dT=some (.slice elem))(hs:(P.info? elem).map (·.size)=some 1)
  (hg:M6 w B cs e) (hle:s.size≤n) (hfit:o+s.size≤cs.size) :
  (Builtin.copy_ #[dT,sT] t #[.slice (some ⟨B,o,none⟩) n cap,.string s]).run P w=.ok (.int .i64 s.size) (World.setBlk w B (K6 cs o ((Y7 s).map (Value.int .u8))) e):=by
 have hl:((Y7 s).map (Value.int .u8)).length=s.size:=by rw[ζs,S8]
 have hone:∀v,v∈(Y7 s).map (Value.int .u8)→v.oneCell'=true:=fun v hv=>by obtain⟨b,_,rfl⟩:=ζt.1 hv;rfl
 have hst:=X7 (P:=P) (B:=B) (o:=o) (e:=e) ((Y7 s).map (Value.int .u8)) 0 w cs hg hone (by rw[hl];simpa using hfit)
 simp only[Nat.add_zero] at hst
 have hmin:Nat.min s.size n=s.size:=Nat.min_eq_left hle
 have htk:List.take s.size (List.map (fun b:UInt8=>Value.int IntKind.u8 (b.toNat:Int)) s.data.toList)=(Y7 s).map (Value.int .u8):=by
  rw[List.take_of_length_le (by rw[ζs,Array.length_toList];exact ζK _)]
  simp[Y7]
 cases hq:P.info? elem with
 | none=>simp[hq] at hs
 | some i=>
  simp[Builtin.copy_,ζO hu,Builtin.lenOf,Builtin.firstCells,sizeOf,typeInfo,hq,hmin]
  rw[htk,hst]
  simp[Result.andThen,goInt]
def Rule.copyText{dT sT elem:TypeId}(ox os:Operand)(d b n:Nat)(l:List Int)(s:ByteArray)(hu:P.underlying dT=some (.slice elem))(hs:(P.info? elem).map (·.size)=some 1)(hn:l.length=n)(hc:∀x,ty.c x=[.int .u8 x])
    (hd:∀y,ty.c y=ty.d y):Rule P G Unit where
  op:=.call { callee:=.builtin .copy,args:=#[ox,os],argTypes:=#[dT,sT] }
  dst:=some d
  vals:=[(ox,.ref b 0 n),(os,.str s)]
  blks:=[(b,⟨1,true,l.map ty.c⟩)]
  o:=bif decide (s.size≤n)&&decide (0 < n) then some () else none
  ws:=fun _=>[.b b (some ⟨1,true,(over l 0 (Y7 s)).map ty.c⟩),.t d (.int .i64 (s.size:Int))]
  dt:=[b]
  dat:=fun _ q k hm _=>by
    simp only[ζv,ζw,or_false,Wr.b.injEq,ζa,reduceCtorEq] at hm
    obtain⟨_,rfl⟩:=hm
    exact ty.data _
  ok:=fun _ ho x st hop hdst hvs hb hdd=>H6 fun γ a w hsim=>by
    have hcc:s.size≤n∧0 < n:=by
      cases hh:(decide (s.size≤n)&&decide (0 < n)) with
      | true=>simpa using hh
      | false=>rw[hh] at ho;simp at ho
    obtain⟨hle,hpos⟩:=hcc
    have hbb:st.b b=some ⟨1,true,l.map ty.c⟩:=hb (b,⟨1,true,l.map ty.c⟩) (by simp)
    have rx:Rep γ w st.b st.u (.ref b 0 n) (a.eval ox):=hvs (ox,.ref b 0 n) (by simp) γ a w hsim
    have ry:a.eval os=.string s:=(hvs (os,.str s) (by simp) γ a w hsim).str_inv
    obtain⟨hdn,_⟩:=hdd d rfl
    have hll:(l.map ty.c).length=n:=by rw[ζs,hn]
    have hfl:=singles_map hc
    rcases rx.ref_inv hbb with⟨B,o,cap,hv,hl,hil,hcap,hroom,hM,hcp⟩|⟨B,_,_,h0,_⟩|⟨_,_,h0,_⟩
    · rcases hsim.b b _ hbb with⟨v1,_⟩|hm|⟨_,B',o',cs,e',h1,h2,h3,h4,h5,h6,h7,h8⟩
      · rw[hl] at v1;simp at v1
      · exact(hm.small hM).elim
      rw[hl] at h1;simp only[ζa,ζP] at h1
      obtain⟨rfl,rfl⟩:=h1
      simp only at hM h4 h5 h6 h7 hv
      have h5':o+n≤cs.size:=by rw[hll] at h5;omega
      have ol:=S8 s
      have ev:a.eval ox=.slice (some ⟨B,o,none⟩) n cap:=by simpa using hv
      have hrun:=run_copy_text (P:=P) (w:=w) (dT:=dT) (sT:=sT) (t:=x.type) (B:=B) (o:=o) (s:=s) (n:=n) (cap:=cap) hu hs h3 hle (by omega)
      have key:=hsim.putRows (r:=Y7 s) (p:=0) (z:=1) (news:=(Y7 s).map (Value.int .u8)) hbb hM hd hl h2 h3 h4 h5 h6 (h7 trivial) (by rw[ol,hn];omega) (by simp) (fun q hq=>by
        obtain⟨y,_,rfl⟩:=ζt.1 hq;rw[hc];rfl) (fun i c hi=>by
        rw[hfl,ζo] at hi
        obtain⟨y,hy,rfl⟩:=ζb.1 hi
        exact⟨.int .u8 y,by rw[ζo,hy];rfl,.data (.int _ _),rfl⟩)
      simp only[Nat.zero_mul,Nat.add_zero] at key
      have pre : execOp a.eval x = (do let v ← Builtin.copy_ #[dT, sT] x.type #[a.eval ox, a.eval os]; pure (.value v)) := by
        have h1:execOp a.eval x=builtin .copy #[dT,sT] x.type (#[ox,os].map fun|.const _=>true|_=>false) (#[ox,os].map a.eval):=by
          show (execOp a.eval x)=_;unfold execOp;rw[hop];rfl
        rw[h1];simp[builtin]
      refine⟨.int .i64 s.size,_,γ,by rw[pre,ζT,ev,ry,hrun,ζQ];rfl,key.2.1,key.2.2.pin,?_⟩
      have hp:=key.1.put (a:=a) (dst:=some d) (c:=.int .i64 (s.size:Int)) (v:=.int .i64 s.size) (by simpa[H2,St.setB] using hdn) (.data (.int _ _))
      rw[hdst]
      exact hp
    · have h0:(l.map ty.c).length=0:=h0
      rw[hll] at h0;omega
    · have h0:(l.map ty.c).length=0:=h0
      rw[hll] at h0;omega
def Rule.octets{s t e:TypeId}(ox:Operand)(d:Nat)(x0:ByteArray)(hs:P.underlying s=some .string)(ht:P.underlying t=some (.slice e))(he:P.underlying e=some (.int .u8))
    (hi:(P.info? e).map (·.size)=some 1) (hc:∀x,ty.c x=[.int .u8 x]):Rule P G Unit where
  op:=.convert s t ox
  dst:=some d
  vals:=[(ox,.str x0)]
  blks:=[]
  o:=some ()
  ws:=fun _=>[.b d (some ⟨1,true,(Y7 x0).map ty.c⟩),.t d (.ref d 0 (Y7 x0).length)]
  dt:=[d]
  dat:=fun _ i k h _=>by
    simp only[ζv,Wr.b.injEq,ζa,reduceCtorEq,ζw,or_false] at h
    rw[h.2];exact ty.data _
  ok:=fun _ _ x st hop hdst hvs _ hd=>H6 fun γ a w hsim=>by
    obtain⟨hdn,hu⟩:=hd d rfl
    have ex:a.eval ox=.string x0:=(hvs (ox,.str x0) (by simp) γ a w hsim).str_inv
    have hfl:=singles_map hc (Y7 x0)
    have hol:=S8 x0
    have hrun:=run_bytes_of_string (P:=P) w s t e x0 hs ht he
    have hge:x0.size≤grownCap w x0.size 0 e:=grownCap_ge w x0.size 0 e
    obtain⟨N,hN⟩:∃N,N=grownCap w x0.size 0 e:=⟨_,rfl⟩
    rw[←hN] at hrun hge
    obtain⟨cs,hcs⟩:∃cs,cs=bytesRow x0 N:=⟨_,rfl⟩
    rw[←hcs] at hrun
    have hsz:cs.size=N:=by
      rw[hcs];unfold bytesRow
      rw[Array.size_append,Array.size_map,Array.size_replicate]
      have:x0.data.size=x0.size:=rfl
      omega
    have hget:∀j,j < x0.size→cs[j]?=((Y7 x0).map (Value.int .u8))[j]?:=fun j hj=>by
      rw[hcs];unfold bytesRow Y7
      have hj':j < x0.data.size:=hj
      rw[Array.getElem?_append_left (by simpa using hj')]
      simp only[Array.getElem?_map,ζq,ζo,Array.getElem?_toList]
      cases x0.data[j]?<;>rfl
    have key:=hsim.newBlkF (d:=d) (size:=1) (rows:=(Y7 x0).map ty.c) (cs:=cs) (e:=e) (fz:=(cs.size,cs.size+1)) (w1:=w.drew.alloc (.cells cs e (cs.size,cs.size+1))) (by decide) hu rfl (fun i hi=>by simp only;omega) ⟨rfl,rfl,rfl⟩
      (fun r hr=>by obtain⟨y,_,rfl⟩:=ζt.1 hr;rw[hc];rfl) (by rw[ζs,hol,hsz];omega) (fun j c hj=>by
        rw[hfl,ζo] at hj
        obtain⟨y,hy,rfl⟩:=ζb.1 hj
        have hlt:j < x0.size:=by rw[←hol];exact(ζe.1 hy).1
        exact⟨.int .u8 y,by rw[hget j hlt,ζo,hy];rfl,.data (.int _ _),rfl,rfl⟩)
    refine⟨.slice (some ⟨w.heap.size,0,none⟩) x0.size N,_,γ.add d w.heap.size,?_,key.2.1,key.2.2.pin,?_⟩
    · have e3 : (execOp a.eval x) = (do let v ← convert s t (a.eval ox); pure (.value v) : Sem Next) := by unfold execOp; rw [hop]
      rw[e3,ζT,ex,hrun]
      rfl
    · rw[hdst]
      have hb':=key.1.put (a:=a) (dst:=some d) (c:=.ref d 0 (Y7 x0).length) (v:=.slice (some ⟨w.heap.size,0,none⟩) x0.size N) (by simpa[H2,St.setB] using hdn) (by
        have:=Rep.ref (γ:=γ.add d w.heap.size) (w:=w.drew.alloc (.cells cs e (cs.size,cs.size+1))) (bs:=(st.setB d ⟨1,true,(Y7 x0).map ty.c⟩).b) (u:=(st.setB d ⟨1,true,(Y7 x0).map ty.c⟩).u)
          d 0 (Y7 x0).length w.heap.size 0 N ⟨1,true,(Y7 x0).map ty.c⟩ (by simp[St.setB]) (by simp[Gh.add]) (by simp) (by rw[hol];exact hge) ⟨cs,e,(cs.size,cs.size+1),Array.getElem?_push_size,by rw[hsz];simp⟩ (by show 1 < W9;decide) (by simp only[ζs,hol];omega)
        simpa[hol] using this)
      exact hb'
end
def plainV:V→Bool
 | .int _ _=>true
 | .bool _=>true
 | .str _=>true
 | _=>false
theorem Rep.plain{γ γ':Gh}{w w':World}{bs bs':Nat→Option Blk}{u u':Nat→Bool}{c:V}{v:Value}(h:Rep γ w bs u c v)(hp:plainV c=true):Rep γ' w' bs' u' c v:=by
 cases c with
 | int k n=>obtain rfl:=h.int_inv;exact .data (.int _ _)
 | bool b=>obtain rfl:=h.bool_inv;exact .data (.bool _)
 | str s=>obtain rfl:=h.str_inv;exact .data (.str _)
 | _=>simp[plainV] at hp
theorem plainV_own{c:V}(h:plainV c=true):c.isOwn=false:=by
 cases c<;>simp[plainV] at h<;>rfl
theorem Rep.reown{γ γ2:Gh}{w:World}{bs:Nat→Option Blk}{u:Nat→Bool}{c:V}{v:Value}(h:Rep γ w bs u c v)(hl:γ2.loc=γ.loc)(hm:γ2.lim=γ.lim):Rep γ2 w bs u c v:=by
 induction h with
 | data h=>exact .data (by rw[hm];exact h)
 | undef v=>exact .undef v
 | ref b off len B o cap k h1 h2 h3 h4 h5 h6 h7=>exact .ref b off len B o cap k h1 (by rw[hl];exact h2) h3 h4 h5 h6 h7
 | refE b off B k h1 h6 h2=>exact .refE b off B k h1 h6 h2
 | refN b off k h1 h6 h2=>exact .refN b off k h1 h6 h2
 | deadRef b off len v h1 h2 h3=>exact .deadRef b off len v h1 h2 h3
 | ptr b i off B o k h1 h2 h3=>exact .ptr b i off B o k h1 (by rw[hl];exact h2) h3
 | mp b B k h1 h2 h3=>exact .mp b B k h1 (by rw[hl];exact h2) h3
 | deadMp b v h1 h2 h3=>exact .deadMp b v h1 h2 h3
 | deadPtr b i off v h1 h2 h3=>exact .deadPtr b i off v h1 h2 h3
 | fn f first captured fs cs h1 h2 _ _ ih1 ih2=>exact .fn f first captured fs cs h1 h2 ih1 ih2
 | agg cells vs h1 _ ih=>exact .agg cells vs h1 ih
 | tup cells vs h1 _ ih=>exact .tup cells vs h1 ih
def A9(c:Nat)(ti:Nat→V)(i:Nat):V:=match ti i with
 | .ptr b i o=>if b=c then .undef else .ptr b i o
 | x=>x
def E0(c:Nat)(k:Blk)(b:Nat→Option Blk)(j:Nat):Option Blk:=if j=c then some k else b j
def O0(c:Nat)(j:Nat):Bool:=decide (j=c) || uTop j
theorem ext_keep{x:Ext}{c:Nat}{k:Blk}{bs:List (Nat×Blk)}(hx:x.bs=(c,k) :: bs)(h:(bs.all fun p=>decide (1000000≤p.1))=true)(n:Nat):(x.D n).st=⟨n,tOf x.ts,E0 c k (ofL bs),O0 c⟩:=by
 have hu:(fun i=>x.us.contains i || uTop i)=O0 c:=funext fun i=>by
  unfold O0
  by_cases e:i=c
  ·subst e;simp[Ext.us,hx]
  ·have:x.us.contains i=true→uTop i=true:=fun hc=>by
    simp only[Ext.us,hx,ξf,ζD,ζv,ζF] at hc
    rcases hc with hc|hc
    ·exact absurd hc e
    ·obtain⟨p,hp,rfl⟩:=ζt.1 hc
     exact ζE.1 h p hp
   cases hu:uTop i with
   | true=>simp
   | false=>
    cases hc:x.us.contains i with
    | true=>have:=this hc;rw[hu] at this;cases this
    | false=>simp[e]
 have hb:ofL x.bs=E0 c k (ofL bs):=funext fun i=>by
  rw[hx]
  unfold E0 ofL
  by_cases e:i=c
  ·subst e;simp
  ·have:¬c=i:=fun h=>e h.symm
   simp[e,this]
 show (⟨n,tOf x.ts,ofL x.bs,fun i=>x.us.contains i || uTop i⟩:St)=_
 rw[hu,hb]
section
variable {P:Program} {G:Nat→Option (List V)} {L:YL} {l:Nat}
theorem H1.yieldK{x0:Exit}{c ni:Nat}{k:Blk}{ti:Nat→V}{b:Nat→Option Blk}{Q:Exit→YS→Prop}{ops:Array Oper}{i:Nat}{is:List Nat}{o:Oper}{x:Operand}{xs:Array Operand}{ts:Array TypeId}{cs:List V}{R:Exit→(Nat→Option Blk)→Prop}
  (hi:ops[i]?=some o) (hgd:X0 ops (M7 ni (A9 c ti) b) o=some true)
  (ho:o.op=.call { callee:=.value x,args:=xs,argTypes:=ts }) (hx:(M7 ni (A9 c ti) b).ev G x=some (.yld l)) (hcs:evs ((M7 ni (A9 c ti) b).ev G) xs.toList=some cs) (hdst:H2 ni o.dst=true)
  (hsx:x0=.normal) (hti:∀i,okV R4 (A9 c ti i)=true) (ht:∀i,okV R4 (L.t i)=true) (hpn:∀p,p∈L.ps.toList→p < L.n) (hps:cs.length=L.ps.size)
  (hr:RoundT P G L.n L.t L.ps.toList L.assign L.body b cs R) (hR:∀e b',R e b'→e=.normal∨e=.ret∨∃id,e=.exit id)
  (hc:R4 c=false) (hct:uTop c=false) (hbk:∀j q,b j=some q→q.size < W9∧okL uTop q.rows.flatten=true) (hM:k.size < W9) (hb:b c=none) (hbt:∀j q,b j=some q→uTop j=true) (hb':∀e b',R e b'→b' c=none) (hk:∀r,r∈k.rows→∀v,v∈r→plainV v=true) (hrow:0 < k.rows.length)
  (hn:∀e b',R e b'→H1 P G L l ops is ⟨e,(⟨ni,ti,E0 c k b',O0 c⟩:St).put o.dst (.bool (N7 e).isNone)⟩ Q):H1 P G L l ops (i :: is) ⟨x0,⟨ni,ti,E0 c k b,O0 c⟩⟩ Q:=fun fn γ0 w0 b0 D Ds sz te γ a w he hs hd=>by
 subst hsx
 simp only[wpOpsIn,hi]
 have hkc:E0 c k b c=some k:=by simp[E0]
 have hat:BlkAt γ w (E0 c k b) (O0 c) c k:=by
  rcases hs.b c k hkc with⟨h0,h1⟩|hm|ha
  ·rw[h1] at hrow;simp at hrow
  ·exact(hm.small hM).elim
  ·exact ha
 obtain⟨_,B,of,cells,el,g1,g2,g3,g4,g5,g6,g7,g8⟩:=hat
 have hBlt:B < w.heap.size:=g3.lt
 let γ1:Gh:={ loc:=γ.loc,own:=fun X=>if X=B then none else γ.own X,lim:=γ.lim }
 have gr:Grow γ w γ1 w:=⟨rfl,rfl,rfl,ζK _,fun _ _ _ _ h=>h,fun _ _=>ζK _,fun X _ hX=>⟨rfl,by simp[γ1,hX],rfl⟩,fun _ cs _ fz h=>⟨cs,fz,h,rfl,.inl rfl⟩⟩
 have pn:Pin γ (E0 c k b) (O0 c) γ1 b uTop:=fun j hj=>by
  have hjc:j≠c:=fun e=>by rw[e,hc] at hj;cases hj
  refine⟨fun _=>uPin_top hj,fun _ hb2=>by simpa[E0,hjc] using hb2,fun q hq=>⟨uPin_top hj,.inr ⟨q,by simpa[E0,hjc] using hq,rfl,fun _=>rfl,rfl⟩⟩⟩
 have ownB:∀X t,γ.own X=some t→X≠B→γ1.own X=some t:=fun X t h1 h2=>by simp[γ1,h1,h2]
 have keepok:∀j q,b j=some q→j≠c:=fun j q hq e=>by rw[e,hb] at hq;cases hq
 have shr:∀j,b j=none∨b j=E0 c k b j:=fun j=>by
  by_cases e:j=c
  ·exact .inl (by rw[e];exact hb)
  ·exact .inr (by simp[E0,e])
 have repl:∀(v:V) (y:Value),Rep γ w (E0 c k b) (O0 c) v y→okV uTop v=true→Rep γ1 w b uTop v y:=fun v y h hv=>(h.shrink shr hv).reown rfl rfl
 have pinTop:∀v,okV R4 v=true→okV uTop v=true:=fun v h=>O7 (fun j hj=>uPin_top hj) v h
 have hs1:Sim G γ1 (M7 ni (A9 c ti) b) a.tmps w:=by
  refine⟨hs.n,fun i=>?_,fun j q hq=>?_,fun j q hq=>hbt j q hq,hs.g,fun X t hX=>?_⟩
  ·have h:=hs.t i
   have hp:=hti i
   show Rep γ1 w b uTop (A9 c ti i) _
   cases ht':ti i with
   | ptr b1 i1 o1=>
    have e:A9 c ti i=if b1=c then .undef else .ptr b1 i1 o1:=by unfold A9;rw[ht']
    rw[e] at hp ⊢
    by_cases hb1:b1=c
    ·rw[if_pos hb1];exact .undef _
    ·rw[if_neg hb1] at hp ⊢
     exact repl _ _ (by rw[←ht'];exact h) (pinTop _ hp)
   | _=>
    have e:A9 c ti i=ti i:=by unfold A9;rw[ht']
    rw[e] at hp ⊢
    exact repl _ _ h (pinTop _ hp)
  ·replace hq:b j=some q:=hq
   have hjc:=keepok j q hq
   obtain⟨hz,hrefs⟩:=hbk j q hq
   rcases hs.b j q (by simpa[E0,hjc] using hq) with h0|hm|⟨hM2,B2,o2,cs2,e2,a1,a2,a3,a4,a5,a6,a7,a8⟩
   ·exact .inl h0
   ·exact(hm.small hz).elim
   ·have hne:B2≠B:=fun e=>by rw[e,g2] at a2;simp only[ζa,H4.blk.injEq] at a2;exact hjc a2.symm
    refine .inr (.inr ⟨hM2,B2,o2,cs2,e2,a1,ownB _ _ a2 hne,a3,a4,a5,fun i v hv=>?_,a7,a8⟩)
    obtain⟨y,b1,b2,b3,b4⟩:=a6 i v hv
    exact⟨y,b1,repl _ _ b2 (P3 hrefs hv),b3,b4.mono fun X hX=>⟨ownB X _ hX (fun e=>by rw[e,g2] at hX;cases hX),ζK _⟩⟩
  ·have hX':(if X=B then none else γ.own X)=some t:=hX
   split at hX'
   ·cases hX'
   ·exact hs.o X t hX'
 have he1:=he.step gr pn
 have hd1:=hd.grow gr
 have hw:Region.wanted o (yielded ops a.tmps)=true:=K9 hs1 hgd
 rw[if_pos hw]
 have hlB:l≠B:=fun e=>by
  have h1:=he.own
  rw[e,g2] at h1;cases h1
 refine yield_op ho hx hcs hs1 hti ht hpn he1 hps hr hR hd1 fun e b' γ' w' h1 h2 h3 h4 h5=>?_
 have h5l:∀B,B < w.heap.size→γ1.own B=none→B≠l→γ'.lim B=γ.lim B:=fun B q1 q2 q3=>(h5 B q1 q2 q3).2.2
 obtain⟨f1,f2,_⟩:=h5 B hBlt (by simp[γ1]) (Ne.symm hlB)
 let γ2:Gh:={ loc:=fun j=>if j=c then some (B,of) else γ'.loc j,own:=fun X=>if X=B then some (.blk c) else γ'.own X,lim:=γ'.lim }
 have hb2:=hb' e b' h1
 have keepok2:∀j q,b' j=some q→j≠c:=fun j q hq e=>by rw[e,hb2] at hq;cases hq
 have ble:L1 γ' b' uTop { γ2 with own:=γ'.own } (E0 c k b') (O0 c):=by
  refine⟨fun j hj=>by simp[O0,hj],fun j hj hn=>?_,fun j q hq=>⟨by have h9:uTop j=true:=h3.u j q hq;simp[O0,h9],.inr ⟨q,by simpa[E0,keepok2 j q hq] using hq,rfl,fun _=>rfl,by show (if j=c then _ else γ'.loc j)=_;rw[if_neg (keepok2 j q hq)]⟩⟩⟩
  by_cases e:j=c
  ·rw[e,hct] at hj;cases hj
  ·simpa[E0,e] using hn
 have gr2:Grow γ' w' { γ2 with own:=γ'.own } w':=⟨rfl,rfl,rfl,ζK _,fun _ _ _ _ h=>h,fun _ _=>ζK _,fun X _ hX=>⟨rfl,hX,rfl⟩,fun _ cs _ fz h=>⟨cs,fz,h,rfl,.inl rfl⟩⟩
 have repl2:∀(v:V) (y:Value),Rep γ' w' b' uTop v y→Rep γ2 w' (E0 c k b') (O0 c) v y:=fun v y h=>(h.mono gr2 ble).reown rfl rfl
 have own2:∀X t,γ'.own X=some t→γ2.own X=some t:=fun X t hX=>by
  have:X≠B:=fun e=>by rw[e,f2] at hX;cases hX
  simp[γ2,this,hX]
 have hrow3:M6 w' B cells el:=g3.of_eq f1
 have hs2:Sim G γ2 ⟨ni,ti,E0 c k b',O0 c⟩ a.tmps w':=by
  refine⟨hs.n,fun i=>?_,fun j q hq=>?_,fun j q hq=>?_,h3.g,fun X t hX=>?_⟩
  ·have h:=h3.t i
   show Rep γ2 w' (E0 c k b') (O0 c) (ti i) _
   have h':Rep γ' w' b' uTop (A9 c ti i) (a.tmps.getD i undef):=h
   cases ht':ti i with
   | ptr b1 i1 o1=>
    have e:A9 c ti i=if b1=c then .undef else .ptr b1 i1 o1:=by unfold A9;rw[ht']
    rw[e] at h'
    by_cases hb1:b1=c
    ·have hold:=hs.t i
     have hold':Rep γ w (E0 c k b) (O0 c) (ti i) (a.tmps.getD i undef):=hold
     rw[ht',hb1] at hold'
     obtain⟨B9,o9,hv9,hl9⟩:=hold'.ptr_inv hkc
     rw[g1] at hl9
     simp only[ζa,ζP] at hl9
     obtain⟨rfl,rfl⟩:=hl9
     rw[hb1,hv9]
     exact .ptr c i1 o1 B of k (by simp[E0]) (by simp[γ2]) hM
    ·rw[if_neg hb1] at h'
     exact repl2 _ _ h'
   | _=>
    have e:A9 c ti i=ti i:=by unfold A9;rw[ht']
    rw[e,ht'] at h'
    exact repl2 _ _ h'
  ·by_cases e:j=c
   ·rw[e] at hq ⊢
    have hq':k=q:=by simpa[E0] using hq
    rw[←hq']
    refine .inr (.inr ⟨hM,B,of,cells,el,by simp[γ2],by simp[γ2],hrow3,g4,g5,fun i v hv=>?_,fun hx=>?_,?_⟩)
    ·obtain⟨y,b1,b2,b3,_⟩:=g6 i v hv
     have hpl:plainV v=true:=by
      obtain⟨r,hr1,hr2⟩:=ξm.1 (ζi hv)
      exact hk r hr1 v hr2
     exact⟨y,b1,b2.plain hpl,b3,.of_not_own (plainV_own hpl)⟩
    ·rw[show γ2.lim B=γ'.lim B from rfl,(h5l B hBlt (by simp[γ1]) (Ne.symm hlB))];exact g7 hx
    ·rw[show γ2.lim B=γ'.lim B from rfl,(h5l B hBlt (by simp[γ1]) (Ne.symm hlB))];exact g8
   ·have hq':b' j=some q:=by simpa[E0,e] using hq
    rcases h3.b j q hq' with⟨z0,z1⟩|hm|⟨hM2,B2,o2,cs2,e2,a1,a2,a3,a4,a5,a6,a7,a8⟩
    ·exact .inl ⟨by simpa[γ2,e] using z0,z1⟩
    ·exact .inr (.inl (hm.same (by simp[γ2,e]) (fun B' _ hB'=>⟨own2 _ _ hB',rfl⟩) fun v y hr=>repl2 v y hr))
    ·refine .inr (.inr ⟨hM2,B2,o2,cs2,e2,by simpa[γ2,e] using a1,own2 _ _ a2,a3,a4,a5,fun i v hv=>?_,a7,a8⟩)
     obtain⟨y,b1,b2,b3,b4⟩:=a6 i v hv
     exact⟨y,b1,repl2 _ _ b2,b3,b4.mono fun X hX=>⟨own2 X _ hX,ζK _⟩⟩
  ·by_cases e:j=c
   ·simp[O0,e]
   ·have hq':b' j=some q:=by simpa[E0,e] using hq
    have:=h3.u j q hq'
    show O0 c j=true
    unfold O0;simp[show uTop j=true from this]
  ·have hX':(if X=B then some (H4.blk c) else γ'.own X)=some t:=hX
   split at hX'
   ·rename_i e;rw[e];exact hrow3.lt
   ·exact h3.o X t hX'
 have he2:Env G L γ0 w0 b0 l D Ds sz te (D3 fn te L.ps L.assign L.body D e) γ2 (E0 c k b') (O0 c) w':=by
  refine⟨h2.sim0,⟨h2.grow.os,h2.grow.tape,h2.grow.output,h2.grow.size,h2.grow.imm,h2.grow.lim,fun X hX hn=>?_,h2.grow.room⟩,fun j hj=>?_,h2.loop,?_,h2.lo,fun E hE=>?_⟩
  ·obtain⟨q1,q2,q3⟩:=h2.grow.free X hX hn
   refine⟨q1,?_,q3⟩
   have:X≠B:=fun e=>by
    have:=(he.grow.free X hX hn).2.1
    rw[e,g2] at this;cases this
   simp[γ2,this,q2]
  ·have hjc:j≠c:=fun e=>by rw[e,hc] at hj;cases hj
   obtain⟨p1,p2,p3⟩:=h2.pin j hj
   refine⟨fun h=>by simp[O0,p1 h],fun h hn=>by simpa[E0,hjc] using p2 h hn,fun q hq=>?_⟩
   obtain⟨r1,r2⟩:=p3 q hq
   refine⟨by simp[O0,r1],?_⟩
   rcases r2 with r2|⟨k',r2,r3,r4,r5⟩
   ·exact .inl (by simpa[E0,hjc] using r2)
   ·exact .inr ⟨k',by simpa[E0,hjc] using r2,r3,r4,by simpa[γ2,hjc] using r5⟩
  ·show (if l=B then some (H4.blk c) else γ'.own l)=none
   rw[if_neg hlB];exact h2.own
  ·obtain⟨q1,q2,q3⟩:=h2.dfr E hE
   refine⟨q1,?_,q3⟩
   have:E≠B:=fun e=>by
    have:=(he.dfr E hE).2.1
    rw[e,g2] at this;cases this
   show (if E=B then some (H4.blk c) else γ'.own E)=none
   rw[if_neg this];exact q2
 have hd2:D1 sz γ2 w' a.defers:=by
  obtain⟨Es,m1,m2,m3⟩:=h4
  obtain⟨Es',m1',_,m3'⟩:=hd
  refine⟨Es,m1,m2,fun E hE=>?_⟩
  obtain⟨q1,q2,q3⟩:=m3 E hE
  refine⟨q1,q2,?_⟩
  have:E≠B:=fun e=>by
   obtain⟨fz,hh,_⟩:=hrow3
   rw[e,hh] at q2;cases q2
  show (if E=B then some (H4.blk c) else γ'.own E)=none
  rw[if_neg this];exact q3
 have pu:((⟨ni,ti,E0 c k b',O0 c⟩:St).put o.dst (.bool (N7 e).isNone)).b=E0 c k b'∧((⟨ni,ti,E0 c k b',O0 c⟩:St).put o.dst (.bool (N7 e).isNone)).u=O0 c:=by
  cases o.dst<;>exact⟨rfl,rfl⟩
 exact hn e b' h1 fn γ0 w0 b0 D Ds sz te γ2 _ w' (by rw[pu.1,pu.2];exact he2) (hs2.put hdst (.data (.bool _))) (by rw[U1];exact hd2)
end
def CallD(P:Program)(G:Nat→Option (List V))(f:FuncId)(args:List V)(ins:Nat→Option Blk)(u u':FrameMode)(outs:Nat→Option Blk):Prop:=
 ∀(γ:Gh) (w:World) (as:Array Value),S9 G γ w→(∀B x,γ.own B=some x→B < w.heap.size)→J8 γ w ins uTop args as→
  (∀b k,ins b=some k→uTop b=true∧L2 γ w ins uTop b k)→
  CallsDIn (RF none) 0 P f as u w fun e u2 w'=>u2=u'∧∃v γ',e=.returned v∧Grow γ w γ' w'∧Pin γ ins uTop γ' outs (fun _=>true)∧
   (∀b k,outs b=some k→L2 γ' w' outs (fun _=>true) b k)∧(∀B x,γ'.own B=some x→B < w'.heap.size)
section
variable {P:Program} {G:Nat→Option (List V)}
def Ahead(P:Program)(G:Nat→Option (List V))(Qg:Exit→St→Prop):List Code→St→Prop
 | [],st=>Rel P G Qg .normal st
 | a :: as,st=>TV P G a st (Qx P G Qg (as.map Kf.seq))
theorem Qx_seqs{Qg:Exit→St→Prop}{e:Exit}{st:St}(he:e≠.normal):∀{as:List Code},Qx P G Qg (as.map Kf.seq) e st→Qg e st
 | [],h=>h
 | a :: as,h=>by
  simp only[ξf,Qx] at h
  cases e with
  | normal=>exact absurd rfl he
  | _=>exact Qx_seqs he (as:=as) h
theorem chain_cw{Qg:Exit→St→Prop}{rest:Code}{Post:Exit→Act→World→Prop}:∀(As:List Code) (st:St),Ahead P G Qg As st→∀(fx:Fx) (γ:Gh) (a:Act) (w:World),Sim G γ st a.tmps w→FxOk fx γ a.defers w→
  (∀e a' w',O3 G fx γ st w Qg e a' w'→(e=.normal→CW fx.ro P rest Post a' w')∧(e≠.normal→Post e a' w'))→CW fx.ro P (As.foldr Code.seq rest) Post a w
 | [],st,h,fx,γ,a,w,hs,hd,K=>(K .normal a w (h fx γ a w hs hd.1)).1 rfl
 | c :: as,st,h,fx,γ,a,w,hs,hd,K=>by
  refine wpIn_seq (wpIn_mono (h fx γ a w hs hd) fun e a' w' hl=>?_)
  by_cases he:e=.normal
  ·subst he
   show CW fx.ro P (as.foldr Code.seq rest) Post a' w'
   obtain⟨st',γ',h1,h2,h3,h4⟩:=hl
   refine chain_cw as st' ?_ ⟨fx.ro,a'.defers,fx.mx⟩ γ' a' w' h1 (hd.step h2.1) fun e2 a2 w2 hl2=>K e2 a2 w2 (hl2.grow2 h2 h3)
   cases as with
   | nil=>exact Rel.of (P:=P) h4
   | cons b bs=>exact h4
  ·have hp:=(K e a' w' (by
    obtain⟨st',γ',h1,h2,h3,h4⟩:=hl
    exact⟨st',γ',h1,h2,h3,Qx_seqs he h4⟩)).2 he
   cases e with
   | normal=>exact absurd rfl he
   | _=>exact hp
theorem callC_defer0{f g:FuncId}{fn:Func}{As:List Code}{rest:Code}{rid t n:Nat}{o0 o1:Oper}{args caps:List V}{ins:Nat→Option Blk}{S1 S2:St}{ex:Exit}{res:V}
  (hf:P.funcs[f]?=some fn) (hb:fn.body=some (As.foldr Code.seq (.seq (.region rid #[o0,o1] false) rest))) (hn:n=max fn.ntmps args.length)
  (hA:Ahead P G (fun e s=>e=.normal∧Gst G s S1) As (entry n args ins))
  (h0:N0 P G o0 S1 (S1.put (some t) (.fn g [] caps))) (hg0:X0 #[o0,o1] S1 o0=some true)
  (h1:o1.op=.defer { callee:=.value (.tmp t),args:=#[],argTypes:=#[] }) (h1d:o1.dst=none) (hg1:X0 #[o0,o1] (S1.put (some t) (.fn g [] caps)) o1=some true)
  (hB:TV P G rest (S1.put (some t) (.fn g [] caps)) (fun e s=>e=ex∧Gst G s S2)) (hex:ex=.ret∨ex=.normal) (ht:t < S1.n)
  {fg:Func} (hfg:P.funcs[g]?=some fg) (hfgb:fg.body.isSome=true) (hfgn:(fg.name== "runtime.NumGoroutine")=false)
  (hD:CallD P G g (caps.map fun _=>V.undef) noB .returning .returning noB)
  (hres:F7 P S2 fn.results.toList=some res) (hflat:∀(γ:Gh) (w:World) v,Rep γ w S2.b S2.u res v→Rep γ w noB (fun _=>true) res v) :
  CallC P G f args ins res noB:=by
 intro γ w as hg ho ha hbl
 have hsz:as.size=args.length:=ha.1
 have hs:Sim G γ (entry n args ins) (as++Array.replicate (fn.ntmps - as.size) undef) w:=by
  refine⟨by simp only[Array.size_append,Array.size_replicate,entry,hn];omega,fun i=>?_,fun b k hk=>(hbl b k hk).2,fun b k hk=>(hbl b k hk).1,hg,ho⟩
  show Rep γ w ins uTop (args.getD i .undef) _
  by_cases hi:i < args.length
  ·have e1:args.getD i .undef=args[i]:=by simp[List.getD,ζd hi]
   have e2:(as++Array.replicate (fn.ntmps - as.size) undef).getD i undef=as[i]'(by omega):=by
    rw[ζW,Array.getElem?_append_left (by omega),ζg (by omega)];rfl
   rw[e1,e2]
   exact ha.2 i _ _ (ζd hi) (ζg (by omega))
  ·have e1:args.getD i .undef=.undef:=by rw[ζV,ξn (by omega)];rfl
   rw[e1];exact .undef _
 refine(callsIn_wide (n:=0)).1 (callsIn_of_wp_marks hf hb trivial ?_)
 refine chain_cw As _ hA ⟨none,[],true⟩ γ ⟨_,[]⟩ w hs ⟨rfl,rfl,fun _ h=>by simp at h⟩ fun e a1 w1 hl=>⟨fun he=>?_,fun he=>?_⟩
 rotate_left
 ·obtain⟨_,_,_,_,_,q,_⟩:=hl;exact absurd q he
 subst he
 obtain⟨s1,γ0,k1,⟨g1,p1⟩,⟨Ds,_,m1,m2,m3⟩,_,gs⟩:=hl
 obtain⟨γ1,k2,g2,p2⟩:=gs γ0 a1.tmps w1 k1
 simp only[ξk] at m1
 refine wpIn_seq (wpIn_region ?_)
 have hr:List.range (#[o0,o1]:Array Oper).size=[0,1]:=rfl
 rw[hr]
 simp only[wpOpsIn,show (#[o0,o1]:Array Oper)[0]?=some o0 from rfl,show (#[o0,o1]:Array Oper)[1]?=some o1 from rfl]
 rw[if_pos (K9 k2 hg0)]
 refine op_in (h0 ⟨none,a1.defers,false⟩ γ1 a1 w1 k2 rfl _ _ fun a' w' γ' _ _ _ h3=>h3) (h0 ⟨none,a1.defers,true⟩ γ1 a1 w1 k2 rfl _ _ fun a2 w2 γ2 k3 g3 p3 d3=>?_)
 rw[if_pos (K9 k3 hg1)]
 have hv:Rep γ2 w2 (S1.put (some t) (.fn g [] caps)).b (S1.put (some t) (.fn g [] caps)).u (.fn g [] caps) (a2.eval (.tmp t)):=by
  have:=k3.t t
  have e:(S1.put (some t) (.fn g [] caps)).t t=.fn g [] caps:=by simp[St.put,St.setT]
  rw[e] at this;exact this
 obtain⟨fs,cv,hval,hf0,hcl,_,hcv⟩:=hv.fn_inv
 have hfs:fs=[]:=ζS.1 hf0
 subst hfs
 let d:Deferred:={ target:=.fn (.func g) cv.toArray,args:=#[] }
 refine⟨fun _ _=>trivial,?_⟩
 have hrun:(execOp a2.eval o1).run P w2=.ok (.defer d) w2:=by
  have e : execOp a2.eval o1 = (do let d ← resolve a2.eval { callee := .value (.tmp t), args := #[], argTypes := #[] } o1.type; pure (Next.defer d)) := by
   unfold execOp;rw[h1]
  rw[e]
  simp only[resolve,hval,Deferred.ofValue,ζT,ζU,ζQ]
  simp[d]
 show o1.uponIn (RF none) 0 P a2 _ _ ((o1.semAt none a2.eval).run P w2)
 rw[Oper.semAt_none,hrun]
 show rest.wpIn (RF none) 0 P _ ({ a2 with defers:=d :: a2.defers }.put o1.dst undef) w2
 rw[h1d]
 show rest.wpIn (RF none) 0 P _ ({ a2 with defers:=d :: a2.defers }:Act) w2
 refine wpIn_mono (hB ⟨none,d :: a2.defers,true⟩ γ2 { a2 with defers:=d :: a2.defers } w2 k3 (FxOk.free _ _)) fun e a4 w4 hl=>?_
 obtain⟨s4,γ3,k4,⟨g4,p4⟩,⟨Ds4,_,n1,n2,n3⟩,rfl,gs4⟩:=hl
 obtain⟨γ4,k5,g5,p5⟩:=gs4 γ3 a4.tmps w4 k4
 have key:LeavesInM (RF none) 0 P fn a4.tmps (fun e w'=>∃v γ',e=.returned v∧Grow γ w γ' w'∧Pin γ ins uTop γ' noB (fun _=>true)∧Rep γ' w' noB (fun _=>true) res v∧
   (∀b k,noB b=some k→L2 γ' w' noB (fun _=>true) b k)∧(∀B x,γ'.own B=some x→B < w'.heap.size)) a4.defers .returning w4:=by
  rw[n1]
  have hur:(FrameMode.returning:FrameMode)≠.run:=by simp
  refine leaves_marksT hur (fun w5=>Sim G γ4 S2 a4.tmps w5∧Grow γ2 w2 γ4 w5) (fun w5 hI=>?_) Ds4 w4 ⟨k5,g4.trans g5⟩ n2 (fun D hD=>(n3 D hD).2.1) fun D w5 hD hI hd=>
   ⟨(Y4.put hd rfl).sim hI.1,hI.2.put hd rfl (n3 D hD).1⟩
  obtain⟨i1,i2⟩:=hI
  have hinv:(invoke d.target d.args).run P w5=.ok (.enter g cv.toArray) w5:=by
   show (callFunc g (#[]++cv.toArray)).run P w5=_
   have hname':¬fg.name= "runtime.NumGoroutine":=by simpa using hfgn
   have hbody':¬fg.body=none:=fun h=>by rw[h] at hfgb;simp at hfgb
   simp[callFunc,hfg,hname',hbody']
  refine⟨hur,.inr ⟨fun h=>by simp[RF,Fence.wide] at h,.func g,cv.toArray,g,cv.toArray,rfl,hinv,fun _ _=>trivial,?_⟩⟩
  let γs:Gh:={ loc:=fun _=>none,own:=fun _=>none,lim:=γ4.lim }
  have hcells:J8 γs w5 noB uTop (caps.map fun _=>V.undef) cv.toArray:=⟨by simpa using hcl,fun i c v hc _=>by
   rw[ζo] at hc
   obtain⟨_,_,rfl⟩:=ζb.1 hc
   exact .undef _⟩
  refine(hD γs w5 cv.toArray i1.g (fun B x hx=>by simp[γs] at hx) hcells (fun b k hk=>by simp[noB] at hk)).mono fun e u2 w6 hR=>?_
  obtain⟨rfl,v6,γ5,rfl,g6,p6,b6,o6⟩:=hR
  show LeavesInM (RF none) 0 P fn a4.tmps _ a2.defers (settle .returning) w6
  rw[show a2.defers=Ds.map markD from d3.trans m1]
  have fr:∀B,B < w5.heap.size→w6.heap[B]?=w5.heap[B]?:=fun B hB=>(g6.free B hB rfl).1
  have cs:Y4 w5 w6:=⟨g6.size,fun B cs e fz hh=>(fr B (ζf.1 hh).1).trans hh,fun B es c hh=>(fr B (ζf.1 hh).1).trans hh⟩
  have i3:Grow γ2 w2 γ4 w6:=i2.same cs (fun B hB=>fr B (ζM hB i2.size)) g6.os g6.tape g6.output
  have gall:Grow γ0 w1 γ4 w6:=g2.trans (g3.trans i3)
  have hsim:Sim G γ4 S2 a4.tmps w6:=cs.sim i1
  refine C2 (fun w7=>Sim G γ4 S2 a4.tmps w7∧Grow γ w γ4 w7) (fun w7 hI=>?_) Ds w6 ⟨hsim,g1.trans gall⟩ m2 (fun D hD=>?_) fun D w7 hD hI hd=>
   ⟨(Y4.put hd rfl).sim hI.1,hI.2.put hd rfl (m3 D hD).1⟩
  ·obtain⟨j1,j2⟩:=hI
   obtain⟨v,hv,hrep⟩:=run_resultsV (P:=P) j1 hres
   exact⟨v,hv,v,γ4,rfl,j2,fun b _=>⟨fun _=>rfl,fun _ _=>rfl,fun _ _=>⟨rfl,.inl rfl⟩⟩,hflat _ _ _ hrep,fun b k hk=>by simp[noB] at hk,j1.o⟩
  ·obtain⟨_,q1,q2⟩:=m3 D hD
   exact(gall.free D (ζf.1 q1).1 q2).1.trans q1
 rcases hex with rfl|rfl
 ·exact key
 ·exact key
theorem marks_steps(I:World→Prop):∀(Ds:List Nat) (fr:Frame) (cs:List Frame) (w:World),fr.mode≠.run→fr.defers=Ds.map markD→I w→Ds.Nodup→(∀D,D∈Ds→w.heap[D]?=some (.deferred (some [])))→
  (∀D w,D∈Ds→I w→w.heap[D]?=some (.deferred (some []))→I (w.putObj D (.deferred none)))→
  ∃w',I w'∧StepsIn (Machine.fenced P (RF none)) P (lone fr cs w) (lone { fr with defers:=[] } cs w')
 | [],fr,cs,w,_,hd,hI,_,_,_=>by
  refine⟨w,hI,?_⟩
  have:{ fr with defers:=[] }=fr:=by cases fr;simp at hd;subst hd;rfl
  rw[this];exact .refl _
 | D :: Ds,fr,cs,w,hm,hd,hI,hn,hh,hp=>by
  have hn':=List.nodup_cons.1 hn
  have h1:=step_collected (cs:=cs) hm (d:=markD D) (ds:=Ds.map markD) (by simpa using hd) rfl (run_takeDeferred (P:=P) (hh D (by simp)))
  obtain⟨w',k1,k2⟩:=marks_steps I Ds { fr with defers:=[]++Ds.map markD } cs (w.putObj D (.deferred none)) hm (by simp) (hp D w (by simp) hI (hh D (by simp))) hn'.2 (fun E hE=>by
   have hne:E≠D:=fun e=>hn'.1 (by rw[←e];exact hE)
   rw[World.putObj_heap_other hne]
   exact hh E (by simp[hE])) fun E w hE=>hp E w (by simp[hE])
  exact⟨w',k1,.head (RF.fenced _ _ _) h1 k2⟩
def Recovers(u:FrameMode)(rv:Value)(u':FrameMode):Prop:=
 (u=.returning∧rv=.nilIface∧u'=.returning)∨∃v older,u=.panicking ({ v:=v,recovered:=false } :: older)∧rv=v∧u'=.panicking ({ v:=v,recovered:=true } :: older)
theorem callD_body{f:FuncId}{fn:Func}{rest:Code}{rid t1 t2 n:Nat}{o0 o1:Oper}{args:List V}{ins outs:Nat→Option Blk}{u u':FrameMode}{rv:Value}
  (hf:P.funcs[f]?=some fn) (hb:fn.body=some (.seq (.region rid #[o0,o1] false) rest)) (hn:n=max fn.ntmps args.length)
  (h0:o0.op=.call { callee:=.builtin .recover,args:=#[],argTypes:=#[] }) (h0d:o0.dst=some t1) (h0g:o0.guard=none)
  (h1:o1.op=.assign (.tmp t1)) (h1d:o1.dst=some t2) (h1g:o1.guard=none) (ht1:t1 < n) (ht2:t2 < n)
  (hi:isIfc rv=true) (hr:Recovers u rv u') (hres:fn.results=#[])
  (hB:TV P G rest (((entry n args ins).put (some t1) (.ifc rv)).put (some t2) (.ifc rv)) (fun e s=>(e=.normal∨e=.ret)∧∀b k,outs b=some k→s.b b=some k)) :
  CallD P G f args ins u u' outs:=by
 intro γ w as hg ho ha hbl
 have hsz:as.size=args.length:=ha.1
 have hs:Sim G γ (entry n args ins) (as++Array.replicate (fn.ntmps - as.size) undef) w:=by
  refine⟨by simp only[Array.size_append,Array.size_replicate,entry,hn];omega,fun i=>?_,fun b k hk=>(hbl b k hk).2,fun b k hk=>(hbl b k hk).1,hg,ho⟩
  show Rep γ w ins uTop (args.getD i .undef) _
  by_cases hi:i < args.length
  ·have e1:args.getD i .undef=args[i]:=by simp[List.getD,ζd hi]
   have e2:(as++Array.replicate (fn.ntmps - as.size) undef).getD i undef=as[i]'(by omega):=by
    rw[ζW,Array.getElem?_append_left (by omega),ζg (by omega)];rfl
   rw[e1,e2]
   exact ha.2 i _ _ (ζd hi) (ζg (by omega))
  ·have e1:args.getD i .undef=.undef:=by rw[ζV,ξn (by omega)];rfl
   rw[e1];exact .undef _
 refine⟨trivial,fun c₀ cs hu hroom=>?_⟩
 let a0:Act:=⟨as++Array.replicate (fn.ntmps - as.size) undef,[]⟩
 let a1:Act:=a0.put (some t1) rv
 let a2:Act:=a1.put (some t2) rv
 let b:Frame:={ (default:Frame) with fn:=f,kind:=.deferred,roundOf:=none }
 have henter:Frame.enter P f as .deferred=b.atR a0 [.code (.seq (.region rid #[o0,o1] false) rest)]:=by
  simp[Frame.enter,Frame.atR,hf,hb,b,a0]
 have hs1:Sim G γ ((entry n args ins).put (some t1) (.ifc rv)) a1.tmps w:=hs.put (dst:=some t1) (by simpa[H2,entry] using ht1) (.data (.ifc rv hi))
 have hs2:Sim G γ (((entry n args ins).put (some t1) (.ifc rv)).put (some t2) (.ifc rv)) a2.tmps w:=hs1.put (dst:=some t2) (by simpa[H2,entry,St.put,St.setT] using ht2) (.data (.ifc rv hi))
 have e0:(execOp a0.eval o0).run P w=.ok .recover w:=by
  unfold execOp;rw[h0];rfl
 have ev1:a1.eval (.tmp t1)=rv:=by
  show a1.tmps.getD t1 undef=rv
  have hlt:t1 < a0.tmps.size:=by
   show t1 < (as++Array.replicate (fn.ntmps - as.size) undef).size
   simp only[Array.size_append,Array.size_replicate];omega
  show (a0.tmps.setIfInBounds t1 rv).getD t1 undef=rv
  simp[Array.getD,hlt]
 have e1:(execOp a1.eval o1).run P w=.ok (.value rv) w:=by
  unfold execOp;rw[h1]
  simp only[ζU,ev1]
 have w0:∀a:Act,Region.wanted o0 (yielded #[o0,o1] a.tmps)=true:=fun a=>by unfold Region.wanted;rw[h0g]
 have w1:∀a:Act,Region.wanted o1 (yielded #[o0,o1] a.tmps)=true:=fun a=>by unfold Region.wanted;rw[h1g]
 let c1:Frame:={ c₀ with mode:=u' }
 have hw:Code.wpSIn (RF none) 0 P (.seq (.region rid #[o0,o1] false) rest) (fun e a' cs' w'=>cs'=c1 :: cs∧O3 G ⟨none,[],true⟩ γ (((entry n args ins).put (some t1) (.ifc rv)).put (some t2) (.ifc rv)) w (fun e s=>(e=.normal∨e=.ret)∧∀b k,outs b=some k→s.b b=some k) e a' w') a0 (c₀ :: cs) w:=by
  refine wpSIn_seq (wpSIn_region ?_)
  show wpOpsSIn (RF none) 0 P #[o0,o1] _ [0,1] a0 (c₀ :: cs) w
  have tail:wpOpsSIn (RF none) 0 P #[o0,o1] (Exit.thenS (rest.wpSIn (RF none) 0 P (fun e a' cs' w'=>cs'=c1 :: cs∧O3 G ⟨none,[],true⟩ γ (((entry n args ins).put (some t1) (.ifc rv)).put (some t2) (.ifc rv)) w (fun e s=>(e=.normal∨e=.ret)∧∀b k,outs b=some k→s.b b=some k) e a' w')) (fun e a' cs' w'=>cs'=c1 :: cs∧O3 G ⟨none,[],true⟩ γ (((entry n args ins).put (some t1) (.ifc rv)).put (some t2) (.ifc rv)) w (fun e s=>(e=.normal∨e=.ret)∧∀b k,outs b=some k→s.b b=some k) e a' w')) [1] a1 (c1 :: cs) w:=by
   simp only[wpOpsSIn,show (#[o0,o1]:Array Oper)[1]?=some o1 from rfl,w1,if_true,e1,h1d]
   refine⟨fun _ _=>trivial,?_⟩
   show rest.wpSIn (RF none) 0 P _ a2 (c1 :: cs) w
   refine wpSIn_of_wpIn rfl (wpIn_mono (hB ⟨none,[],true⟩ γ a2 w hs2 ⟨rfl,rfl,fun _ h=>by simp at h⟩) fun e a' w' hl=>⟨rfl,hl⟩)
  rw[wpOpsSIn]
  simp only[show (#[o0,o1]:Array Oper)[0]?=some o0 from rfl,w0,if_true,e0,h0d]
  refine⟨fun _ _=>trivial,?_⟩
  rcases hr with⟨r1,r2,r3⟩|⟨v,older,r1,r2,r3⟩
  ·have hrec:recoverD (c₀ :: cs)=none:=by simp[recoverD,hu,r1]
   rw[hrec]
   have hc:c₀ :: cs=c1 :: cs:=by
    show c₀ :: cs=({ c₀ with mode:=u' }:Frame) :: cs
    rw[r3,←r1,←hu]
   rw[hc]
   subst r2
   exact tail
  ·have hrec:recoverD (c₀ :: cs)=some (v,c1 :: cs):=by simp[recoverD,hu,r1,c1,r3]
   rw[hrec]
   subst r2
   exact tail
 obtain⟨e,a',cs',w',hl,⟨rfl,hq⟩,harr⟩:=hw b [] rfl rfl trivial hroom
 rw[←henter] at harr
 obtain⟨s',γ',k1,⟨g1,p1⟩,⟨Ds,_,m1,m2,m3⟩,he,hout⟩:=hq
 simp only[ξk] at m1
 have ble:L1 γ' s'.b s'.u γ' outs (fun _=>true):=by
  refine⟨fun _ _=>rfl,fun b _ hn=>?_,fun b k hk=>⟨rfl,?_⟩⟩
  ·cases ho:outs b with
   | none=>rfl
   | some k=>rw[hout b k ho] at hn;simp at hn
  ·cases ho:outs b with
   | none=>exact .inl rfl
   | some k'=>
    have:=hout b k' ho
    rw[hk] at this;simp only[ζa] at this;subst this
    exact .inr ⟨_,rfl,rfl,fun _=>rfl,rfl⟩
 have fin:∀todo,StepsIn (Machine.fenced P (RF none)) P (lone (Frame.enter P f as .deferred) (c₀ :: cs) w) (lone { b.atR a' todo with mode:=.returning } (c1 :: cs) w')→
   ∃e u2 w' fr,(u2=u'∧∃v γ',e=.returned v∧Grow γ w γ' w'∧Pin γ ins uTop γ' outs (fun _=>true)∧(∀b k,outs b=some k→L2 γ' w' outs (fun _=>true) b k)∧(∀B x,γ'.own B=some x→B < w'.heap.size))∧
    ComesIn (Machine.fenced P (RF none)) P (lone (Frame.enter P f as .deferred) (c₀ :: cs) w) (lone fr ({ c₀ with mode:=u2 } :: cs) w') e∧fr.kind=.deferred∧fr.fn=f∧fr.going P w' e:=by
  intro todo hst
  obtain⟨w2,⟨i1,i2⟩,st2⟩:=marks_steps (P:=P) (fun w2=>Sim G γ' s' a'.tmps w2∧Grow γ w γ' w2) Ds { b.atR a' todo with mode:=.returning } (c1 :: cs) w' (by simp) m1 ⟨k1,g1⟩ m2 (fun D hD=>(m3 D hD).2.1) (fun D w7 hD hI hd=>
   ⟨(Y4.put hd rfl).sim hI.1,hI.2.put hd rfl (m3 D hD).1⟩)
  have hpin:Pin γ ins uTop γ' s'.b s'.u:=p1
  obtain⟨v,hv,_⟩:=run_resultsV (P:=P) i1 (show F7 P s' fn.results.toList=some (.tup []) by rw[hres];rfl)
  refine⟨.returned v,u',w2,{ { b.atR a' todo with mode:=.returning } with defers:=[] },⟨rfl,_,γ',rfl,i2,hpin.trans ble.pin,fun b k hk=>?_,i1.o⟩,StepsIn.trans hst st2,rfl,rfl,rfl,rfl,fn,hf,hv⟩
  ·rcases i1.b b k (hout b k hk) with h0|hm|⟨hM,B,o,cs,e,a1,a2,a3,a4,a5,a6,a7,a8⟩
   ·exact .inl h0
   ·exact .inr (.inl (hm.same rfl (fun B _ hB=>⟨hB,rfl⟩) fun c v hr=>hr.mono (.refl _ _) ble))
   refine .inr (.inr ⟨hM,B,o,cs,e,a1,a2,a3,a4,a5,fun i c hc=>?_,a7,a8⟩)
   obtain⟨x,b1,b2,b3,b4⟩:=a6 i c hc
   exact⟨x,b1,b2.mono (.refl _ _) ble,b3,b4⟩
 rcases he with rfl|rfl
 ·exact fin [] (StepsIn.trans harr (.one (RF.fenced _ _ _) (stepR_end rfl)))
 ·obtain⟨todo,hs⟩:=harr.1 rfl
  exact fin todo hs
end
structure Shape(P:Program)(G:Nat→Option (List V))(A ρ:Type) where
 f:FuncId
 args:A→List V
 X:A→Ext
 res:A→ρ→V
 O:A→ρ→Ext
 dt:List Nat
 hdt:∀a r,((O a r).bs.all fun p=>!dt.contains p.1 || (O a r).dt.contains p.1)=true
variable {P:Program} {G:Nat→Option (List V)} {A ρ:Type}
def Shape.OkO(s:Shape P G A ρ)(o:A→Option ρ):Prop:=∀a r,o a=some r→CallC P G s.f (s.args a) (ofL (s.X a).bs) (s.res a r) (ofL (s.O a r).bs)
abbrev Shape.R(s:Shape P G A ρ):Type:={o:A→Option ρ // s.OkO o}
def Shape.spec(s:Shape P G A ρ)(R:s.R)(a:A):Spec P G ρ:=
 ⟨s.f,s.args a,(s.X a).bs,R.1 a,s.res a,fun r=>(s.O a r).bs,s.dt,fun r p hp hd=>(s.O a r).dat p hp (by
  have:=ζE.1 (s.hdt a r) p hp
  simpa[hd] using this),R.2 a⟩
def Shape.fix(s:Shape P G A ρ)(next:s.R→A→Spec P G ρ)(hn:∀(R:s.R) (a:A) (r:ρ),(next R a).o=some r→CallC P G s.f (s.args a) (ofL (s.X a).bs) (s.res a r) (ofL (s.O a r).bs)):Nat→s.R
 | 0=>⟨fun _=>none,fun a r h=>by simp at h⟩
 | n+1=>⟨fun a=>(next (s.fix next hn n) a).o,fun a r h=>hn _ a r h⟩
end Go.EV
namespace Go.EV
open Go
theorem X8{a:Act}{dst:Option Nat}{v:Value}{t:Nat}(h:dst≠some t):(a.put dst v).tmps.getD t undef=a.tmps.getD t undef:=by
 cases dst with
 | none=>rfl
 | some d=>
  have hd:d≠t:=fun e=>h (by rw[e])
  show (a.tmps.setIfInBounds d v).getD t undef=_
  rw[ζW,ζW,Array.getElem?_setIfInBounds_ne hd]
theorem wpIn_frame{F:Fence}{n:Nat}{P:Program}{o:Oper}{a:Act}{w:World}{t:Nat}(hd:o.dst≠some t){K K':Act→World→Prop}{Q Q':Exit→Act→World→Prop}(h:o.wpIn F n P a w K Q)
  (hK:∀a' w',K a' w'→a'.tmps.getD t undef=a.tmps.getD t undef→K' a' w') (hQ:∀e a' w',e≠.normal→Q e a' w'→Q' e a' w'):o.wpIn F n P a w K' Q':=by
 unfold Oper.wpIn at *
 refine⟨h.1,?_⟩
 have hh:=h.2
 have lets:LetsOut Q→LetsOut Q':=fun⟨x,y,z⟩=>⟨x,y,hQ _ _ _ (by simp) z⟩
 generalize (o.semAt F.round a.eval).run P w=r at *
 cases r with
 | ok x w'=>
  cases x<;>simp only[Oper.uponIn] at hh ⊢ <;>
   first
    | exact hK _ _ hh (X8 hd)
    | exact⟨hh.1,CallsIn.mono hh.2 (fun e w'' he=>by cases e<;>first|exact hK _ _ he (X8 hd)|exact hQ _ _ _ (by simp) he|exact lets he)⟩
    | exact⟨hh.1,RowsIn.mono hh.2 (fun _ _ he=>hK _ _ he (X8 hd))⟩
    | exact⟨hh.1,RoundIn.mono hh.2 (fun e w'' he=>by cases e<;>first|exact hK _ _ he (X8 hd)|exact hQ _ _ _ (by simp) he|exact lets he)⟩
 | halt x w'=>cases x<;>simp only[Oper.uponIn] at hh ⊢<;>exact hQ _ _ _ (by simp) hh
theorem F4{F:Fence}{n:Nat}{P:Program}{ops:Array Oper}{t:Nat}{Q:Exit→Act→World→Prop}(ho:∀(i:Nat) (o:Oper),ops[i]?=some o→o.dst≠some t):∀(l:List Nat) (a:Act) (w:World),wpOpsIn F n P ops Q l a w→
  wpOpsIn F n P ops (fun e a' w'=>Q e a' w'∧(e=.normal→a'.tmps.getD t undef=a.tmps.getD t undef)) l a w
 | [],_,_,h=>⟨h,fun _=>rfl⟩
 | i :: rest,a,w,h=>by
  simp only[wpOpsIn] at h ⊢
  cases hi:ops[i]? with
  | none=>rw[hi] at h;simp only at h ⊢;exact F4 ho rest a w h
  | some o=>
   rw[hi] at h
   simp only at h ⊢
   split
   ·rename_i hw
    rw[if_pos hw] at h
    refine wpIn_frame (ho i o hi) h (fun a' w' hk he=>?_) (fun e a' w' hne hq=>⟨hq,fun e'=>absurd e' hne⟩)
    exact U9 (fun e a2 w2 hl=>⟨hl.1,fun e'=>(hl.2 e').trans he⟩) rest a' w' (F4 ho rest a' w' hk)
   ·rename_i hw
    rw[if_neg hw] at h
    exact⟨h.1,U9 (fun e a2 w2 hl=>⟨hl.1,fun e'=>(hl.2 e').trans (X8 (ho i o hi))⟩) rest _ w (F4 ho rest _ w h.2)⟩
theorem A4{ro:Option Nat}{P:Program}{o:Oper}{a:Act}{w w':World}{v:Value}{next:Act→World→Prop}{Q:Exit→Act→World→Prop}(hr:(execOp a.eval o).run P w=.ok (.value v) w')(hn:next (a.put o.dst v) w'):o.wpIn (RF ro) 0 P a w next Q:=by
 refine op_in ?_ ?_
 ·show o.upon P a _ _ _
  rw[hr,Oper.upon_value,U1]
 ·show o.upon P a _ _ _
  rw[hr,Oper.upon_value]
  exact hn
theorem Sim.putU{G:Nat→Option (List V)}{γ:Gh}{st:St}{a:Act}{w:World}(h:Sim G γ st a.tmps w){d:Nat}{v:Value}(hd:st.t d=.undef):Sim G γ st (a.put (some d) v).tmps w:=
 ⟨by show (a.tmps.setIfInBounds d v).size=_;rw[Array.size_setIfInBounds];exact h.n,fun i=>by
  by_cases hi:d=i
  ·subst hi;rw[hd];exact .undef _
  ·rw[X8 (fun e=>hi (by simpa using e))];exact h.t i,h.b,h.u,h.g,h.o⟩
theorem V2{a:Act}{d:Nat}{v:Value}(h:d < a.tmps.size):(a.put (some d) v).tmps.getD d undef=v:=by
 show (a.tmps.setIfInBounds d v).getD d undef=v
 rw[ζW,Array.getElem?_setIfInBounds_self_of_lt h];rfl
theorem putN{a:Act}{dst:Option Nat}{v:Value}:(a.put dst v).tmps.size=a.tmps.size:=by
 cases dst with
 | none=>rfl
 | some d=>exact Array.size_setIfInBounds
def G6{α σ:Type}(f:α→σ→Option σ):List α→σ→Option σ
 | [],s=>some s
 | x :: l,s=>(f x s).bind (G6 f l)
theorem foldB_perm{α σ:Type}{f:α→σ→Option σ}(hc:∀x y s,(f x s).bind (f y)=(f y s).bind (f x)){l l':List α}(h:l.Perm l'):∀s,G6 f l s=G6 f l' s:=by
 induction h with
 | nil=>intro s;rfl
 | cons x _ ih=>intro s;simp only[G6];congr 1;funext s';exact ih s'
 | swap x y l=>
  intro s
  simp only[G6]
  have e:∀(p q:α),((f p s).bind fun s'=>(f q s').bind (G6 f l))=((f p s).bind (f q)).bind (G6 f l):=fun p q=>by cases f p s<;>rfl
  show ((f y s).bind fun s'=>(f x s').bind (G6 f l))=((f x s).bind fun s'=>(f y s').bind (G6 f l))
  rw[e,e,hc]
 | trans _ _ ih1 ih2=>intro s;rw[ih1,ih2]
theorem left_perm{α:Type}(seen:Array Nat):∀(L:List (MapEntry×α)) (p:MapEntry×α),(L.map (·.1.born)).Nodup→p∈L→seen.contains p.1.born=false→
  ((L.filter fun q=>!seen.contains q.1.born).map (·.2)).Perm (p.2 :: ((L.filter fun q=>!(seen.push p.1.born).contains q.1.born).map (·.2)))
 | [],_,_,hp,_=>by simp at hp
 | q :: L,p,hn,hp,hs=>by
  simp only[ξf,List.nodup_cons] at hn
  have hc:∀(x:Nat),(seen.push p.1.born).contains x=(seen.contains x || x==p.1.born):=fun x=>by
   rw[Bool.eq_iff_iff]
   simp only[Array.contains_iff_mem,Array.mem_push,ζX,beq_iff_eq]
  rcases ζv.1 hp with rfl|hp
  ·have e:(L.filter fun q=>!(seen.push p.1.born).contains q.1.born)=L.filter fun q=>!seen.contains q.1.born:=by
    refine List.filter_congr fun q hq=>?_
    rw[hc]
    have:(q.1.born==p.1.born)=false:=by
     rw[ζY]
     exact fun e=>hn.1 (ζt.2 ⟨q,hq,e⟩)
    rw[this,Bool.or_false]
   rw[List.filter_cons,if_pos (by rw[hs];rfl),List.filter_cons,if_neg (by rw[hc];simp),e]
   exact List.Perm.refl _
  ·have ih:=left_perm seen L p hn.2 hp hs
   have hne:(q.1.born==p.1.born)=false:=by
    rw[ζY]
    exact fun e=>hn.1 (ζt.2 ⟨p,hp,e.symm⟩)
   have e2:(!(seen.push p.1.born).contains q.1.born)=(!seen.contains q.1.born):=by rw[hc,hne,Bool.or_false]
   rw[List.filter_cons,List.filter_cons,e2]
   split
   ·simp only[ξf]
    exact(ih.cons _).trans (List.Perm.swap _ _ _)
   ·exact ih
abbrev opsOf(ops:Array Oper):List (Op×Option Nat×Option (Nat×Bool)):=ops.toList.map fun o=>(o.op,o.dst,o.guard)
theorem R7{ops:Array Oper}{l:List (Op×Option Nat×Option (Nat×Bool))}(h:opsOf ops=l){j:Nat}{p:Op×Option Nat×Option (Nat×Bool)}(hp:l[j]?=some p):∃o,ops[j]?=some o∧o.op=p.1∧o.dst=p.2.1∧o.guard=p.2.2:=by
 subst h
 rw[ζo,ζb] at hp
 obtain⟨o,ho,rfl⟩:=hp
 exact⟨o,by rw[←Array.getElem?_toList];exact ho,rfl,rfl,rfl⟩
section
variable {P:Program} {G:Nat→Option (List V)}
theorem region2{ro:Option Nat}{id:Nat}{ops:Array Oper}{o0 o1:Oper}{Q:Exit→Act→World→Prop}{a:Act}{w:World}(hn:ops.size=2)(h0:ops[0]?=some o0)(h1:ops[1]?=some o1)(g0:o0.guard=none)(g1:o1.guard=none)
  (h:o0.wpIn (RF ro) 0 P a w (fun a' w'=>o1.wpIn (RF ro) 0 P a' w' (fun a2 w2=>Q .normal a2 w2) Q) Q):CW ro P (.region id ops false) Q a w:=by
 refine wpIn_region ?_
 rw[hn]
 show wpOpsIn (RF ro) 0 P ops Q [0,1] a w
 have w0:∀a:Act,Region.wanted o0 (yielded ops a.tmps)=true:=fun a=>by unfold Region.wanted;rw[g0]
 have w1:∀a:Act,Region.wanted o1 (yielded ops a.tmps)=true:=fun a=>by unfold Region.wanted;rw[g1]
 simp only[wpOpsIn,h0,h1,w0,w1,if_true]
 exact h
theorem TV.rangeMapC{σ α:Type}{ty:Ty α}{z b mt kt et n:Nat}{ex:Bool}{l:List α}{kd:IntKind}{fv:α→Int}{i29 i30 i31 B B2:Nat}{ops29 ops30 ops31:Array Oper}{C:Code}{tm t0 it tn tb te tw tv:Nat}{st:St}{S:σ→St}{body:α→σ→Option σ}{s0 r:σ}
  (h29:opsOf ops29=[(.move (.tmp tm),some t0,none),(.range mt (.tmp t0),some it,none)]) (h30:opsOf ops30=[(.next (.tmp it) false,some tn,none),(.extract (.tmp tn) 0,some tb,none)])
  (h31:opsOf ops31=[(.entry (.tmp it),some te,none),(.extract (.tmp te) 1,some tw,none),(.assign (.tmp tw),some tv,none)])
  (hne:it≠tn∧it≠tb∧it≠te∧it≠tw∧it≠tv∧it≠t0) (hlt:t0 < n∧it < n∧tn < n∧tb < n∧te < n∧tw < n∧tv < n)
  (hmt:P.underlying mt=some (.map kt et)) (hmz:mva z=false∧mvn z=1) (hM:W9≤z) (htm:st.t tm=.mp b) (hb:st.b b=some ⟨z,ex,l.map ty.c⟩) (hn:st.n=n) (hty:∀x,(ty.c x).drop (mkn z)=[.int kd (fv x)])
  (hS:∀s,(S s).n=n∧(S s).t it=.undef∧(S s).t tn=.undef∧(S s).t tb=.undef∧(S s).t te=.undef∧(S s).t tw=.undef∧(S s).t tv=.undef)
  (h0:Gst G (((st.setT t0 .undef).setT it .undef).delB b) (S s0))
  (hbody:∀x s s',body x s=some s'→∀(fx:Fx) (γ:Gh) (a:Act) (w:World),Sim G γ ((S s).setT tv (.int kd (fv x))) a.tmps w→FxOk fx γ a.defers w→
   CW fx.ro P C (fun e a' w'=>O3 G fx γ ((S s).setT tv (.int kd (fv x))) w (fun e st'=>e=.normal∧Gst G st' (S s')) e a' w'∧(e=.normal→a'.tmps.getD it undef=a.tmps.getD it undef)) a w)
  (hcomm:∀x y s,(body x s).bind (body y)=(body y s).bind (body x)) (hr:G6 body l s0=some r) :
  TV P G (.seq (.region i29 ops29 false) (.block B (.loop (.seq (.region i30 ops30 false) (.seq (.cond (.tmp tb) .skip (.exit B)) (.block B2 (.seq (.region i31 ops31 false) C))))))) st (fun e st'=>e=.normal∧st'=S r):=fun fx γ a w hs hx=>by
 obtain⟨n1,n2,n3,n4,n5,n6⟩:=hne
 obtain⟨l0,l1,l2,l3,l4,l5,l6⟩:=hlt
 obtain⟨o0,a0,b0,c0,d0⟩:=R7 h29 (j:=0) rfl
 obtain⟨o1,a1,b1,c1,d1⟩:=R7 h29 (j:=1) rfl
 obtain⟨p0,e0,f0,g0,k0⟩:=R7 h30 (j:=0) rfl
 obtain⟨p1,e1,f1,g1,k1⟩:=R7 h30 (j:=1) rfl
 obtain⟨q0,q0a,q0b,q0c,q0d⟩:=R7 h31 (j:=0) rfl
 obtain⟨q1,q1a,q1b,q1c,q1d⟩:=R7 h31 (j:=1) rfl
 obtain⟨q2,q2a,q2b,q2c,q2d⟩:=R7 h31 (j:=2) rfl
 have z29:ops29.size=2:=by have:=congrArg List.length h29;simpa using this
 have z30:ops30.size=2:=by have:=congrArg List.length h30;simpa using this
 have z31:ops31.size=3:=by have:=congrArg List.length h31;simpa using this
 have hmp:=hs.t tm
 rw[htm] at hmp
 obtain⟨bm,hmv,hloc⟩:∃bm,a.tmps.getD tm undef=.map (some bm)∧γ.loc b=some (bm,0):=by
  generalize a.tmps.getD tm undef=v at hmp
  cases hmp with
  | data h=>cases h
  | mp _ B k q1 q2 q3=>exact⟨B,rfl,q2⟩
  | deadMp _ _ q1=>rw[hb] at q1;simp at q1
 obtain⟨es,clock,hheap,hown,hes,hborn,hsz,hval⟩:∃es clock,w.heap[bm]?=some (.map es clock)∧γ.own bm=some (.blk b)∧EsOk z es∧Born es clock∧es.size=l.length∧∀(j:Nat) (x:α),l[j]?=some x→∃e,es[j]?=some e∧e.val=.int kd (fv x):=by
  rcases hs.b b _ hb with⟨h0,_⟩|⟨_,B',es,clock,q1,q2,q3,q4,q5,q6,q7⟩|hk
  ·rw[hloc] at h0;simp at h0
  ·rw[hloc] at q1;simp only[ζa,ζP,and_true] at q1
   subst q1
   refine⟨es,clock,q3,q2,q6.1,q6.2,by simpa using q4,fun j x hx=>?_⟩
   obtain⟨e,r1,_,r3⟩:=MapAt.row q4 q5 q6.1 q7 (i:=j) (r:=ty.c x) (by rw[ζo,hx];rfl)
   refine⟨e,r1,?_⟩
   rw[hty x,hmz.1] at r3
   exact r3.int_inv
  ·exact absurd hk.1 (Nat.not_lt_of_le hM)
 have hlen:es.toList.length=l.length:=by simpa using hsz
 let Z:List (MapEntry×α):=es.toList.zip l
 have hZn:(Z.map (·.1.born)).Nodup:=by
  have:Z.map (·.1.born)=(es.toList.map (·.born)):=by
   show (es.toList.zip l).map (fun q=>q.1.born)=_
   rw[show (fun q:MapEntry×α=>q.1.born)=(fun e:MapEntry=>e.born) ∘ Prod.fst from rfl,←ζq,List.map_fst_zip (by omega)]
  rw[this];exact hborn.1
 have hZv:∀p,p∈Z→p.1.val=.int kd (fv p.2):=fun p hp=>by
  obtain⟨j,hj⟩:=ζh.1 hp
  have hj':(es.toList.zip l)[j]?=some p:=hj
  rw[List.getElem?_zip_eq_some] at hj'
  obtain⟨e,r1,r2⟩:=hval j p.2 hj'.2
  rw[Array.getElem?_toList,r1] at hj'
  have:=ζR hj'.1
  rw[←this];exact r2
 have hZl:Z.map (·.2)=l:=List.map_snd_zip (by omega)
 have hZe:∀e,e∈es.toList→∃x,(e,x)∈Z:=fun e he=>by
  obtain⟨j,hj⟩:=ζh.1 he
  have hjl:j < l.length:=by rw[←hlen];exact(ζe.1 hj).1
  exact⟨l[j],ζi (i:=j) (by rw[List.getElem?_zip_eq_some];exact⟨hj,ζd hjl⟩)⟩
 let γ0:Gh:={ loc:=γ.loc,own:=fun B=>if B=bm then none else γ.own B,lim:=γ.lim }
 have hrelG:∀w',Grow γ w' γ0 w':=fun w'=>⟨rfl,rfl,rfl,ζK _,fun _ _ _ _ h=>h,fun _ _=>ζK _,fun B _ ho=>⟨rfl,by show (if B=bm then none else γ.own B)=none;split;rfl;exact ho,rfl⟩,fun _ cs _ fz h=>⟨cs,fz,h,rfl,.inl rfl⟩⟩
 have hbl:∀(t:Nat→V) (m:Nat),L1 γ (⟨m,t,st.b,st.u⟩:St).b st.u γ0 ((⟨m,t,st.b,st.u⟩:St).delB b).b ((⟨m,t,st.b,st.u⟩:St).delB b).u:=fun t m=>
  ⟨fun x hx'=>by simp only[St.delB];split<;>simp_all,fun x _ hn'=>by simp only[St.delB];split<;>simp_all,fun x q hq=>⟨by simp only[St.delB];split;rfl;exact hs.u x q hq,by
   by_cases hx':x=b
   ·exact .inl (by simp[St.delB,hx'])
   ·exact .inr ⟨q,by simp only[St.delB];rw[if_neg hx'];exact hq,rfl,fun _=>rfl,rfl⟩⟩⟩
 have hrel:∀(st1:St) (tm1:Array Value) (w1:World),st1.b=st.b→st1.u=st.u→Y4 w w1→w1.os=w.os→Sim G γ st1 tm1 w1→Sim G γ0 (st1.delB b) tm1 w1:=fun st1 tm1 w1 hbe hue hcs _ h=>by
  have bl:L1 γ st1.b st1.u γ0 (st1.delB b).b (st1.delB b).u:=by
   have:=hbl st1.t st1.n
   rw[←hbe,←hue] at this
   exact this
  have g:=hrelG w1
  refine⟨h.n,fun i=>(h.t i).mono g bl,fun x q hq=>?_,fun x q hq=>?_,h.g.grow g,fun B x hx'=>?_⟩
  ·have hxb:x≠b:=fun e=>by subst e;simp[St.delB] at hq
   have hq':st1.b x=some q:=by simpa[St.delB,hxb] using hq
   have hob:∀B,γ.own B=some (.blk x)→γ0.own B=some (.blk x):=fun B hB=>by
    show (if B=bm then none else γ.own B)=_
    rw[if_neg (fun e=>by rw[e,hown] at hB;simp at hB;exact hxb hB.symm)];exact hB
   have hon:∀B i j,γ.own B=some (.nest x i j)→γ0.own B=some (.nest x i j):=fun B i j hB=>by
    show (if B=bm then none else γ.own B)=_
    rw[if_neg (fun e=>by rw[e,hown] at hB;simp at hB)];exact hB
   rcases h.b x q hq' with v|hm|⟨hM',B,o,cs,e,a1,a2,a3,a4,a5,a6,a7,a8⟩
   ·exact .inl v
   ·exact .inr (.inl (hm.same rfl (fun B _ hB=>⟨hob B hB,rfl⟩) fun c v hr=>hr.mono g bl))
   ·refine .inr (.inr ⟨hM',B,o,cs,e,a1,hob B a2,a3,a4,a5,fun i c hc=>?_,a7,a8⟩)
    obtain⟨v,v1,v2,v3,v4⟩:=a6 i c hc
    exact⟨v,v1,v2.mono g bl,v3,v4.mono fun B' hB'=>⟨hon B' _ _ hB',ζK _⟩⟩
  ·have hxb:x≠b:=fun e=>by subst e;simp[St.delB] at hq
   have hq':st1.b x=some q:=by simpa[St.delB,hxb] using hq
   show (if x=b then true else st1.u x)=true
   rw[if_neg hxb];exact h.u x q hq'
  ·have:γ.own B=some x:=by
    have hx2:(if B=bm then none else γ.own B)=some x:=hx'
    split at hx2
    ·simp at hx2
    ·exact hx2
   exact h.o B x this
 have hbmlt:bm < w.heap.size:=(ζf.1 hheap).1
 refine wpIn_seq (region2 z29 a0 a1 d0 d1 ?_)
 have hat:a.tmps.size=n:=hs.n.trans hn
 have ev0:a.eval (.tmp tm)=.map (some bm):=hmv
 refine A4 (v:=.map (some bm)) (w':=w) (by simp only[execOp,b0];rw[ev0];rfl) ?_
 rw[c0]
 have ev1:(a.put (some t0) (.map (some bm))).eval (.tmp t0)=.map (some bm):=V2 (by rw[hat];exact l0)
 refine A4 (v:=.pointer (some ⟨w.heap.size,0,none⟩)) (w':=w.alloc (.mapIter (some bm) clock #[] clock)) (by
  simp only[execOp,b1]
  rw[ev1,ζT,run_range_map w mt kt et bm es clock hmt hheap];rfl) ?_
 rw[c1]
 have galloc:=Grow.alloc γ w (.mapIter (some bm) clock #[] clock)
 have hrAt:(w.alloc (.mapIter (some bm) clock #[] clock)).heap[w.heap.size]?=some (.mapIter (some bm) clock #[] clock):=World.alloc_heap_new w _
 have hmAt:(w.alloc (.mapIter (some bm) clock #[] clock)).heap[bm]?=some (.map es clock):=(V5 w _ bm hbmlt).trans hheap
 have s1:Sim G γ ((st.setT t0 .undef).setT it .undef) ((a.put (some t0) (.map (some bm))).put (some it) (.pointer (some ⟨w.heap.size,0,none⟩))).tmps (w.alloc (.mapIter (some bm) clock #[] clock)):=by
  refine galloc.2.sim ?_
  have hA:Sim G γ ((st.setT t0 .undef).setT it .undef) a.tmps w:=⟨hs.n,fun i=>by
   simp only[St.setT]
   split
   ·exact .undef _
   ·split
    ·exact .undef _
    ·exact hs.t i,hs.b,hs.u,hs.g,hs.o⟩
  refine Sim.putU (Sim.putU hA ?_) ?_
  ·simp only[St.setT];split<;>simp
  ·simp[St.setT]
 have s2:=hrel ((st.setT t0 .undef).setT it .undef) _ _ rfl rfl galloc.2 rfl s1
 obtain⟨γ1,s3,g3,pn3⟩:=h0 γ0 _ _ s2
 have hpin0:Pin γ st.b st.u γ0 (((st.setT t0 .undef).setT it .undef).delB b).b (((st.setT t0 .undef).setT it .undef).delB b).u:=(hbl ((st.setT t0 .undef).setT it .undef).t st.n).pin
 have hgr:Grow γ w γ1 (w.alloc (.mapIter (some bm) clock #[] clock)):=(galloc.1.trans (hrelG _)).trans g3
 have hpin:Pin γ st.b st.u γ1 (S s0).b (S s0).u:=hpin0.trans pn3
 have hownr:γ1.own w.heap.size=none:=by
  refine(g3.free w.heap.size ?_ ?_).2.1
  ·exact(ζf.1 hrAt).1
  ·show (if w.heap.size=bm then none else γ.own w.heap.size)=none
   split
   ·rfl
   ·cases ho:γ.own w.heap.size with
    | none=>rfl
    | some x=>have:=hs.o _ x ho;omega
 have hownb:γ1.own bm=none:=(g3.free bm (by have:=(ζf.1 hmAt).1;exact this) (by show (if bm=bm then none else _)=none;rw[if_pos rfl])).2.1
 have hit:((a.put (some t0) (.map (some bm))).put (some it) (.pointer (some ⟨w.heap.size,0,none⟩))).tmps.getD it undef=.pointer (some ⟨w.heap.size,0,none⟩):=V2 (by rw[putN,hat];exact l1)
 have hdef:((a.put (some t0) (.map (some bm))).put (some it) (.pointer (some ⟨w.heap.size,0,none⟩))).defers=fx.ds:=by rw[U1,U1];exact hx.1
 show CW fx.ro P (.block B (.loop _)) (O3 G fx γ st w _) _ _
 refine wpIn_block ?_
 refine cw_loopN (fun m a' w'=>∃(s:σ) (γ':Gh) (seen:Array Nat) (c0:Nat),Sim G γ' (S s) a'.tmps w'∧(Grow γ w γ' w'∧Pin γ st.b st.u γ' (S s).b (S s).u)∧C0 fx.mx w γ' w' fx.ds a'.defers∧a'.tmps.getD it undef=.pointer (some ⟨w.heap.size,0,none⟩)∧
   w'.heap[w.heap.size]?=some (.mapIter (some bm) clock seen c0)∧w'.heap[bm]?=some (.map es clock)∧γ'.own w.heap.size=none∧γ'.own bm=none∧clock≤c0∧G6 body ((Z.filter fun q=>!seen.contains q.1.born).map (·.2)) s=some r∧(Z.filter fun q=>!seen.contains q.1.born).length=m)
  (fun m a' w' hI=>?_) _ _ _ ⟨s0,γ1,#[],clock,s3,⟨hgr,hpin⟩,.of hdef,hit,hrAt,hmAt,hownr,hownb,ζK _,by
   have:(Z.filter fun q=>!(#[]:Array Nat).contains q.1.born)=Z:=List.filter_eq_self.2 fun q _=>by simp
   rw[this,hZl];exact hr,rfl⟩
 obtain⟨s,γ',seen,cl,i1,⟨i2,i2p⟩,i3,i4,i5,i6,i7,i8,i9,i10,i11⟩:=hI
 obtain⟨u0,u1,u2,u3,u4,u5,u6⟩:=hS s
 have hat':a'.tmps.size=n:=i1.n.trans u0
 have hold:∀x,x∈es.toList→x.born < clock:=hborn.2
 have evI:a'.eval (.tmp it)=.pointer (some ⟨w.heap.size,0,none⟩):=i4
 refine wpIn_seq (region2 z30 e0 e1 k0 k1 ?_)
 have oex:∀v:Value,(a'.put (some tn) v).eval (.tmp tn)=v:=fun v=>V2 (by rw[hat'];exact l2)
 have hfx:∀(a2:Act),a2.defers=a'.defers→True:=fun _ _=>trivial
 rcases run_next_at (P:=P) w' p0.type w.heap.size bm clock cl seen es clock i5 i6 hold i9 with⟨hz,hrun⟩|⟨e,he,w1,hw1,hrun⟩
 ·
  refine A4 (v:=.tuple #[.bool false]) (w':=w') (by simp only[execOp,f0];rw[evI,ζT,hrun];rfl) ?_
  rw[g0]
  refine A4 (v:=.bool false) (w':=w') (by simp only[execOp,f1];rw[oex];rfl) ?_
  rw[g1]
  show CW fx.ro P (.seq _ _) _ _ _
  have s4:Sim G γ' (S s) ((a'.put (some tn) (.tuple #[.bool false])).put (some tb) (.bool false)).tmps w':=Sim.putU (Sim.putU i1 u2) u3
  refine wpIn_seq (wpIn_cond (t:=false) (V2 (by rw[putN,hat'];exact l3)) (wpIn_exit ?_))
  have hnil:(Z.filter fun q=>!seen.contains q.1.born)=[]:=by
   refine List.filter_eq_nil_iff.2 fun q hq=>?_
   have hqe:q.1∈es.toList:=List.of_mem_zip hq |>.1
   have hl0:leftOf es seen=#[]:=Array.eq_empty_of_size_eq_zero hz
   have:q.1∉(leftOf es seen):=by rw[hl0];simp
   unfold leftOf at this
   simp only[Array.mem_filter,not_and,ζB] at this
   have h3:=this (Array.mem_toList_iff.1 hqe)
   simpa using h3
  rw[hnil] at i10
  simp only[List.map_nil,G6,ζa] at i10
  subst i10
  show Exit.inBlock B _ (.exit B) _ _
  simp only[Exit.inBlock,if_true]
  exact⟨S s,γ',s4,⟨i2,i2p⟩,by rw[U1,U1];exact i3,rfl,rfl⟩
 ·
  have heL:e∈es.toList∧seen.contains e.born=false:=by
   unfold leftOf at he
   rw[Array.mem_toList_iff,Array.mem_filter] at he
   exact⟨Array.mem_toList_iff.2 he.1,by simpa using he.2⟩
  obtain⟨x,hxZ⟩:=hZe e heL.1
  have hperm:=left_perm seen Z (e,x) hZn hxZ heL.2
  rw[foldB_perm hcomm hperm] at i10
  simp only[G6] at i10
  obtain⟨s',hs',hrest⟩:=ζc.1 i10
  have hwh:w1.heap=w'.heap∧w1.os=w'.os∧w1.tape=w'.tape∧w1.output=w'.output:=by rcases hw1 with rfl|rfl<;>exact⟨rfl,rfl,rfl,rfl⟩
  have hcs1:Y4 w' w1:=⟨by rw[hwh.1];exact ζK _,fun B cs e fz hb=>by rw[hwh.1];exact hb,fun B es c hb=>by rw[hwh.1];exact hb⟩
  have hr1:w1.heap[w.heap.size]?=some (.mapIter (some bm) clock seen cl):=by rw[hwh.1];exact i5
  let w2:World:=w1.putObj w.heap.size (.mapIter (some bm) clock (seen.push e.born) clock)
  have hw2:ChangeMaps.setBlock w1 w.heap.size (.mapIter (some bm) clock (seen.push e.born) clock)=w2:=rfl
  have hcs2:Y4 w1 w2:=Y4.put hr1 rfl
  have g1':Grow γ w γ' w1:=i2.same hcs1 (fun B _=>by rw[hwh.1]) hwh.2.1 hwh.2.2.1 hwh.2.2.2
  have g2':Grow γ w γ' w2:=g1'.put hr1 rfl (ζK _)
  have hr2:w2.heap[w.heap.size]?=some (.mapIter (some bm) clock (seen.push e.born) clock):=World.putObj_heap_same (ζf.1 hr1).1
  have hm2:w2.heap[bm]?=some (.map es clock):=by
   have:bm≠w.heap.size:=by omega
   rw[show w2.heap[bm]?=w1.heap[bm]? from World.putObj_heap_other this,hwh.1];exact i6
  rw[hw2] at hrun
  refine A4 (v:=.tuple #[.bool true,e.key,e.val]) (w':=w2) (by simp only[execOp,f0];rw[evI,ζT,hrun];rfl) ?_
  rw[g0]
  refine A4 (v:=.bool true) (w':=w2) (by simp only[execOp,f1];rw[oex];rfl) ?_
  rw[g1]
  show CW fx.ro P (.seq _ _) _ _ _
  let a2:Act:=(a'.put (some tn) (.tuple #[.bool true,e.key,e.val])).put (some tb) (.bool true)
  have s4:Sim G γ' (S s) a2.tmps w2:=Sim.putU (Sim.putU ((hcs2.sim (hcs1.sim i1))) u2) u3
  have hat2:a2.tmps.size=n:=s4.n.trans u0
  have hit2:a2.tmps.getD it undef=.pointer (some ⟨w.heap.size,0,none⟩):=by
   rw[X8 (fun h=>n2 (by simpa using h.symm)),X8 (fun h=>n1 (by simpa using h.symm))];exact i4
  have hd2:a2.defers=a'.defers:=by rw[U1,U1]
  refine wpIn_seq (wpIn_cond (t:=true) (V2 (by rw[putN,hat'];exact l3)) (wpIn_skip ?_))
  show CW fx.ro P (.block B2 _) _ _ _
  refine wpIn_block (wpIn_seq (wpIn_region ?_))
  rw[z31]
  show wpOpsIn (RF fx.ro) 0 P ops31 _ [0,1,2] a2 w2
  have v0:∀a:Act,Region.wanted q0 (yielded ops31 a.tmps)=true:=fun a=>by unfold Region.wanted;rw[q0d]
  have v1:∀a:Act,Region.wanted q1 (yielded ops31 a.tmps)=true:=fun a=>by unfold Region.wanted;rw[q1d]
  have v2:∀a:Act,Region.wanted q2 (yielded ops31 a.tmps)=true:=fun a=>by unfold Region.wanted;rw[q2d]
  simp only[wpOpsIn,q0a,q1a,q2a,v0,v1,v2,if_true]
  have hent:=run_entry_at (P:=P) w2 w.heap.size bm clock seen es clock e hr2 hm2 heL.1 hborn.1
  have ev2:a2.eval (.tmp it)=.pointer (some ⟨w.heap.size,0,none⟩):=hit2
  refine A4 (v:=.tuple #[e.key,e.val]) (w':=w2) (by simp only[execOp,q0b];rw[ev2,ζT,hent];rfl) ?_
  rw[q0c]
  have ev3:(a2.put (some te) (.tuple #[e.key,e.val])).eval (.tmp te)=.tuple #[e.key,e.val]:=V2 (by rw[hat2];exact l4)
  refine A4 (v:=e.val) (w':=w2) (by simp only[execOp,q1b];rw[ev3];rfl) ?_
  rw[q1c]
  have ev4:((a2.put (some te) (.tuple #[e.key,e.val])).put (some tw) e.val).eval (.tmp tw)=e.val:=V2 (by rw[putN,hat2];exact l5)
  refine A4 (v:=e.val) (w':=w2) (by simp only[execOp,q2b];rw[ev4];rfl) ?_
  rw[q2c]
  let a3:Act:=((a2.put (some te) (.tuple #[e.key,e.val])).put (some tw) e.val).put (some tv) e.val
  have s5:Sim G γ' (S s) ((a2.put (some te) (.tuple #[e.key,e.val])).put (some tw) e.val).tmps w2:=Sim.putU (Sim.putU s4 u4) u5
  have hev:e.val=.int kd (fv x):=hZv (e,x) hxZ
  have s6:Sim G γ' ((S s).setT tv (.int kd (fv x))) a3.tmps w2:=by
   have:=s5.put (dst:=some tv) (c:=.int kd (fv x)) (v:=e.val) (by simp only[H2,u0];simpa using l6) (by rw[hev];exact .data (.int _ _))
   exact this
  have hd3:a3.defers=a'.defers:=by show (((a2.put _ _).put _ _).put _ _).defers=_;rw[U1,U1,U1];exact hd2
  have hit3:a3.tmps.getD it undef=.pointer (some ⟨w.heap.size,0,none⟩):=by
   show (((a2.put _ _).put _ _).put _ _).tmps.getD it undef=_
   rw[X8 (fun h=>n5 (by simpa using h.symm)),X8 (fun h=>n4 (by simpa using h.symm)),X8 (fun h=>n3 (by simpa using h.symm))];exact hit2
  show CW fx.ro P C _ a3 w2
  have hx3:FxOk ⟨fx.ro,a3.defers,fx.mx⟩ γ' a3.defers w2:=by
   have:=(hx.step (w':=w2) (ds':=a3.defers) g2')
   exact this
  refine wpIn_mono (hbody x s s' hs' ⟨fx.ro,a3.defers,fx.mx⟩ γ' a3 w2 s6 hx3) fun e5 a5 w5 hl=>?_
  obtain⟨⟨st5,γ5,k1',⟨k2,k2p⟩,k3,rfl,k4⟩,k5⟩:=hl
  obtain⟨γ6,m1,m2,m3⟩:=k4 γ5 a5.tmps w5 k1'
  have k5':=k5 rfl
  have hrlt:w.heap.size < w2.heap.size:=(ζf.1 hr2).1
  have hblt:bm < w2.heap.size:=(ζf.1 hm2).1
  obtain⟨x1,x2,_⟩:=(k2.trans m2).free w.heap.size hrlt i7
  obtain⟨y1,y2,_⟩:=(k2.trans m2).free bm hblt i8
  have hmk:C0 fx.mx w γ' w2 fx.ds a3.defers:=by
   rw[hd3]
   obtain⟨Ds,b0',b1',b2',b3'⟩:=i3
   refine⟨Ds,b0',b1',b2',fun D hD=>?_⟩
   obtain⟨t1,t2,t3⟩:=b3' D hD
   refine⟨t1,?_,t3⟩
   have hDr:D≠w.heap.size:=fun e'=>by rw[e',i5] at t2;cases t2
   rw[show w2.heap[D]?=w1.heap[D]? from World.putObj_heap_other hDr,hwh.1];exact t2
  have hmk2:C0 fx.mx w γ6 w5 fx.ds a5.defers:=by
   have h1:w.heap.size≤w2.heap.size:=by omega
   exact(hmk.trans k2 k3 h1).trans m2 (.of rfl) (Nat.le_trans h1 k2.size)
  have pr:Pin γ st.b st.u γ6 (S s').b (S s').u:=(i2p.trans (k2p.trans m3))
  show Exit.inBlock B2 _ .normal a5 w5
  refine⟨(Z.filter fun q=>!(seen.push e.born).contains q.1.born).length,?_,s',γ6,seen.push e.born,clock,m1,⟨(g2'.trans k2).trans m2,pr⟩,hmk2,k5'.trans hit3,x1.trans hr2,y1.trans hm2,x2,y2,ζK _,hrest,rfl⟩
  rw[←i11]
  have:=hperm.length_eq
  simp only[ζs,ξj] at this
  omega
theorem TV.rangeMap{σ α:Type}{ty:Ty α}{z b mt kt et n:Nat}{ex:Bool}{l:List α}{kd:IntKind}{fv:α→Int}{i29 i30 i31 i32 B B2:Nat}{ops29 ops30 ops31 ops32:Array Oper}{tm t0 it tn tb te tw tv:Nat}{st:St}{S:σ→St}{body:α→σ→Option σ}{s0 r:σ}
  (h29:opsOf ops29=[(.move (.tmp tm),some t0,none),(.range mt (.tmp t0),some it,none)]) (h30:opsOf ops30=[(.next (.tmp it) false,some tn,none),(.extract (.tmp tn) 0,some tb,none)])
  (h31:opsOf ops31=[(.entry (.tmp it),some te,none),(.extract (.tmp te) 1,some tw,none),(.assign (.tmp tw),some tv,none)]) (h32:(opsOf ops32).all (fun p=>p.2.1 != some it)=true)
  (hne:it≠tn∧it≠tb∧it≠te∧it≠tw∧it≠tv∧it≠t0) (hlt:t0 < n∧it < n∧tn < n∧tb < n∧te < n∧tw < n∧tv < n)
  (hmt:P.underlying mt=some (.map kt et)) (hmz:mva z=false∧mvn z=1) (hM:W9≤z) (htm:st.t tm=.mp b) (hb:st.b b=some ⟨z,ex,l.map ty.c⟩) (hn:st.n=n) (hty:∀x,(ty.c x).drop (mkn z)=[.int kd (fv x)])
  (hS:∀s,(S s).n=n∧(S s).t it=.undef∧(S s).t tn=.undef∧(S s).t tb=.undef∧(S s).t te=.undef∧(S s).t tw=.undef∧(S s).t tv=.undef)
  (h0:Gst G (((st.setT t0 .undef).setT it .undef).delB b) (S s0))
  (hbody:∀x s s',body x s=some s'→H3 P G ops32 (List.range ops32.size) ((S s).setT tv (.int kd (fv x))) (fun e st'=>e=.normal∧Gst G st' (S s')))
  (hcomm:∀x y s,(body x s).bind (body y)=(body y s).bind (body x)) (hr:G6 body l s0=some r) :
  TV P G (.seq (.region i29 ops29 false) (.block B (.loop (.seq (.region i30 ops30 false) (.seq (.cond (.tmp tb) .skip (.exit B)) (.block B2 (.seq (.region i31 ops31 false) (.region i32 ops32 false)))))))) st (fun e st'=>e=.normal∧st'=S r):=by
 have f32:∀(i:Nat) (o:Oper),ops32[i]?=some o→o.dst≠some it:=fun i o ho=>by
  have hm:(o.op,o.dst,o.guard)∈opsOf ops32:=ζt.2 ⟨o,Array.mem_toList_iff.2 (Array.mem_of_getElem? ho),rfl⟩
  have:=ζE.1 h32 _ hm
  simpa using this
 exact TV.rangeMapC (C:=.region i32 ops32 false) h29 h30 h31 hne hlt hmt hmz hM htm hb hn hty hS h0 (fun x s s' hs' fx γ a w hs hx=>wpIn_region (F4 f32 _ _ _ (hbody x s s' hs' fx γ a w hs hx))) hcomm hr
theorem rangeMap_look{st st':St}{id it tb:Nat}{ops:Array Oper}{X:Code}(hf:(opsOf ops).all (fun p=>p.2.1 != some it)=true){Q:Exit→St→Prop}(h:H3 P G ops (List.range ops.size) st (fun e st1=>e=.normal∧Gst G st1 st'))(hb:st'.t tb=.bool false)
  (hq:Q .normal st'):∀(fx:Fx) (γ:Gh) (a:Act) (w:World),Sim G γ st a.tmps w→FxOk fx γ a.defers w→
   CW fx.ro P (.seq (.region id ops false) (.cond (.tmp tb) X .skip)) (fun e a' w'=>O3 G fx γ st w Q e a' w'∧(e=.normal→a'.tmps.getD it undef=a.tmps.getD it undef)) a w:=fun fx γ a w hs hx=>by
 have f:∀(i:Nat) (o:Oper),ops[i]?=some o→o.dst≠some it:=fun i o ho=>by
  have hm:(o.op,o.dst,o.guard)∈opsOf ops:=ζt.2 ⟨o,Array.mem_toList_iff.2 (Array.mem_of_getElem? ho),rfl⟩
  have:=ζE.1 hf _ hm
  simpa using this
 refine wpIn_seq (wpIn_mono (wpIn_region (F4 f _ _ _ (h fx γ a w hs hx))) fun e a' w' hl=>?_)
 obtain⟨⟨st5,γ5,k1,⟨k2,k2p⟩,k3,rfl,k4⟩,k5⟩:=hl
 obtain⟨γ6,m1,m2,m3⟩:=k4 γ5 a'.tmps w' k1
 have hv:=m1.t tb
 rw[hb] at hv
 show CW fx.ro P (.cond (.tmp tb) X .skip) _ a' w'
 refine wpIn_cond (t:=false) (hv.bool_inv) (wpIn_skip ?_)
 exact⟨⟨st',γ6,m1,⟨k2.trans m2,k2p.trans m3⟩,k3.trans m2 (.of rfl) (by have:=k2.size;omega),hq⟩,fun _=>k5 rfl⟩
end
def okK(ops:Array Oper)(k:Nat)(p:J0):Bool:=
 let ms:=masks ops.toList
 (List.range k).all fun i=>(List.range i).all fun j=>
  (ms.getD i 0).testBit j || (G1 (p.ws j) (p.rs i)&&G1 (p.ws i) (p.rs j)&&G1 (p.ws i) ((p.ws j).map Wr.loc))
def cutK(ops:Array Oper)(k:Nat):Bool:=
 let ms:=masks ops.toList
 (List.range ops.size).all fun i=>decide (i < k) || (List.range k).all fun j=>(ms.getD i 0).testBit j
def backK(ops:Array Oper):Bool:=ops.toList.zipIdx.all fun x=>x.1.after.all fun e=>!Region.binds .any e || decide (e.on < x.2)
theorem filter_behind(k:Nat):∀n,((List.range n).filter fun i=>!decide (i < k)).length=n - k
 | 0=>by simp
 | n+1=>by
  rw[List.range_succ,List.filter_append,ζn,filter_behind k n]
  by_cases h:n < k
  ·simp[h];omega
  ·simp[h];omega
theorem wpAny_cut{P:Program}{G:Nat→Option (List V)}{ops:Array Oper}{st:St}{p:J0}{k:Nat}(hk:k≤ops.size)(hp:okK ops k p=true)
  (hback:∀i o,ops[i]?=some o→∀e,e∈o.after→Region.binds .any e=true→e.on < i) (hcut:cutK ops k=true)
  (hstep:∀i,i < k→A3 P G ops i (p.st (fun j=>decide (j < i)) st k) (p.rs i) (p.ws i))
  {fx:Fx} {γ0:Gh} {w0:World} {Q':Exit→Act→World→Prop}
  (hq:∀(listed:Array Bool) (γ:Gh) (a:Act) (w:World),listed.size=ops.size→(∀i,i < ops.size→listed.getD i true=decide (i < k)∧listed.getD i false=decide (i < k))→Sim G γ (p.st (fun _=>true) st k) a.tmps w→
   (Grow γ0 w0 γ w∧Pin γ0 st.b st.u γ (p.st (fun _=>true) st k).b (p.st (fun _=>true) st k).u)→a.defers=fx.ds→wpAnyIn (RF fx.ro) 0 P .any ops Q' (ops.size - k) listed a w) :
  ∀(M1:Nat) (D:Nat→Bool) (listed:Array Bool) (γ:Gh) (a:Act) (w:World),listed.size=ops.size→(∀i,i < ops.size→listed.getD i true=D i∧listed.getD i false=D i)→(∀i,D i=true→i < k)→Closed ops D→
   ((List.range ops.size).filter fun i=>!D i).length=M1→Sim G γ (p.st D st k) a.tmps w→(Grow γ0 w0 γ w∧Pin γ0 st.b st.u γ (p.st D st k).b (p.st D st k).u)→a.defers=fx.ds→
   wpAnyIn (RF fx.ro) 0 P .any ops Q' M1 listed a w:=by
 have pair:∀i j,i < k→j < i→((masks ops.toList).getD i 0).testBit j=true∨(G1 (p.ws j) (p.rs i)=true∧G1 (p.ws i) (p.rs j)=true∧G1 (p.ws i) ((p.ws j).map Wr.loc)=true):=by
  intro i j hi hj
  unfold okK at hp
  have:=ζE.1 (ζE.1 hp i (by simpa using hi)) j (by simpa using hj)
  simp only[ζX,ζA] at this
  rcases this with h|⟨⟨h1,h2⟩,h3⟩
  ·exact .inl h
  ·exact .inr ⟨h1,h2,h3⟩
 have readyD:∀(D:Nat→Bool) (listed:Array Bool),(∀i,i < ops.size→listed.getD i true=D i∧listed.getD i false=D i)→listed.size=ops.size→∀i,i∈Region.ready .any ops listed→i < ops.size∧D i=false∧∀o,ops[i]?=some o→∀e,e∈o.after→Region.binds .any e=true→D e.on=true:=by
  intro D listed hl hsz i hi
  obtain⟨h0,o,ho,hall⟩:=mem_ready.1 hi
  have hlt:=(ζf.1 ho).1
  refine⟨hlt,by rw[←(hl i hlt).1];exact h0,fun o' ho' e he hb=>?_⟩
  rw[ho] at ho';simp only[ζa] at ho';subst ho'
  have h1:=hall e he hb
  have hlt2:e.on < ops.size:=by
   rcases ζN e.on ops.size with h|h
   ·exact h
   ·rw[ζW,Array.getElem?_eq_none (by omega)] at h1;simp at h1
  rw[←(hl e.on hlt2).2];exact h1
 have none_ready:∀(D:Nat→Bool) (listed:Array Bool),(∀i,i < ops.size→listed.getD i true=D i∧listed.getD i false=D i)→Region.ready .any ops listed=[]→∀i,i < ops.size→D i=true:=by
  intro D listed hl hr i
  induction i using Nat.strongRecOn with
  | _ i ih=>
   intro hi
   cases hd:D i with
   | true=>rfl
   | false=>
    exfalso
    have:i∈Region.ready .any ops listed:=mem_ready.2 ⟨by rw[(hl i hi).1];exact hd,ops[i],ζg hi,fun e he hb=>by
     have hb':=hback i _ (ζg hi) e he hb
     rw[(hl e.on (by omega)).2]
     exact ih e.on hb' (by omega)⟩
    rw[hr] at this;simp at this
 have full:∀(D:Nat→Bool) (listed:Array Bool) (γ:Gh) (a:Act) (w:World) (M1:Nat),listed.size=ops.size→(∀i,i < ops.size→listed.getD i true=D i∧listed.getD i false=D i)→(∀i,D i=true→i < k)→(∀i,i < k→D i=true)→
   ((List.range ops.size).filter fun i=>!D i).length=M1→Sim G γ (p.st D st k) a.tmps w→(Grow γ0 w0 γ w∧Pin γ0 st.b st.u γ (p.st D st k).b (p.st D st k).u)→a.defers=fx.ds→wpAnyIn (RF fx.ro) 0 P .any ops Q' M1 listed a w:=by
  intro D listed γ a w M1 hsz hl hin hall hf hs hg hd
  have e:p.st D st k=p.st (fun _=>true) st k:=J0.st_congr p st _ hall
  have eD:∀i,D i=decide (i < k):=fun i=>by
   cases hi:D i with
   | true=>simp[hin i hi]
   | false=>
    have:¬i < k:=fun h=>by rw[hall i h] at hi;simp at hi
    simp[this]
  have ef:((List.range ops.size).filter fun i=>!D i)=(List.range ops.size).filter fun i=>!decide (i < k):=by
   congr 1;funext i;rw[eD i]
  rw[ef,filter_behind] at hf
  subst hf
  rw[e] at hs hg
  exact hq listed γ a w hsz (fun i hi=>by rw[←eD i];exact hl i hi) hs hg hd
 have ltK:∀(D:Nat→Bool),Closed ops D→(∀i,D i=true→i < k)→¬(∀i,i < k→D i=true)→∀i,i < ops.size→(∀o,ops[i]?=some o→∀e,e∈o.after→Region.binds .any e=true→D e.on=true)→i < k:=by
  intro D hc hin hnf i hlt hpre
  rcases ζN i k with h|h
  ·exact h
  ·refine absurd (fun j hj=>?_) hnf
   unfold cutK at hcut
   have:=ζE.1 hcut i (by simpa using hlt)
   simp only[ζX,ζF] at this
   have hm:=ζE.1 (this.resolve_left (by omega)) j (by simpa using hj)
   exact D5 hc (fun i hi=>ζM (hin i hi) hk) (i+1) i (by omega) _ (ζg hlt) (.inr (hpre _ (ζg hlt))) hm
 intro M1
 induction M1 with
 | zero=>
  intro D listed γ a w hsz hl hin hc hf hs hg hd
  have hall:∀i,i < k→D i=true:=by
   intro i hi
   cases hdi:D i with
   | true=>rfl
   | false=>
    exfalso
    have:i∈(List.range ops.size).filter fun i=>!D i:=List.mem_filter.2 ⟨by simp;omega,by simp[hdi]⟩
    have h0:(List.range ops.size).filter (fun i=>!D i)=[]:=ζS.1 (by omega)
    rw[h0] at this;simp at this
  exact full D listed γ a w 0 hsz hl hin hall hf hs hg hd
 | succ M1 ih=>
  intro D listed γ a w hsz hl hin hc hf hs hg hd
  by_cases hall:∀i,i < k→D i=true
  ·exact full D listed γ a w (M1+1) hsz hl hin hall hf hs hg hd
  refine⟨fun hr=>absurd (fun i hi=>none_ready D listed hl hr i (by omega)) hall,fun i hi=>?_⟩
  obtain⟨hlt,hDi,hpre⟩:=readyD D listed hl hsz i hi
  have hik:=ltK D hc hin hall i hlt hpre
  have hin':∀i,D i=true→i < ops.size:=fun i h=>ζM (hin i h) hk
  have ho:ops[i]?=some ops[i]:=ζg hlt
  have hagree:∀l,l∈p.rs i→F2 (p.st (fun j=>decide (j < i)) st k) (p.st D st k) l:=by
   intro l hlr
   refine J0.agree p D st i k fun j hj=>?_
   by_cases hji:j=i
   ·subst hji
    exact .inl ⟨fun h=>by omega,fun h=>by rw[hDi] at h;simp at h⟩
   ·by_cases hlt':j < i
    ·rcases pair i j hik hlt' with hm|⟨h1,_,_⟩
     ·have hDj:D j=true:=D5 hc hin' (i+1) i (by omega) _ ho (.inr (hpre _ ho)) hm
      exact .inl ⟨fun _=>hDj,fun _=>hlt'⟩
     ·exact .inr (G8 h1 hlr)
    ·rcases pair j i hj (by omega) with hm|⟨_,h2,_⟩
     ·refine .inl ⟨fun h=>absurd h hlt',fun hDj=>?_⟩
      have hoj:ops[j]?=some ops[j]:=ζg (by omega)
      have:=D5 hc hin' (j+1) j (by omega) _ hoj (.inl hDj) hm
      rw[hDi] at this;simp at this
     ·exact .inr (G8 h2 hlr)
  have hst:=hstep i hik (p.st D st k) (by simp[J0.st_n]) hagree
  have hins:(p.st D st k).app (p.ws i)=p.st (fun j=>D j || decide (j=i)) st k:=J0.insert p D st i hDi k hik fun j h1 h2 h3=>by
   rcases pair j i h2 h1 with hm|⟨_,_,h3'⟩
   ·exfalso
    have hoj:ops[j]?=some ops[j]:=ζg (by omega)
    have:=D5 hc hin' (j+1) j (by omega) _ hoj (.inl h3) hm
    rw[hDi] at this;simp at this
   ·exact h3'
  rw[hins] at hst
  have next:∀(a':Act) (w':World) (γ':Gh),Sim G γ' (p.st (fun j=>D j || decide (j=i)) st k) a'.tmps w'→Grow γ w γ' w'→Pin γ (p.st D st k).b (p.st D st k).u γ' (p.st (fun j=>D j || decide (j=i)) st k).b (p.st (fun j=>D j || decide (j=i)) st k).u→a'.defers=fx.ds→
    wpAnyIn (RF fx.ro) 0 P .any ops Q' M1 (listed.setIfInBounds i true) a' w':=by
   intro a' w' γ' hs' hg' hp' hd'
   refine ih (fun j=>D j || decide (j=i)) (listed.setIfInBounds i true) γ' a' w' (by simpa using hsz) (fun j hj=>?_) (fun j hj=>?_) ?_ ?_ hs' ⟨hg.1.trans hg',hg.2.trans hp'⟩ hd'
   ·by_cases hji:j=i
    ·subst hji
     have:j < listed.size:=by omega
     simp[this]
    ·have hne:i≠j:=fun e=>hji e.symm
     have e1:(listed.setIfInBounds i true).getD j true=listed.getD j true:=by simp[Array.getElem?_setIfInBounds_ne hne]
     have e2:(listed.setIfInBounds i true).getD j false=listed.getD j false:=by simp[Array.getElem?_setIfInBounds_ne hne]
     rw[e1,e2]
     simp only[hji,decide_false,Bool.or_false]
     exact hl j hj
   ·simp only[ζX,ζF] at hj
    rcases hj with hj|rfl
    ·exact hin j hj
    ·exact hik
   ·intro q o hk hok e he hb
    simp only[ζX,ζF] at hk ⊢
    rcases hk with hk|rfl
    ·exact .inl (hc q o hk hok e he hb)
    ·exact .inl (hpre o hok e he hb)
   ·have e:(List.range ops.size).filter (fun j=>!(D j || decide (j=i)))=((List.range ops.size).filter (fun j=>!D j)).erase i:=by
     rw[List.Nodup.erase_eq_filter (List.nodup_range.filter _),List.filter_filter]
     refine List.filter_congr fun j _=>?_
     cases D j<;>by_cases h:j=i<;>simp[h]
    have hmem:i∈(List.range ops.size).filter fun j=>!D j:=List.mem_filter.2 ⟨by simpa using hlt,by simp[hDi]⟩
    rw[e,List.length_erase_of_mem hmem]
    omega
  unfold StepV at hst
  unfold wpOpIn
  rw[ho]
  rw[ho] at hst
  simp only at hst ⊢
  rcases hst with⟨hgd,he⟩|⟨hgd,hdst,heq⟩
  ·rw[if_pos (K9 hs hgd)]
   exact op_in (he ⟨none,a.defers,false⟩ γ a w hs rfl _ _ fun _ _ _ _ _ _ h=>h) (he fx γ a w hs hd _ _ next)
  ·rw[if_neg (by rw[K9 hs hgd];simp)]
   refine⟨fun _ _=>trivial,next _ w γ ?_ (.refl γ w) ?_ (by rw[U1];exact hd)⟩
   ·rw[heq];exact hs.put hdst (v:=undef) (.tup [] [] rfl (fun i c v hc=>by simp at hc))
   ·rw[heq];cases ops[i].dst<;>exact Pin.refl hs.u
def chainB(ops:Array Oper):List Nat→Array Bool→Bool
 | [],L=>Region.ready .any ops L==[]
 | i :: l,L=>Region.ready .any ops L==[i]&&chainB ops l (L.setIfInBounds i true)
theorem wpAny_chain{F:Fence}{n:Nat}{P:Program}{ops:Array Oper}{Q:Exit→Act→World→Prop}:∀(l:List Nat) (L:Array Bool) (a:Act) (w:World),chainB ops l L=true→wpOpsIn F n P ops Q l a w→wpAnyIn F n P .any ops Q l.length L a w
 | [],L,a,w,hc,h=>⟨by simpa[chainB] using hc,h⟩
 | i :: l,L,a,w,hc,h=>by
  simp only[chainB,ζA,beq_iff_eq] at hc
  rw[wpOpsIn_cons] at h
  refine⟨fun hr=>absurd (hc.1.symm.trans hr) (by simp),fun j hj=>?_⟩
  rw[hc.1,ζu] at hj
  subst hj
  exact wpOpIn_mono (fun a w h=>wpAny_chain l _ a w hc.2 h) h
def listK(ops:Array Oper)(k:Nat):Array Bool:=(Array.range ops.size).map fun i=>decide (i < k)
theorem listK_eq{ops:Array Oper}{k:Nat}{L:Array Bool}(hs:L.size=ops.size)(h:∀i,i < ops.size→L.getD i true=decide (i < k)∧L.getD i false=decide (i < k)):L=listK ops k:=by
 refine Array.ext (by unfold listK;simp[hs]) fun i h1 h2=>?_
 have:=(h i (by omega)).1
 rw[ζW,ζg h1] at this
 simpa[listK] using this
def PieceDr(P:Program)(G:Nat→Option (List V))(kp:List Nat)(n id:Nat)(ops:Array Oper)(m:Nat)(x:Ext){ρ:Type}(g:T P G ρ)(E:ρ→Ext):Prop:=
 (x.ok&&(decide (m≤ops.size)&&(backK ops&&(cutK ops m&&chainB ops (List.range' m (ops.size - m)) (listK ops m)))),rg P G id ops (List.range' 0 m) g (x.D n).st [] (x.D n).sy (fun g s p sy=>match okK ops m p with
  | true=>regEnd kp (x.D n) s p sy fun d'=>sx P G kp 100 ρ (.mid E) g (.inr .normal) [] d'
  | false=>.stuck 63) fun _ _ _ _ _=>.stuck 79)=(true,g.expect (.mid E))
theorem PieceDr.yt{P:Program}{G:Nat→Option (List V)}{kp:List Nat}{n id:Nat}{ops:Array Oper}{m:Nat}{x:Ext}{ρ:Type}{g:T P G ρ}{E:ρ→Ext}(h:PieceDr P G kp n id ops m x g E)(hm:P.follows .mixedOrders=true){r:ρ}(hr:g.run=some r)(hE:(E r).ok=true)
  {L:YL} {l:Nat} {y:Exit} {Q:Exit→YS→Prop} (hn:(E r).ex=.normal) (hq:H1 P G L l ops (List.range' m (ops.size - m)) ⟨y,((E r).D n).st⟩ Q):YT P G L l (.region id ops true) ⟨y,(x.D n).st⟩ Q:=by
 simp only[PieceDr,ζP,ζA,ζF] at h
 obtain⟨⟨hx,hmo,hback,hcut,hch⟩,h⟩:=h
 have hd:=C4 (n:=n) hx
 rcases rg_sound (st0:=(x.D n).st) m g (x.D n).st [] (x.D n).sy h hr ⟨rfl,fun j hj=>by simp at hj⟩ hd.sy with⟨g',s,p,sy',x1,x2,x3,x4,x5⟩|⟨_,_,_,_,_,_,_,x1,_⟩
 rotate_left
 ·exact absurd x1 (Z5 _ _ _)
 simp only[List.length_nil,ξv] at x5
 dsimp only at x1
 split at x1
 rotate_left
 ·exact absurd x1 (Z5 _ _ _)
 rename_i hok
 have hs:s=K0 p (x.D n).st m:=by rw[←x5];exact x3.1
 obtain⟨d',y1,y2,y3,y4⟩:=regEnd_spec x1 (fun j=>Z5 _ g' j) hd hs x4
 have hgo:Rel P G (G9 P (.mid E) r d'.n) .normal d'.st:=sx_ok hm 100 _ _ _ _ _ _ _ y2 y1 x2
 rw[y4] at hgo
 have hgo:=hgo.forget y3
 have eall:p.st (fun _=>true) (x.D n).st m=s:=by
  rw[hs]
  have e1:=C1 p (x.D n).st m m
  rw[Nat.min_self] at e1
  rw[←e1]
  exact J0.st_congr p _ m fun j hj=>by simp[hj]
 intro fn γ0 w0 b0 D Ds sz te γ a w he hsim hmk
 have hs0:Sim G γ (x.D n).st a.tmps { w with drawn:=w.drawn+1 }:=by
  have g:Grow γ w γ { w with drawn:=w.drawn+1 }:=⟨rfl,rfl,rfl,ζK _,fun _ _ _ _ h=>h,fun _ _=>ζK _,fun _ _ h=>⟨rfl,h,rfl⟩,fun _ cs _ fz h=>⟨cs,fz,h,rfl,.inl rfl⟩⟩
  have bl:L1 γ (x.D n).st.b (x.D n).st.u γ (x.D n).st.b (x.D n).st.u:=.refl hsim.u
  refine⟨hsim.n,fun i=>(hsim.t i).mono g bl,fun b k hk=>?_,hsim.u,hsim.g.grow g,hsim.o⟩
  rcases hsim.b b k hk with h0|hm|⟨hM,B,o,cs,e',h1,h2,h3,h4,h5,h6,h7,h8⟩
  ·exact .inl h0
  ·exact .inr (.inl (hm.same rfl (fun B _ hB=>⟨hB,rfl⟩) fun c v hr=>hr.mono g bl))
  ·refine .inr (.inr ⟨hM,B,o,cs,e',h1,h2,h3,h4,h5,fun i c hc=>?_,h7,h8⟩)
   obtain⟨v,a1,a2,a3,a4⟩:=h6 i c hc
   exact⟨v,a1,a2.mono g bl,a3,a4⟩
 have g0:Grow γ w γ { w with drawn:=w.drawn+1 }:=⟨rfl,rfl,rfl,ζK _,fun _ _ _ _ h=>h,fun _ _=>ζK _,fun _ _ h=>⟨rfl,h,rfl⟩,fun _ cs _ fz h=>⟨cs,fz,h,rfl,.inl rfl⟩⟩
 refine wpIn_region_any hm ?_
 have e0:p.st (fun _=>false) (x.D n).st m=(x.D n).st:=by
  have:∀k,p.st (fun _=>false) (x.D n).st k=(x.D n).st:=fun k=>by
   induction k with
   | zero=>rfl
   | succ k ih=>simp[J0.st,ih]
  exact this _
 refine wpAny_cut (fx:=⟨none,a.defers,true⟩) (γ0:=γ) (w0:=w) hmo hok (fun i o ho e hee hb=>?_) hcut (fun i hi=>?_) (fun listed γ' a' w' hls hli hs' hg' hd'=>?_) ops.size (fun _=>false) _ γ a _ (by simp) (fun i hi=>by simp[hi]) (fun i h=>by simp at h) (fun i o h=>by simp at h)
  (by rw[show (List.range ops.size).filter (fun _=>!false)=List.range ops.size from List.filter_eq_self.2 (fun i _=>rfl),List.length_range]) (by rw[e0];exact hs0) ⟨g0,by rw[e0];exact .refl hsim.u⟩ rfl
 ·have hm':(o,i)∈ops.toList.zipIdx:=by
   rw[List.mem_zipIdx_iff_getElem?];simpa using ho
  have:=ζE.1 hback (o,i) hm'
  have h2:=Array.all_eq_true_iff_forall_mem.1 this e hee
  simpa[hb] using h2
 ·have:=x3.2 i (by omega)
  rw[C1,Nat.min_eq_left (by omega)]
  exact this
 ·rw[listK_eq hls hli]
  rw[←List.length_range' (s:=m) (step:=1) (n:=ops.size - m)]
  refine wpAny_chain (List.range' m (ops.size - m)) (listK ops m) a' w' hch ?_
  rw[eall] at hs' hg'
  obtain⟨st2,γ2,k1,⟨k2,k2p⟩,k3,k4⟩:=hgo ⟨none,a'.defers,true⟩ γ' a' w' hs' rfl
  obtain⟨g1,g2,g3,g4⟩:=k4
  have f:=L7 (G:=G) (s:=st2) hE g3 g4
  rw[show st2.n=n from g2] at f
  have hY:H1 P G L l ops (List.range' m (ops.size - m)) ⟨y,st2⟩ Q:=H1.gst f hq
  exact hY fn γ0 w0 b0 D Ds sz te γ2 a' w' (he.step (hg'.1.trans k2) (hg'.2.trans k2p)) k1 (hmk.trans (hg'.1.trans k2) (.of hd') he.lo.2.2.2)
end Go.EV
