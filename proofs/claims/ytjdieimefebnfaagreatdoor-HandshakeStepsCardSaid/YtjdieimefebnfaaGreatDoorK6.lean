/- The value-level logic: slices made with their length; octets of a typed block as a text; no conditions but those that the rules name. Local arrays to ..; no conditions. -/
import Derived.Test.YtjdieimefebnfaaGreatDoorK5
import Derived.Laws.MakeOwn
import Derived.Laws.Build
import Derived.Laws.Externs
import Derived.Laws.IdiomStrings
import Derived.Laws.AppendOwn
import Derived.Laws.Slices
import Derived.Below
import Derived.RecoverIn
import Derived.Laws.Entries
import Derived.Lib.ByteType
import Derived.WideLaws
import Derived.Test.YtjdieimefebnfaaGreatDoorK2
import Derived.KernelRfl
set_option linter.unusedVariables false
set_option linter.unusedSimpArgs false
namespace Go.EV
open Go
def Qw.ZW{P:Program}{G:ze}{ty:Ty Int}{t e:TypeId}{k:IntKind}(ol oc:Operand)(d n:Nat)(by_:Nat)(ht:P.underlying t=some (.slice e):=by kernel_rfl)
    (hi:(P.info? e).map (λi=>(i.size,i.bytes))=some (1,by_):=by kernel_rfl) (hz:(P.info? e).bind TypeInfo.zero=some (.int k 0):=by kernel_rfl) (hb:by_ * n<=281474976710656/\n<=9223372036854775807:=by decide) (hc:∀x,ty.c x=[.int k x]:=by intro _;rfl):Qw P G Unit where
  op:=.makeSlice t ol oc
  dst:=some d
  ZY:=[(ol,.int .i64 (n:Int)),(oc,.int .i64 (n:Int))]
  Zb:=[]
  o:=some ()
  ws:=λ_=>[.b d (some ⟨1,true,(List.replicate n (0:Int)).map ty.c⟩),.t d (.ref d 0 n)]
  dt:=[d]
  JC:=λ_ i k h _=>by
    simp only[zO,Wr.b.injEq,zy,reduceCtorEq,zT,or_false] at h
    rw[h.2];exact ty.data _
  ok:=λ_ _ x st hop hdst hvs _ hd=>M1 λγ a w hs=>by
    obtain⟨h1,h2⟩:=hd d rfl
    obtain⟨i,hi1,hi2⟩:=zE.1 hi
    simp only[zJ] at hi2
    obtain⟨s1,s2⟩:=hi2
    have hz':i.zero=some (.int k 0):=by grind
    have e1:a.eval ol=.int .i64 (n:Int):=(hvs (ol,.int .i64 (n:Int)) (by simp) γ a w hs).Qf
    have e2:a.eval oc=.int .i64 (n:Int):=(hvs (oc,.int .i64 (n:Int)) (by simp) γ a w hs).Qf
    have hrun:=run_make (P:=P) w t e i (.int k 0) ht hi1 hz' .i64 .i64 (n:Int) (n:Int) (by omega) (by omega) (by rw[s2];have:=hb.1;omega) (by omega)
    have hrows:(List.replicate n (0:Int)).map ty.c=List.replicate n [V.int k 0]:=by simp_all
    have hcell:∀j (c:V),((List.replicate n (0:Int)).map ty.c).flatten[j]?=some c->j < n/\c=.int k 0:=λj c hj=>by
      simp_all [List.replicate_succ,List.flatten_cons,wh,wX,List.getElem_replicate,List.replicate]
    have sz:(madeCells (Value.int k 0).cells ((n:Int).toNat * i.size)).size=n:=by rw[size_madeCells,s1];simp
    have key:=hs.Ay (d:=d) (size:=1) (rows:=(List.replicate n (0:Int)).map ty.c) (cs:=madeCells (Value.int k 0).cells ((n:Int).toNat * i.size)) (e:=e) (w1:={ w with heap:=w.heap.push (.cells (madeCells (Value.int k 0).cells ((n:Int).toNat * i.size)) e) }) (by decide) h2 rfl ⟨rfl,rfl,rfl⟩
      (by grind) (by rw[sz];simp) (λj c hj=>by
        obtain⟨j1,rfl⟩:=hcell j c hj
        refine⟨.int k 0,?_,.data (.int k 0),rfl,rfl⟩
        unfold madeCells
        rw[Array.getElem?_map]
        have hlt:j < (n:Int).toNat * i.size:=by grind
        have:(Array.range ((n:Int).toNat * i.size))[j]?=some j:=by grind
        rw[this]
        have hcs:(Value.int k 0).cells=#[.int k 0]:=rfl
        grind)
    refine⟨.slice (some ⟨w.heap.size,0,none⟩) n n,_,γ.add d w.heap.size,?_,key.2.1,key.2.2.JH,?_⟩
    · have e3 : (execOp a.eval x) = (do let v <- Instr.makeSlice t (a.eval ol) (a.eval oc); pure (.value v) : Sem Next) := by unfold execOp; rw [hop]
      simp_all
    · rw[hdst]
      have hb':=key.1.put (a:=a) (dst:=some d) (c:=.ref d 0 n) (v:=.slice (some ⟨w.heap.size,0,none⟩) n n) (by simpa[H7,St.Qh] using h1) (by
        have:=Qu.ref (γ:=γ.add d w.heap.size) (w:={ w with heap:=w.heap.push (.cells (madeCells (Value.int k 0).cells ((n:Int).toNat * i.size)) e) }) (bs:=(st.Qh d ⟨1,true,(List.replicate n (0:Int)).map ty.c⟩).b) (u:=(st.Qh d ⟨1,true,(List.replicate n (0:Int)).map ty.c⟩).u)
          d 0 n w.heap.size 0 n ⟨1,true,(List.replicate n (0:Int)).map ty.c⟩ (by simp[St.Qh]) (by simp[Gh.add]) (by simp) (zI _) ⟨madeCells (Value.int k 0).cells ((n:Int).toNat * i.size),e,(0,0),Array.getElem?_push_size,by rw[sz];simp⟩ (by show 1 < Y8;decide) (by simp)
        grind)
      exact hb'
def Qw.Bk{P:Program}{G:ze}{α:Type}{ty:Ty α}{t e:TypeId}{zv:Value}{zc:V}(a0:α)(ol oc:Operand)(d:Nat)(n m:Int)(by_:Nat)(ht:P.underlying t=some (.slice e))
    (hi:(P.info? e).map (λi=>(i.size,i.bytes))=some (1,by_)) (hz:(P.info? e).bind TypeInfo.zero=some zv) (hc:ty.c a0=[zc]) (hzc:zv.cells=#[zv]/\zv.oneCell'=true/\zc.QN=false) (hrep:∀Qp w,K3 Qp w zc zv) (kl:IntKind:=.i64) (kc:IntKind:=.i64):Qw P G Unit where
  op:=.makeSlice t ol oc
  dst:=some d
  ZY:=[(ol,.int kl n),(oc,.int kc m)]
  Zb:=[]
  o:=bif decide (0<=n)&&decide (n<=m)&&decide (by_ * m.toNat<=281474976710656)&&decide (m<=9223372036854775807) then some () else none
  ws:=λ_=>[.b d (some ⟨1,true,(List.replicate n.toNat a0).map ty.c⟩),.t d (.ref d 0 n.toNat)]
  dt:=[d]
  JC:=λ_ i k h _=>by
    simp only[zO,Wr.b.injEq,zy,reduceCtorEq,zT,or_false] at h
    rw[h.2];exact ty.data _
  ok:=λr ho x st hop hdst hvs hbs hd=>M1 λγ a w hs=>by
    have hc3:(decide (0<=n)&&decide (n<=m)&&decide (by_ * m.toNat<=281474976710656)&&decide (m<=9223372036854775807))=true:=by
      grind
    simp only[zD,zC] at hc3
    obtain⟨⟨⟨c0,c1⟩,c2⟩,c3⟩:=hc3
    obtain⟨N,rfl⟩:=Int.eq_ofNat_of_zero_le c0
    obtain⟨M,rfl⟩:=Int.eq_ofNat_of_zero_le (Int.le_trans c0 c1)
    simp only[zL] at *
    have hNM:N<=M:=by omega
    obtain⟨h1,h2⟩:=hd d rfl
    obtain⟨i,hi1,hi2⟩:=zE.1 hi
    simp only[zJ] at hi2
    obtain⟨s1,s2⟩:=hi2
    have hz':i.zero=some zv:=by grind
    have e1:a.eval ol=.int kl (N:Int):=(hvs (ol,.int kl (N:Int)) (by simp) γ a w hs).Qf
    have e2:a.eval oc=.int kc (M:Int):=(hvs (oc,.int kc (M:Int)) (by simp) γ a w hs).Qf
    have hrun:=run_make (P:=P) w t e i zv ht hi1 hz' kl kc (N:Int) (M:Int) (by omega) (by omega) (by rw[s2];omega) (by omega)
    simp only[zL] at hrun
    have hrows:(List.replicate N a0).map ty.c=List.replicate N [zc]:=by simp_all
    have hcell:∀j (c:V),((List.replicate N a0).map ty.c).flatten[j]?=some c->j < N/\c=zc:=λj c hj=>by
      simp_all [List.replicate_succ,List.flatten_cons,wh,wX,List.getElem_replicate,List.replicate]
    have sz:(madeCells zv.cells (M * i.size)).size=M:=by rw[size_madeCells,s1];simp
    have key:=hs.Ay (d:=d) (size:=1) (rows:=(List.replicate N a0).map ty.c) (cs:=madeCells zv.cells (M * i.size)) (e:=e) (w1:={ w with heap:=w.heap.push (.cells (madeCells zv.cells (M * i.size)) e) }) (by decide) h2 rfl ⟨rfl,rfl,rfl⟩
      (by grind) (by grind) (λj c hj=>by
        obtain⟨j1,rfl⟩:=hcell j c hj
        refine⟨zv,?_,.data (hrep _ _),hzc.2.1,hzc.2.2⟩
        grind [madeCells])
    refine⟨.slice (some ⟨w.heap.size,0,none⟩) N M,_,γ.add d w.heap.size,?_,key.2.1,key.2.2.JH,?_⟩
    · have e3 : (execOp a.eval x) = (do let v <- Instr.makeSlice t (a.eval ol) (a.eval oc); pure (.value v) : Sem Next) := by unfold execOp; rw [hop]
      simp_all
    · rw[hdst]
      have hb':=key.1.put (a:=a) (dst:=some d) (c:=.ref d 0 N) (v:=.slice (some ⟨w.heap.size,0,none⟩) N M) (by simpa[H7,St.Qh] using h1) (by
        have:=Qu.ref (γ:=γ.add d w.heap.size) (w:={ w with heap:=w.heap.push (.cells (madeCells zv.cells (M * i.size)) e) }) (bs:=(st.Qh d ⟨1,true,(List.replicate N a0).map ty.c⟩).b) (u:=(st.Qh d ⟨1,true,(List.replicate N a0).map ty.c⟩).u)
          d 0 N w.heap.size 0 M ⟨1,true,(List.replicate N a0).map ty.c⟩ (by simp[St.Qh]) (by simp[Gh.add]) (by simp) hNM ⟨madeCells zv.cells (M * i.size),e,(0,0),Array.getElem?_push_size,by rw[sz];simp⟩ (by show 1 < Y8;decide) (by grind)
        grind)
      exact hb'
theorem II{ty:Ty Int}(hc:∀x,ty.c x=[.int .u8 x]):∀l:List Int,XJ (l.map ty.c)=some l
 | []=>rfl
 | x :: l=>by
  simp only[wj,XJ,hc,pV,II hc l]
def Qw.Zi{P:Program}{G:ze}{ty:Ty Int}{s t e:TypeId}(ox:Operand)(d b:Nat)(l:List Int)(n:Nat)(hs:P.underlying s=some (.slice e):=by kernel_rfl)(ht:P.underlying t=some .string:=by kernel_rfl)(he:P.underlying e=some (.int .u8):=by kernel_rfl)(hn:l.length=n)(hc:∀x,ty.c x=[.int .u8 x]:=by intro _;rfl):Qw P G Unit where
 op:=.convert s t ox
 dst:=some d
 ZY:=[(ox,.ref b 0 n)]
 Zb:=[(b,⟨1,true,l.map ty.c⟩)]
 o:=some ()
 ws:=λ_=>[.t d (.str (strOfNums l))]
 dt:=[]
 JC:=(by grind)
 ok:=λ_ _ x st hop hdst hvs hb hd=>M1 λγ a w hs'=>by
  have hx:=hvs (ox,.ref b 0 n) (by simp) γ a w hs'
  have hk:=hb (b,⟨1,true,l.map ty.c⟩) (by simp)
  have hcv:Dj P st.b s t (.ref b 0 n)=some (.str (strOfNums l)):=by
   simp only[Dj,hs,ht,he,hk]
   rw[if_pos ⟨trivial,by simp[hn]⟩,List.drop_zero,<-hn,<-wq (f:=ty.c),List.take_length,II hc]
   rfl
  obtain⟨v,h1,h2⟩:=IA hs' hcv hx
  refine⟨v,w,γ,?_,.refl γ w,.refl hs'.u,?_⟩
  ·have e3 : (execOp a.eval x) = (do let v <- convert s t (a.eval ox); pure (.value v) : Sem Next) := by unfold execOp; rw [hop]
   simp_all
  ·rw[hdst]
   exact hs'.put (a:=a) (dst:=some d) (by simpa[H7] using(hd d rfl).1) h2
theorem UE:∀l:List V,(l.map λc=>[c]).flatten=l
 | []=>rfl
 | c :: l=>by simp[UE l]
theorem Ki{α:Type}{ty:Ty α}(h1:∀x,(ty.c x).length=1):∀l:List α,((l.map ty.c).flatten.map λc=>[c])=l.map ty.c
 | []=>rfl
 | x :: l=>by
  obtain⟨c,hc⟩:=List.length_eq_one_iff.1 (h1 x)
  simp only[wj,List.flatten_cons,wE,hc,List.map_nil]
  rw[Ki h1 l];rfl
theorem Rv{α:Type}{ty:Ty α}(h1:∀x,(ty.c x).length=1)(l:List α):(l.map ty.c).flatten.length=l.length:=by
 induction l with
 | nil=>rfl
 | cons x l ih=>grind
theorem Qs.Az{G:ze}{γ:Gh}{st:St}{a:Act}{w:World}(h:Qs G γ st a.tmps w){d:Nat}{cells:List V}{vs:Array Value}{e:TypeId}(hu:st.u d=false)(hd:d < st.n)
  (hr:U4 γ w st.b st.u cells vs) (hc:∀c,c∈cells->c.Zy=true/\c.QN=false) :
  ∃γ',Qa γ w γ' { w with heap:=w.heap.push (.cells vs e) }/\Zr γ st.b st.u γ' (st.Qh d ⟨1,true,cells.map λc=>[c]⟩).b (st.Qh d ⟨1,true,cells.map λc=>[c]⟩).u/\
   Qs G γ' ((st.Qh d ⟨1,true,cells.map λc=>[c]⟩).QG d (.ptr d 0 0)) (a.put (some d) (.pointer (some ⟨w.heap.size,0,none⟩))).tmps { w with heap:=w.heap.push (.cells vs e) }:=by
 have hM:(1:Nat) < Y8:=by decide
 have key:=h.Ay (d:=d) (size:=1) (rows:=cells.map λc=>[c]) (cs:=vs) (e:=e) (w1:={ w with heap:=w.heap.push (.cells vs e) }) hM hu rfl ⟨rfl,rfl,rfl⟩ (by grind) (by simp[hr.1]) (λi c hi=>by
  rw[UE] at hi
  have hlt:i < vs.size:=by rw[hr.1];grind
  have hv:vs[i]?=some vs[i]:=(by grind)
  obtain⟨c1,c2⟩:=hc c (zQ hi)
  exact⟨vs[i],hv,hr.2 i c _ hi hv,(hr.2 i c _ hi hv).Zt c1,c2⟩)
 refine⟨_,key.2.1,key.2.2.JH,?_⟩
 have hp:=key.1.put (a:=a) (dst:=some d) (c:=.ptr d 0 0) (v:=.pointer (some ⟨w.heap.size,0,none⟩)) (by simpa[H7,St.Qh] using hd) (by
  have:=Qu.ptr (γ:=γ.add d w.heap.size) (w:={ w with heap:=w.heap.push (.cells vs e) }) (u:=(st.Qh d ⟨1,true,cells.map λc=>[c]⟩).u) (bs:=(st.Qh d ⟨1,true,cells.map λc=>[c]⟩).b) d 0 0 w.heap.size 0 ⟨1,true,cells.map λc=>[c]⟩ (by simp[St.Qh]) (by simp[Gh.add]) hM
  grind)
 exact hp
section
variable {P:Program} {G:ze} {α:Type} {ty:Ty α}
def Qw.KX(e:TypeId)(d:Nat)(l:List α)(h1:∀x,(ty.c x).length=1:=by intro _;rfl)(hz:zeroV P e=some (l.map ty.c).flatten:=by kernel_rfl):Qw P G Unit where
 op:=.alloc e
 dst:=some d
 ZY:=[]
 Zb:=[]
 o:=some ()
 ws:=λ_=>[.b d (some ⟨1,true,l.map ty.c⟩),.t d (.ptr d 0 0)]
 dt:=[d]
 JC:=λ_ i k h _=>by
  simp only[zO,Wr.b.injEq,zy,reduceCtorEq,zT,or_false] at h
  rw[h.2];exact ty.data _
 ok:=λ_ _ x st hop hdst _ _ hd=>M1 λγ a w hs=>by
  obtain⟨hn,hu⟩:=hd d rfl
  obtain⟨z,hz1,hz2⟩:=JJ (P:=P) (γ:=γ) (w:=w) (bs:=st.b) (u:=st.u) hz
  obtain⟨γ',g,pn,hs'⟩:=hs.Az (e:=e) hu hn hz2 (KG hz)
  rw[Ki h1] at pn hs'
  refine⟨_,_,γ',?_,g,pn,by rw[hdst];exact hs'⟩
  simp[execOp,hop,Instr.alloc,hz1,newVar,newRow]
def Qw.EW(e:TypeId)(ox:Operand)(d:Nat)(l:List α)(h1:∀x,(ty.c x).length=1:=by intro _;rfl)(hb:NY (.agg (l.map ty.c).flatten)=some (l.map ty.c).flatten:=by kernel_rfl):Qw P G Unit where
 op:=.box e ox
 dst:=some d
 ZY:=[(ox,.agg (l.map ty.c).flatten)]
 Zb:=[]
 o:=some ()
 ws:=λ_=>[.b d (some ⟨1,true,l.map ty.c⟩),.t d (.ptr d 0 0)]
 dt:=[d]
 JC:=λ_ i k h _=>by
  simp only[zO,Wr.b.injEq,zy,reduceCtorEq,zT,or_false] at h
  rw[h.2];exact ty.data _
 ok:=λ_ _ x st hop hdst hvs _ hd=>M1 λγ a w hs=>by
  obtain⟨hn,hu⟩:=hd d rfl
  have hx:=hvs (ox,.agg (l.map ty.c).flatten) (by simp) γ a w hs
  obtain⟨k1,k2⟩:=Uq hb hx
  obtain⟨γ',g,pn,hs'⟩:=hs.Az (e:=e) hu hn k1 k2
  rw[Ki h1] at pn hs'
  refine⟨_,_,γ',?_,g,pn,by rw[hdst];exact hs'⟩
  simp[execOp,hop,Instr.box,newVar,newRow]
def Qw.ZD(t:TypeId)(ox oi:Operand)(d b:Nat)(k:Qi)(r:Nat)(kd:IntKind)(n:Int)(len:Nat){e:TypeId}(ht:P.underlying t=some (.array len e):=by kernel_rfl)(he:(P.info? e).map (·.size)=some k.size:=by kernel_rfl):Qw P G Unit where
  op:=.indexAddr t ox oi
  dst:=some d
  ZY:=[(ox,.ptr b r 0),(oi,.int kd n)]
  Zb:=[(b,k)]
  o:=bif decide (0<=n)&&decide (n < (len:Int)) then some () else none
  ws:=λ_=>[.t d (.ptr b (r+n.toNat) 0)]
  dt:=[]
  JC:=(by grind)
  ok:=λ_ ho x st hop hdst hvs hb hd=>by
    have hn:0<=n/\n < (len:Int):=by
      grind
    obtain⟨hdn,hu⟩:=hd d rfl
    have key:I2 P G x st (st.put (some d) (.ptr b (r+n.toNat) 0)):=by
      rw[<-hdst]
      refine M4 (by grind [H7]) λγ a w hs=>?_
      have hx:=hvs (ox,.ptr b r 0) (by simp) γ a w hs
      have hi:=hvs (oi,.int kd n) (by simp) γ a w hs
      have hk:=hb (b,k) (by simp)
      obtain⟨B,o,hv,hl⟩:=hx.Zk hk
      have hvi:=hi.Qf
      obtain⟨ej,hej,hsz⟩:=zE.1 he
      refine⟨.pointer (some ⟨B,o+(r * k.size+0)+n.toNat * ej.size,none⟩),?_,?_⟩
      · grind [ZI,Sem.run_bind,Result.andThen_ok,Sem.run_pure,execOp]
      · have:=Qu.ptr (γ:=γ) (w:=w) (u:=st.u) b (r+n.toNat) 0 B o k hk hl (hx.Zl hk)
        grind
    exact key
def Qw.EB(t:TypeId)(ox:Operand)(d b:Nat)(k:Qi)(c:V)(hM:k.size < Y8:=by show 1 < Y8;decide)(h:F6 P t k.rows.flatten=some c:=by kernel_rfl):Qw P G Unit where
  op:=.load t ox
  dst:=some d
  ZY:=[(ox,.ptr b 0 0)]
  Zb:=[(b,k)]
  o:=some ()
  ws:=λ_=>[.t d c]
  dt:=[]
  JC:=(by grind)
  ok:=λ_ _ x st hop hdst hvs hb hd=>by
    obtain⟨hdn,hu⟩:=hd d rfl
    have key:I2 P G x st (st.put (some d) c):=by
      rw[<-hdst]
      refine M4 (by grind [H7]) λγ a w hs=>?_
      have hx:=hvs (ox,.ptr b 0 0) (by simp) γ a w hs
      have hk:=hb (b,k) (by simp)
      obtain⟨B,o,hv,hl⟩:=hx.Zk hk
      have hcs:G3 γ w st.b st.u B o k.rows.flatten:=by
        rcases hs.b b k hk with⟨v1,_⟩|hm|⟨_,B2,o2,cs2,e2,h1,h2,h3,h4,h5,h6,h7,h8⟩
        · grind
        · exact(hm.small hM).elim
        rw[hl] at h1;simp only[zy,zJ] at h1
        obtain⟨rfl,rfl⟩:=h1
        intro j c' hc'
        obtain⟨v,q1,q2,_⟩:=h6 j c' hc'
        exact⟨v,by rw[h3.cellAt];exact q1,q2⟩
      obtain⟨y,hy,hd'⟩:=Yp h hcs
      simp_all [execOp,Instr.loadAt,Instr.sureAddr]
    exact key
def Qw.Km(t:TypeId)(ox ov:Operand)(b:Nat)(k:Qi)(c:V)(l:List α)(h1:∀x,(ty.c x).length=1:=by intro _;rfl)(hM:k.size < Y8:=by show 1 < Y8;decide)(hz:k.size=1:=by rfl)(hex:k.Qn=true:=by rfl)(hn:k.rows.length=l.length:=by rfl)(hb:NY c=some (l.map ty.c).flatten:=by kernel_rfl)
    (ht:(P.info? t).map (·.size)=some l.length:=by kernel_rfl):Qw P G Unit where
  op:=.store t ox ov
  dst:=none
  ZY:=[(ox,.ptr b 0 0),(ov,c)]
  Zb:=[(b,k)]
  o:=some ()
  ws:=λ_=>[.b b (some ⟨k.size,k.Qn,l.map ty.c⟩)]
  dt:=[]
  JC:=(by grind)
  ok:=λ_ _ x st hop hdst hvs hbk _=>Ec λγ a w hsim=>by
    have hx:=hvs (ox,.ptr b 0 0) (by simp) γ a w hsim
    have hy:=hvs (ov,c) (by simp) γ a w hsim
    have hk:=hbk (b,k) (by simp)
    obtain⟨ti,hti,hsz⟩:=zE.1 ht
    obtain⟨B,o',hv,hl⟩:=hx.Zk hk
    obtain⟨hcr,hcell⟩:=Uq hb hy
    have hcl:((l.map ty.c).flatten).length=l.length:=Rv h1 l
    rcases hsim.b b k hk with⟨v1,_⟩|hm|⟨_,B2,o2,cs2,e2,g1,g2,g3,g4,g5,g6,g7,g8⟩
    · grind
    · exact(hm.small hM).elim
    rw[hl] at g1;simp only[zy,zJ] at g1
    obtain⟨rfl,rfl⟩:=g1
    have hvl:(a.eval ov).cells.toList.length=l.length:=by have:=hcr.1;grind
    have hcap:o'+l.length<=cs2.size:=by grind
    have hone:∀v,v∈(a.eval ov).cells.toList->v.oneCell'=true:=λv hv=>by
      obtain⟨j,hj,rfl⟩:=List.getElem_of_mem hv
      have hjc:j < ((l.map ty.c).flatten).length:=by grind
      have:=hcr.2 j _ _ (wd hjc) (by rw[we (by simpa using hj)])
      exact this.Zt (by grind)
    have hrun:=F2 (P:=P) (B:=B) (o:=o'+(0 * k.size+0)) (e:=e2) (a.eval ov).cells.toList 0 w cs2 g3 hone (by grind)
    obtain⟨r1,r2⟩:=G9 (a.eval ov).cells.toList (o'+(0 * k.size+0)+0) cs2 (by rw[hvl];omega)
    have key:=hsim.Xg (cs':=E4 cs2 (o'+(0 * k.size+0)+0) (a.eval ov).cells.toList) (rows':=l.map ty.c) hk hM hl g2 g3 r1 (g7 hex)
      (by grind)
      (by simp[hn]) g5 (λidx c' hc'=>by
        have hidx:idx < l.length:=by grind
        rw[r2,if_pos (by grind)]
        have hj:idx < (a.eval ov).cells.toList.length:=by grind
        rw[show o'+idx - (o'+(0 * k.size+0)+0)=idx by omega]
        refine⟨_,wd hj,?_,(by grind),.Zh (hcell c' (zQ hc')).2⟩
        exact hcr.2 idx c' _ hc' (by rw[we (by simpa using hj)];simp))
    refine⟨_,γ,?_,key.2.1,key.2.2.JH,by rw[hdst];exact key.1⟩
    have hsize:¬((a.eval ov).cells.size≠ti.size):=by rw[hcr.1,hcl,hsz];simp
    simp only[execOp,hop,Instr.storeAt,hv,Instr.sureAddr,storeVar,sizeOf,typeInfo,hti,zM,run_program,wi,zN,Sem.run_ite,hsize,if_false,hrun]
def DC:V->Option Value
 | .int k n=>some (.int k n)
 | .bool b=>some (.bool b)
 | .str s=>some (.string s)
 | .Zf=>some (.pointer none)
 | .Zw x=>some x
 | _=>none
def eH:V->Option Value
 | .agg cs=>(K8 DC cs).map λl=>.agg l.toArray
 | c=>DC c
theorem Du{γ:Gh}{w:World}{bs:zg}{u:zh}{c:V}{v x:Value}(h:DC c=some v)(hr:Qu γ w bs u c x):x=v:=by
 cases c<;>simp[DC] at h
 case int=>subst h;exact hr.Qf
 case bool=>subst h;exact hr.QF
 case str=>subst h;exact hr.QW
 case Zf=>subst h;cases hr with|data h=>cases h;rfl
 case Zw=>subst h;exact hr.Ul
theorem TR{γ:Gh}{w:World}{bs:zg}{u:zh}{c:V}{v x:Value}(h:eH c=some v)(hr:Qu γ w bs u c x):x=v:=by
 cases c with
 | agg cs=>
  simp only[eH,zE] at h
  obtain⟨l,hl,rfl⟩:=h
  obtain⟨vs,rfl,h1,h2⟩:=hr.QX
  congr 1
  congr 1
  refine List.ext_getElem? λi=>?_
  have hlen:=Yc hl
  by_cases hi:i < vs.length
  ·have hv:vs[i]?=some vs[i]:=wd hi
   have hli:i < l.length:=by omega
   have hlv:l[i]?=some l[i]:=(by grind)
   obtain⟨c0,k1,k2⟩:=L4 hl i _ hlv
   grind [Du]
  grind
 | _=>grind [Du,eH]
def Qw.Zw(t:TypeId)(ox:Operand)(d:Nat)(c:V)(v:Value)(hv:eH c=some v)(ht:P.concrete t=true):Qw P G Unit where
 op:=.makeInterface t ox
 dst:=some d
 ZY:=[(ox,c)]
 Zb:=[]
 o:=some ()
 ws:=λ_=>[.t d (.Zw (.iface t v))]
 dt:=[]
 JC:=(by grind)
 ok:=λ_ _ x st hop hdst hvs _ hd=>by
  obtain⟨hdn,hu⟩:=hd d rfl
  have key:I2 P G x st (st.put (some d) (.Zw (.iface t v))):=by
   rw[<-hdst]
   refine M4 (by grind [H7]) λγ a w hs=>?_
   have hx:=TR hv (hvs (ox,c) (by simp) γ a w hs)
   exact⟨.iface t v,by simp_all [run_makeInterface,execOp],.data (.Zw _ rfl)⟩
  exact key
def Qw.asserted(ox:Operand)(xt t:TypeId)(d:Nat)(x:Value)(yes:Bool)(c z:V)(hr:∀w:World,∃v,(Instr.typeAssert x xt t true).run P w=.ok (.tuple #[v,.bool yes]) w/\∀γ bs u,Qu γ w bs u (if yes then c else z) v):Qw P G Unit where
 op:=.typeAssert ox xt t true
 dst:=some d
 ZY:=[(ox,.Zw x)]
 Zb:=[]
 o:=some ()
 ws:=λ_=>[.t d (.Qt [if yes then c else z,.bool yes])]
 dt:=[]
 JC:=(by grind)
 ok:=λ_ _ y st hop hdst hvs _ hd=>by
  obtain⟨hdn,hu⟩:=hd d rfl
  have key:I2 P G y st (st.put (some d) (.Qt [if yes then c else z,.bool yes])):=by
   rw[<-hdst]
   refine M4 (by grind [H7]) λγ a w hs=>?_
   have hx:=(hvs (ox,.Zw x) (by simp) γ a w hs).Ul
   obtain⟨v,h1,h2⟩:=hr w
   refine⟨.tuple #[v,.bool yes],by simp[execOp,hop,hx,h1],.Qt _ [v,.bool yes] rfl λi c' v' hc hv=>?_⟩
   match i,hc,hv with
   | 0,hc,hv=>grind
   | 1,hc,hv=>simp at hc hv;subst hc;subst hv;exact .data (.bool _)
   | n+2,hc,hv=>simp at hc
  exact key
end
def vec(f:zh):List Bool:=[f 0,f 1,f 2,f 3,f 4,f 5,f 6,f 7,f 8,f 9,f 10,f 11,f 12,f 13,f 14,f 15,f 16,f 17,f 18,f 19,f 20,f 21,f 22,f 23,f 24,f 25,f 26,f 27,f 28,f 29,f 30,f 31]
def W6(f:zh):List V:=(vec f).map V.bool
def FI(f:zh)(n:Nat)(v:Bool):Nat->Bool:=λi=>bif i==n then v else f i
theorem OD(f:zh)(i:Nat):(vec f)[i]?=if i < 32 then some (f i) else none:=by
 have e:vec f=(List.range 32).map f:=rfl
 grind
theorem eU(f:zh)(n:Nat)(v:Bool):(vec f).set n v=vec (FI f n v):=by
 refine List.ext_getElem? λi=>?_
 rw[List.getElem?_set,OD,OD]
 have hl:(vec f).length=32:=rfl
 rw[hl]
 unfold FI
 by_cases h:n=i
 ·subst h;simp
 grind
def Yo.Pj(i:Nat)(t:Ty Bool)(f:zh)(j:Nat)(y:Bool):Yo:=
 ⟨[.b i (some ⟨1,true,((vec f).map t.c).set j (t.c y)⟩)],[.b i (some ⟨1,true,(vec (FI f j y)).map t.c⟩)],by rw[<-eU,List.map_set],[i],λb k h _=>by
  simp only[wm,Wr.b.injEq,zy] at h
  obtain⟨_,rfl⟩:=h
  exact t.data _⟩
section
variable {P:Program} {G:ze}
def Qw.Qhn(f:FuncId){fn:Func}(ox oy oc:Operand)(ts:Array TypeId)(d:Nat)(x y c:Int)(hf:P.funcs[f]?=some fn)(hname:(fn.name== "runtime.NumGoroutine")=false)(hb:fn.body.isNone=true)(hn:Extern.findNext fn=none)
    (he:Extern.find fn=some add64Entry):Qw P G Unit where
  op:=.call { callee:=.value (.func f),args:=#[ox,oy,oc],argTypes:=ts }
  dst:=some d
  ZY:=[(ox,.int .u64 x),(oy,.int .u64 y),(oc,.int .u64 c)]
  Zb:=[]
  o:=bif decide (0<=x)&&decide (0<=y)&&decide (0<=c)&&decide (c<=1) then some () else none
  ws:=λ_=>[.t d (.Qt [.int .u64 ((x+y+c) % 18446744073709551616),.int .u64 ((x+y+c) / 18446744073709551616)])]
  dt:=[]
  JC:=(by grind)
  ok:=λ_ ho q st hop hdst hvs _ hd=>by
    have hc:0<=x/\0<=y/\0<=c/\c<=1:=by
      grind
    obtain⟨hdn,hu⟩:=hd d rfl
    have key:I2 P G q st (st.put (some d) (.Qt [.int .u64 ((x+y+c) % 18446744073709551616),.int .u64 ((x+y+c) / 18446744073709551616)])):=by
      rw[<-hdst]
      refine M4 (by grind [H7]) λγ a w hs=>?_
      have e1:=(hvs (ox,.int .u64 x) (by simp) γ a w hs).Qf
      have e2:=(hvs (oy,.int .u64 y) (by simp) γ a w hs).Qf
      have e3:=(hvs (oc,.int .u64 c) (by simp) γ a w hs).Qf
      refine⟨.tuple #[.int .u64 ((x+y+c) % 18446744073709551616),.int .u64 ((x+y+c) / 18446744073709551616)],?_,.Qt _ _ rfl λi c v hc hv=>?_⟩
      · have e : (execOp a.eval q) = (do let d <- resolve a.eval { callee := .value (.func f), args := #[ox, oy, oc], argTypes := ts } q.type; invoke d.target d.args) := by
          unfold execOp;rw[hop]
        have hr:=run_callFunc_extern hf hname hb hn he #[.int .u64 x,.int .u64 y,.int .u64 c] w
        rw[run_add64 x y c hc.1 hc.2.1 hc.2.2.1 hc.2.2.2] at hr
        rw[e]
        have ef:a.eval (.func f)=.func (.func f) #[] #[]:=rfl
        grind [resolve,Deferred.ofValue,invoke,Result.andThen]
      · rcases i with _|_|i
        · simp at hc hv;subst hc;subst hv;exact .data (.int _ _)
        · simp at hc hv;subst hc;subst hv;exact .data (.int _ _)
        · simp at hc
    exact key
end
theorem Ty.bI{α:Type}{ty:Ty α}(hs:∀y,ty.c y=ty.d y)(y:α){c:V}(hc:c∈ty.c y):c.QN=false:=by
 rw[hs y,<-ty.st y] at hc
 obtain⟨c0,_,rfl⟩:=zH.1 hc
 exact JZ c0
def G2{α:Type}(l:List α)(p:Nat)(r:List α):List α:=l.take p++r++l.drop (p+r.length)
theorem EP{α:Type}(l:List α)(p:Nat)(r:List α)(h:p+r.length<=l.length):(G2 l p r).length=l.length:=by
 simp[G2];omega
theorem qA{α:Type}(l:List α)(p:Nat)(r:List α)(h:p+r.length<=l.length)(q:Nat):(G2 l p r)[q]?=if p<=q/\q < p+r.length then r[q - p]? else l[q]?:=by
 unfold G2
 have e1:(l.take p).length=p:=by simp;omega
 grind
theorem Qs.xZ{G:ze}{γ:Gh}{st:St}{tmps:Array Value}{w:World}(h:Qs G γ st tmps w){α:Type}{ty:Ty α}{l r:List α}{b z p B o:Nat}{cs:Array Value}{e:TypeId}{news:List Value}
  (hk:st.b b=some ⟨z,true,l.map ty.c⟩) (hM:z < Y8) (hs:∀y,ty.c y=ty.d y) (hloc:γ.loc b=some (B,o)) (hown:γ.own B=some (.ZQ b)) (hheap:E9 w B cs e)
  (h4:∀r,r∈l.map ty.c->r.length=z) (h5:o+(l.map ty.c).length * z<=cs.size)
  (h6:∀(i:Nat) (c:V),(l.map ty.c).flatten[i]?=some c->∃v,cs[o+i]?=some v/\Qu γ w st.b st.u c v/\v.oneCell'=true/\D3 γ w (.nest b (i / z) (i % z)) c v) (hlim:γ.Qp B=0)
  (hp:p+r.length<=l.length) (hn:news.length=r.length * z) (hrz:∀q,q∈r.map ty.c->q.length=z)
  (hnew:∀(i:Nat) (c:V),(r.map ty.c).flatten[i]?=some c->∃v,news[i]?=some v/\Qu γ w st.b st.u c v/\v.oneCell'=true) :
  Qs G γ (st.Qh b ⟨z,true,(G2 l p r).map ty.c⟩) tmps (World.QQ w B (E4 cs (o+p * z) news) e)/\Qa γ w γ (World.QQ w B (E4 cs (o+p * z) news) e)/\
   F0 γ st.b st.u γ (st.Qh b ⟨z,true,(G2 l p r).map ty.c⟩).b (st.Qh b ⟨z,true,(G2 l p r).map ty.c⟩).u:=by
 have hl:(l.map ty.c).length=l.length:=by simp
 rw[hl] at h5
 have hle:(p+r.length) * z<=l.length * z:=wF _ hp
 rw[wu] at hle
 obtain⟨r1,r2⟩:=G9 news (o+p * z) cs (by rw[hn];omega)
 have hz':∀q,q∈(G2 l p r).map ty.c->q.length=z:=λq hq=>by
  obtain⟨y,hy,rfl⟩:=zH.1 hq
  unfold G2 at hy
  grind
 refine h.Xg (k:=⟨z,true,l.map ty.c⟩) hk hM hloc hown hheap r1 hlim hz' (by simp[EP l p r hp]) (by grind) λi c hc=>?_
 have hpos:0 < z:=by
  rcases wV z with h0|h0
  ·have:((G2 l p r).map ty.c).flatten=[]:=by
    grind [List.flatten_eq_nil_iff,List.length_eq_zero_iff,trans]
   grind
  ·exact h0
 have ei:i=(i / z) * z+i % z:=by grind [Nat.mul_comm,Nat.div_add_mod]
 have hm:=Nat.mod_lt i hpos
 have hc':=hc
 rw[ei,U7 _ hz' _ _ hm,zX,qA l p r hp] at hc'
 rw[r2,hn]
 by_cases hq:p<=i / z/\i / z < p+r.length
 ·rw[if_pos hq] at hc'
  have a1:p * z<=i / z * z:=wF _ hq.1
  have a2:(i / z+1) * z<=(p+r.length) * z:=wF _ hq.2
  rw[wu,wu] at a2
  rw[if_pos (by omega)]
  have e2:o+i - (o+p * z)=(i / z - p) * z+i % z:=by
   rw[Nat.sub_mul];omega
  have hcr:(r.map ty.c).flatten[(i / z - p) * z+i % z]?=some c:=by grind [U7]
  obtain⟨v,v1,v2,v3⟩:=hnew _ c hcr
  obtain⟨q,hq1,hq2⟩:=wO.1 (zQ hcr)
  obtain⟨y,_,rfl⟩:=zH.1 hq1
  exact⟨v,by grind,v2,v3,.Zh (Ty.bI hs y hq2)⟩
 ·rw[if_neg hq] at hc'
  have hno:¬(o+p * z<=o+i/\o+i < o+p * z+r.length * z):=(by grind [Nat.le_div_iff_mul_le,Nat.div_lt_iff_lt_mul,Nat.add_mul])
  rw[if_neg hno]
  have hcl:(l.map ty.c).flatten[i]?=some c:=by grind [U7]
  grind
section
variable {P:Program} {G:ze}
end
def Q3(s:za):List Int:=s.data.toList.map λb=>(b.toNat:Int)
theorem J3(s:za):(Q3 s).length=s.size:=by
 unfold Q3
 simp_all
theorem EF{ty:Ty Int}(hc:∀x,ty.c x=[.int .u8 x])(l:List Int):(l.map ty.c).flatten=l.map (V.int .u8):=by
 induction l with
 | nil=>rfl
 | cons x l ih=>grind
section
variable {P:Program} {G:ze} {ty:Ty Int}
theorem Ih{w:World}{dT sT t elem:TypeId}{B o n cap:Nat}{s:za}{cs:Array Value}{e:TypeId}(hu:P.underlying dT=some (.slice elem))(hs:(P.info? elem).map (·.size)=some 1)
  (hg:E9 w B cs e) (hle:s.size<=n) (hfit:o+s.size<=cs.size) :
  (Builtin.copy_ #[dT,sT] t #[.slice (some ⟨B,o,none⟩) n cap,.string s]).run P w=.ok (.int .i64 s.size) (World.QQ w B (E4 cs o ((Q3 s).map (Value.int .u8))) e):=by
 have hl:((Q3 s).map (Value.int .u8)).length=s.size:=by rw[wq,J3]
 have hone:∀v,v∈(Q3 s).map (Value.int .u8)->v.oneCell'=true:=λv hv=>by obtain⟨b,_,rfl⟩:=zH.1 hv;rfl
 have hst:=F2 (P:=P) (B:=B) (o:=o) (e:=e) ((Q3 s).map (Value.int .u8)) 0 w cs hg hone (by grind)
 simp only[Nat.add_zero] at hst
 have hmin:Nat.min s.size n=s.size:=Nat.min_eq_left hle
 have htk:List.take s.size (List.map (λb:UInt8=>Value.int IntKind.u8 (b.toNat:Int)) s.data.toList)=(Q3 s).map (Value.int .u8):=by
  simp_all [List.take_of_length_le,wq,Array.length_toList,zI,Q3]
 cases hq:P.info? elem with
 | none=>grind
 | some i=>
  simp_all [zF,Builtin.copy_,Builtin.lenOf,Builtin.firstCells,sizeOf,typeInfo,Result.andThen,goInt]
def Qw.Nl{dT sT elem:TypeId}(ox os:Operand)(d b n:Nat)(l:List Int)(s:za)(hu:P.underlying dT=some (.slice elem):=by kernel_rfl)(hs:(P.info? elem).map (·.size)=some 1:=by kernel_rfl)(hn:l.length=n:=by simp)(hc:∀x,ty.c x=[.int .u8 x]:=by intro _;rfl)
    (hd:∀y,ty.c y=ty.d y:=by intro _;rfl):Qw P G Unit where
  op:=.call { callee:=.builtin .copy,args:=#[ox,os],argTypes:=#[dT,sT] }
  dst:=some d
  ZY:=[(ox,.ref b 0 n),(os,.str s)]
  Zb:=[(b,⟨1,true,l.map ty.c⟩)]
  o:=bif decide (s.size<=n)&&decide (0 < n) then some () else none
  ws:=λ_=>[.b b (some ⟨1,true,(G2 l 0 (Q3 s)).map ty.c⟩),.t d (.int .i64 (s.size:Int))]
  dt:=[b]
  JC:=λ_ q k hm _=>by
    simp only[zO,zT,or_false,Wr.b.injEq,zy,reduceCtorEq] at hm
    obtain⟨_,rfl⟩:=hm
    exact ty.data _
  ok:=λ_ ho x st hop hdst hvs hb hdd=>M1 λγ a w hsim=>by
    have hcc:s.size<=n/\0 < n:=by
      grind
    obtain⟨hle,hpos⟩:=hcc
    have hbb:st.b b=some ⟨1,true,l.map ty.c⟩:=hb (b,⟨1,true,l.map ty.c⟩) (by simp)
    have rx:Qu γ w st.b st.u (.ref b 0 n) (a.eval ox):=hvs (ox,.ref b 0 n) (by simp) γ a w hsim
    have ry:a.eval os=.string s:=(hvs (os,.str s) (by simp) γ a w hsim).QW
    obtain⟨hdn,_⟩:=hdd d rfl
    have hll:(l.map ty.c).length=n:=by grind
    have hfl:=EF hc
    rcases rx.ZZ hbb with⟨B,o,cap,hv,hl,hil,hcap,hroom,hM,hcp⟩|⟨B,_,_,h0,_⟩|⟨_,_,h0,_⟩
    · rcases hsim.b b _ hbb with⟨v1,_⟩|hm|⟨_,B',o',cs,e',h1,h2,h3,h4,h5,h6,h7,h8⟩
      · grind
      · exact(hm.small hM).elim
      rw[hl] at h1;simp only[zy,zJ] at h1
      obtain⟨rfl,rfl⟩:=h1
      simp only at hM h4 h5 h6 h7 hv
      have h5':o+n<=cs.size:=by grind
      have ol:=J3 s
      have ev:a.eval ox=.slice (some ⟨B,o,none⟩) n cap:=by simpa using hv
      have hrun:=Ih (P:=P) (w:=w) (dT:=dT) (sT:=sT) (t:=x.type) (B:=B) (o:=o) (s:=s) (n:=n) (cap:=cap) hu hs h3 hle (by omega)
      have key:=hsim.xZ (r:=Q3 s) (p:=0) (z:=1) (news:=(Q3 s).map (Value.int .u8)) hbb hM hd hl h2 h3 h4 h5 h6 (h7 trivial) (by grind) (by simp) (by grind) (λi c hi=>by
        rw[hfl,zX] at hi
        obtain⟨y,hy,rfl⟩:=zE.1 hi
        exact⟨.int .u8 y,by grind,.data (.int _ _),rfl⟩)
      simp only[Nat.zero_mul,Nat.add_zero] at key
      have pre : execOp a.eval x = (do let v <- Builtin.copy_ #[dT, sT] x.type #[a.eval ox, a.eval os]; pure (.value v)) := by
        have h1:execOp a.eval x=builtin .copy #[dT,sT] x.type (#[ox,os].map fun|.const _=>true|_=>false) (#[ox,os].map a.eval):=by
          show (execOp a.eval x)=_;unfold execOp;rw[hop];rfl
        rw[h1];simp[builtin]
      refine⟨.int .i64 s.size,_,γ,by simp_all,key.2.1,key.2.2.JH,?_⟩
      have hp:=key.1.put (a:=a) (dst:=some d) (c:=.int .i64 (s.size:Int)) (v:=.int .i64 s.size) (by grind [H7,St.Qh]) (.data (.int _ _))
      rw[hdst]
      exact hp
    · grind
    grind
def Qw.octets{s t e:TypeId}(ox:Operand)(d:Nat)(x0:za)(hs:P.underlying s=some .string:=by kernel_rfl)(ht:P.underlying t=some (.slice e):=by kernel_rfl)(he:P.underlying e=some (.int .u8):=by kernel_rfl)
    (hi:(P.info? e).map (·.size)=some 1:=by kernel_rfl) (hc:∀x,ty.c x=[.int .u8 x]:=by intro _;rfl):Qw P G Unit where
  op:=.convert s t ox
  dst:=some d
  ZY:=[(ox,.str x0)]
  Zb:=[]
  o:=some ()
  ws:=λ_=>[.b d (some ⟨1,true,(Q3 x0).map ty.c⟩),.t d (.ref d 0 (Q3 x0).length)]
  dt:=[d]
  JC:=λ_ i k h _=>by
    simp only[zO,Wr.b.injEq,zy,reduceCtorEq,zT,or_false] at h
    rw[h.2];exact ty.data _
  ok:=λ_ _ x st hop hdst hvs _ hd=>M1 λγ a w hsim=>by
    obtain⟨hdn,hu⟩:=hd d rfl
    have ex:a.eval ox=.string x0:=(hvs (ox,.str x0) (by simp) γ a w hsim).QW
    have hfl:=EF hc (Q3 x0)
    have hol:=J3 x0
    have hrun:=run_bytes_of_string (P:=P) w s t e x0 hs ht he
    have hge:x0.size<=grownCap w x0.size 0 e:=grownCap_ge w x0.size 0 e
    obtain⟨N,hN⟩:∃N,N=grownCap w x0.size 0 e:=⟨_,rfl⟩
    rw[<-hN] at hrun hge
    obtain⟨cs,hcs⟩:∃cs,cs=bytesRow x0 N:=⟨_,rfl⟩
    rw[<-hcs] at hrun
    have hsz:cs.size=N:=by
      rw[hcs];unfold bytesRow
      rw[Array.size_append,Array.size_map,Array.size_replicate]
      have:x0.data.size=x0.size:=rfl
      omega
    have hget:∀j,j < x0.size->cs[j]?=((Q3 x0).map (Value.int .u8))[j]?:=(by grind [Array.getElem?_append_left,List.map_map,bytesRow,Q3])
    have key:=hsim.Bj (d:=d) (size:=1) (rows:=(Q3 x0).map ty.c) (cs:=cs) (e:=e) (fz:=(cs.size,cs.size+1)) (w1:=w.drew.alloc (.cells cs e (cs.size,cs.size+1))) (by decide) hu rfl (by grind) ⟨rfl,rfl,rfl⟩
      (by grind) (by grind) (λj c hj=>by
        rw[hfl,zX] at hj
        obtain⟨y,hy,rfl⟩:=zE.1 hj
        have hlt:j < x0.size:=by grind
        exact⟨.int .u8 y,by grind,.data (.int _ _),rfl,rfl⟩)
    refine⟨.slice (some ⟨w.heap.size,0,none⟩) x0.size N,_,γ.add d w.heap.size,?_,key.2.1,key.2.2.JH,?_⟩
    · have e3 : (execOp a.eval x) = (do let v <- convert s t (a.eval ox); pure (.value v) : Sem Next) := by unfold execOp; rw [hop]
      simp_all
    · rw[hdst]
      have hb':=key.1.put (a:=a) (dst:=some d) (c:=.ref d 0 (Q3 x0).length) (v:=.slice (some ⟨w.heap.size,0,none⟩) x0.size N) (by grind [H7,St.Qh]) (by
        have:=Qu.ref (γ:=γ.add d w.heap.size) (w:=w.drew.alloc (.cells cs e (cs.size,cs.size+1))) (bs:=(st.Qh d ⟨1,true,(Q3 x0).map ty.c⟩).b) (u:=(st.Qh d ⟨1,true,(Q3 x0).map ty.c⟩).u)
          d 0 (Q3 x0).length w.heap.size 0 N ⟨1,true,(Q3 x0).map ty.c⟩ (by simp[St.Qh]) (by simp[Gh.add]) (by simp) (by grind) ⟨cs,e,(cs.size,cs.size+1),Array.getElem?_push_size,by rw[hsz];simp⟩ (by show 1 < Y8;decide) (by grind)
        grind)
      exact hb'
end
def Y5(f:Nat->Int):List Int:=[f 0,f 1,f 2,f 3,f 4,f 5,f 6,f 7,f 8,f 9,f 10,f 11,f 12,f 13,f 14,f 15]
def C0(f:Nat->Int):List V:=(Y5 f).map (V.int .i64)
def U5(f:Nat->Int)(n:Nat)(v:Int):Nat->Int:=λi=>bif i==n then v else f i
theorem KP(f:Nat->Int)(i:Nat):(Y5 f)[i]?=if i < 16 then some (f i) else none:=by
 have e:Y5 f=(List.range 16).map f:=rfl
 grind
theorem TF(f:Nat->Int)(n:Nat)(v:Int):(Y5 f).set n v=Y5 (U5 f n v):=by
 refine List.ext_getElem? λi=>?_
 rw[List.getElem?_set,KP,KP]
 have hl:(Y5 f).length=16:=rfl
 rw[hl]
 unfold U5
 by_cases h:n=i
 ·subst h;simp
 grind
def Yo.Im(i:Nat)(t:Ty Int)(f:Nat->Int)(j:Nat)(y:Int):Yo:=
 ⟨[.b i (some ⟨1,true,((Y5 f).map t.c).set j (t.c y)⟩)],[.b i (some ⟨1,true,(Y5 (U5 f j y)).map t.c⟩)],by rw[<-TF,List.map_set],[i],λb k h _=>by
  simp only[wm,Wr.b.injEq,zy] at h
  obtain⟨_,rfl⟩:=h
  exact t.data _⟩
def X9(f:Nat->Int):List Int:=[f 0,f 1,f 2,f 3,f 4,f 5,f 6,f 7,f 8,f 9,f 10,f 11,f 12,f 13,f 14,f 15,f 16,f 17,f 18,f 19,f 20,f 21,f 22,f 23,f 24,f 25,f 26,f 27,f 28,f 29,f 30,f 31]
def TN(f:Nat->Int):List V:=(X9 f).map (V.int .u8)
def Ze(s:za):Nat->Int:=λi=>QZ s (i:Int)
theorem Yg(f:Nat->Int)(i:Nat):(X9 f)[i]?=if i < 32 then some (f i) else none:=by
 have e:X9 f=(List.range 32).map f:=rfl
 grind
theorem TG(f:Nat->Int)(n:Nat)(v:Int):(X9 f).set n v=X9 (U5 f n v):=by
 refine List.ext_getElem? λi=>?_
 rw[List.getElem?_set,Yg,Yg]
 have hl:(X9 f).length=32:=rfl
 rw[hl]
 unfold U5
 by_cases h:n=i
 ·subst h;simp
 grind
def Yo.Qzq(i:Nat)(t:Ty Int)(f:Nat->Int)(j:Nat)(y:Int):Yo:=
 ⟨[.b i (some ⟨1,true,((X9 f).map t.c).set j (t.c y)⟩)],[.b i (some ⟨1,true,(X9 (U5 f j y)).map t.c⟩)],by rw[<-TG,List.map_set],[i],λb k h _=>by
  simp only[wm,Wr.b.injEq,zy] at h
  obtain⟨_,rfl⟩:=h
  exact t.data _⟩
def Qw.gY{P:Program}{G:ze}(t:TypeId)(ox:Operand)(d b:Nat)(k:Qi)(n len:Nat){e:TypeId}(ht:P.underlying t=some (.array n e):=by kernel_rfl):Qw P G Unit where
  op:=.sliceToArrayPointer t ox
  dst:=some d
  ZY:=[(ox,.ref b 0 len)]
  Zb:=[(b,k)]
  o:=bif decide (n<=len)&&decide (0 < n) then some () else none
  ws:=λ_=>[.t d (.ptr b 0 0)]
  dt:=[]
  JC:=(by grind)
  ok:=λ_ ho x st hop hdst hvs hb hd=>by
    have hn:n<=len/\0 < n:=by
      grind
    obtain⟨hdn,hu⟩:=hd d rfl
    have key:I2 P G x st (st.put (some d) (.ptr b 0 0)):=by
      rw[<-hdst]
      refine M4 (by grind [H7]) λγ a w hs=>?_
      have hx:=hvs (ox,.ref b 0 len) (by simp) γ a w hs
      have hk:=hb (b,k) (by simp)
      rcases hx.ZZ hk with⟨B,o,cap,hv,hl,_,_,_,hM,_⟩|⟨_,_,h0,_⟩|⟨_,h0,_⟩
      rotate_left
      · omega
      · omega
      refine⟨.pointer (some ⟨B,o+0 * k.size,none⟩),?_,?_⟩
      · have hlt:¬len < n:=by omega
        simp[execOp,hop,hv,Instr.arrayAt,zF ht,hlt]
      · have:=Qu.ptr (γ:=γ) (w:=w) (u:=st.u) b 0 0 B o k hk hl hM
        grind
    exact key
def Qw.Qhx{P:Program}{G:ze}(t:TypeId)(ox:Operand)(d b:Nat)(k:Qi)(n:Nat){e:TypeId}(ht:P.underlying t=some (.array n e):=by kernel_rfl)(he:(P.info? e).map (·.size)=some k.size:=by kernel_rfl)(hk0:k.rows.length=n:=by kernel_rfl)(hM:k.size < Y8:=by show 1 < Y8;decide):Qw P G Unit where
  op:=.slice t ox none none none
  dst:=some d
  ZY:=[(ox,.ptr b 0 0)]
  Zb:=[(b,k)]
  o:=some ()
  ws:=λ_=>[.t d (.ref b 0 n)]
  dt:=[]
  JC:=(by grind)
  ok:=λ_ _ x st hop hdst hvs hb hd=>by
    obtain⟨hdn,hu⟩:=hd d rfl
    have key:I2 P G x st (st.put (some d) (.ref b 0 n)):=by
      rw[<-hdst]
      refine M4 (by grind [H7]) λγ a w hs=>?_
      have hx:=hvs (ox,.ptr b 0 0) (by simp) γ a w hs
      have hk:=hb (b,k) (by simp)
      obtain⟨B,o,hv,hl⟩:=hx.Zk hk
      have hat:BM γ w st.b st.u b k:=by
        rcases hs.b b k hk with⟨h0,_⟩|hm|ha
        · grind
        · exact(hm.small hM).elim
        · exact ha
      obtain⟨_,B',o',cs,e',g1,g2,g3,g4,g5,g6,_,_⟩:=hat
      rw[hl] at g1;simp only[zy,zJ] at g1
      obtain⟨rfl,rfl⟩:=g1
      obtain⟨ej,hej,hsz⟩:=zE.1 he
      have ha:P.arrayLen t=n:=by simp[Program.arrayLen,ht]
      have hel:P.elem t=e:=by simp[Program.elem,ht]
      refine⟨.slice (some ⟨B,o+(0 * k.size+0),none⟩) n n,?_,?_⟩
      · simp_all [run_sliceAt_array_all,ok,Option.map_none,zM,zN,wi,sizeOf,typeInfo,execOp,slicedAt,Addr.add]
      · have:=Qu.ref (γ:=γ) (w:=w) (bs:=st.b) (u:=st.u) b 0 n B o n k hk hl (by omega) (zI _) (g3.room (by grind)) hM (by omega)
        grind
    exact key
def Qw.Qk1{P:Program}{G:ze}(f:FuncId){fn:Func}(ox oy oc:Operand)(ts:Array TypeId)(d:Nat)(x y c:Int)(hf:P.funcs[f]?=some fn)(hname:(fn.name== "runtime.NumGoroutine")=false)(hb:fn.body.isNone=true)(hn:Extern.findNext fn=none)
  (he:Extern.find fn=some add64Entry):Qw P G (Int×Int) where
 op:=.call { callee:=.value (.func f),args:=#[ox,oy,oc],argTypes:=ts }
 dst:=some d
 ZY:=[(ox,.int .u64 x),(oy,.int .u64 y),(oc,.int .u64 c)]
 Zb:=[]
 o:=bif decide (0<=x)&&decide (0<=y)&&decide (0<=c)&&decide (c<=1) then some ((x+y+c) % 18446744073709551616,(x+y+c) / 18446744073709551616) else none
 ws:=λr=>[.t d (.Qt [.int .u64 r.1,.int .u64 r.2])]
 dt:=[]
 JC:=(by grind)
 ok:=λr ho q st=>by
  cases h:decide (0<=x)&&decide (0<=y)&&decide (0<=c)&&decide (c<=1) with
  | false=>grind
  | true=>
   rw[h] at ho
   obtain rfl:=zW ho
   exact(Qw.Qhn (P:=P) (G:=G) f ox oy oc ts d x y c hf hname hb hn he).ok () (by show (bif _ then _ else _)=_;rw[h];rfl) q st
def Qw.Qeu{P:Program}{G:ze}(f:FuncId){fn:Func}(os oc:Operand)(ts:Array TypeId)(d:Nat)(s:za)(c:Int)(hf:P.funcs[f]?=some fn)(hname:(fn.name== "runtime.NumGoroutine")=false)(hb:fn.body.isNone=true)(hn:Extern.findNext fn=none)
    (he:Extern.find fn=some Extern.BytealgIndexByte.indexByte):Qw P G Unit where
  op:=.call { callee:=.value (.func f),args:=#[os,oc],argTypes:=ts }
  dst:=some d
  ZY:=[(os,.str s),(oc,.int .u8 c)]
  Zb:=[]
  o:=some ()
  ws:=λ_=>[.t d (.int .i64 (firstIdx s c.toNat.toUInt8))]
  dt:=[]
  JC:=(by grind)
  ok:=λ_ _ q st hop hdst hvs _ hd=>by
    obtain⟨hdn,hu⟩:=hd d rfl
    have key:I2 P G q st (st.put (some d) (.int .i64 (firstIdx s c.toNat.toUInt8))):=by
      rw[<-hdst]
      refine M4 (by grind [H7]) λγ a w hs=>?_
      have e1:=(hvs (os,.str s) (by simp) γ a w hs).QW
      have e2:=(hvs (oc,.int .u8 c) (by simp) γ a w hs).Qf
      refine⟨.int .i64 (firstIdx s c.toNat.toUInt8),?_,.data (.int _ _)⟩
      have e : (execOp a.eval q) = (do let d <- resolve a.eval { callee := .value (.func f), args := #[os, oc], argTypes := ts } q.type; invoke d.target d.args) := by
        unfold execOp;rw[hop]
      have hr:=run_callFunc_extern hf hname hb hn he #[.string s,.int .u8 c] w
      rw[run_indexByte_string s c] at hr
      rw[e]
      have ef:a.eval (.func f)=.func (.func f) #[] #[]:=rfl
      grind [resolve,Deferred.ofValue,invoke,Result.andThen]
    exact key
section
variable {P:Program} {G:ze}
theorem Py{g:Operand}{L:YL}{bs:zg}{f:FuncId}{fi:Func}{c:Code}{first caps:List V}{R Rp:Exit->(zg)->Prop}{Q:Exit->St->Prop}
  (hg:(M8 L.n L.t bs).ev G g=some (.fn f first caps)) (ht:∀i,okV X1 (L.t i)=true) (hf:P.funcs[f]?=some fi) (hb:fi.body=some c) (hname:(fi.name== "runtime.NumGoroutine")=false) (hres:fi.results=#[])
  (hi:OQ P G c (max fi.ntmps (first.length+1+caps.length)) (λl=>first++.QP l :: caps) bs L R Rp)
  (hR:∀e b',R e b'->(e=.normal\/e=.ret\/∃id,e=.exit id)/\Q e (M8 L.n L.t b')) (hp:∀e b',Rp e b'->Q e (M8 L.n L.t b')):TV P G (.rangeFunc g L.ps L.assign L.body) (M8 L.n L.t bs) Q:=λfx γ a w hs hx=>by
 refine wpIn_rangeFunc λfn _=>?_
 obtain⟨fs,cv,hv,l1,l2,p1,p2⟩:=(hs.ev hg).HE
 obtain⟨l,D,Ds,w1,hrun,hnd,hL,gw,hown,hlo,hdf⟩:=CC (P:=P) (L:=L) fn hs hx
 have env:Env G L γ w bs l D Ds w1.heap.size a.tmps (A5 fn a.tmps L.ps L.assign L.body D .normal) γ bs Qk w1:=
  ⟨hs,gw.1,Zr.refl hs.u,hL,hown,(by grind),hdf⟩
 have hbody':¬fi.body=none:=by rw[hb];simp
 have hname':¬fi.name= "runtime.NumGoroutine":=by grind
 refine⟨l,Ds.map ZP,w1,{ target:=.fn (.func f) cv.toArray,args:=fs.toArray++#[Value.func (Fn.yield l) #[] #[]] },w1,f,fs.toArray++#[Value.func (Fn.yield l) #[] #[]]++cv.toArray,w1,hrun,?_,λ_ _=>trivial,?_,(by grind [RF,Fence.wide]),?_⟩
 ·simp_all [resolve,rangeCall,Deferred.ofValue,Act.eval]
 ·simp_all [invoke,callFunc]
 ·refine Nc ((callsIn_wide (n:=0)).1 (callsIn_of_wp_marks hf hb trivial ?_))
  have key:=hi fn γ w bs l D Ds w1.heap.size a.tmps γ
   { tmps:=(fs.toArray++#[Value.func (Fn.yield l) #[] #[]]++cv.toArray)++Array.replicate (fi.ntmps - (fs.toArray++#[Value.func (Fn.yield l) #[] #[]]++cv.toArray).size) undef,defers:=[] } w1 env ?_ rfl
  ·refine wpIn_mono key λe a' w' h=>?_
   obtain⟨e2,b',γ',ni,ti,tm,h3,h4,h5,Es,k1,k2,k3⟩:=h
   have inv:∀E w'',E∈Es->(Env G L γ w bs l D Ds w1.heap.size a.tmps (A5 fn a.tmps L.ps L.assign L.body D e2) γ' b' Qk w''/\Qs G γ' (M8 ni ti b') tm w'')->w''.heap[E]?=some (.deferred (some []))->
     Env G L γ w bs l D Ds w1.heap.size a.tmps (A5 fn a.tmps L.ps L.assign L.body D e2) γ' b' Qk (w''.putObj E (.deferred none))/\Qs G γ' (M8 ni ti b') tm (w''.putObj E (.deferred none)):=λE w'' hE hI hd=>
    ⟨hI.1.put hd rfl (by grind) (by grind) (by grind),(Y2.put hd rfl).Gq hI.2⟩
   have lift:∀{r w3},Env G L γ w bs l D Ds w1.heap.size a.tmps r γ' b' Qk w3->Qs G γ' (M8 ni ti b') tm w3->∀e3 a3,a3.tmps=a.tmps->a3.defers=Ds.map ZP++a.defers->Q e3 (M8 L.n L.t b')->L0 G fx γ (M8 L.n L.t bs) w Q e3 a3 w3:=λ{r w3} h6 h5 e3 a3 e1 e2 hq=>
    ⟨M8 L.n L.t b',γ',by rw[e1];exact h6.Vb.resume ht h6.grow h6.JH h5,⟨h6.grow,h6.JH⟩,⟨Ds,λh=>by rw[hx.2.1] at h;simp at h,by rw[e2,hx.1],hnd,λE hE=>by
     obtain⟨d1,d2,d3,_⟩:=h6.dfr E hE
     grind⟩,hq⟩
   rcases h3 with⟨h1,h3⟩|⟨⟨ch,rfl⟩,h3⟩
   rotate_left
   ·show LeavesInM (RF none) 0 P fi a'.tmps _ a'.defers (.panicking ch) w'
    rw[k1,<-wz (Es.map ZP)]
    refine L8 (by simp) (λw''=>Env G L γ w bs l D Ds w1.heap.size a.tmps (A5 fn a.tmps L.ps L.assign L.body D e2) γ' b' Qk w''/\Qs G γ' (M8 ni ti b') tm w'')
     (λw'' hI=>?_) Es w' ⟨h4,h5⟩ k2 (λE hE=>(k3 E hE).2.1) inv
    exact lift hI.1 hI.2 _ { a with defers:=Ds.map ZP++a.defers } rfl rfl (hp _ _ h3)
   have fin:LeavesInM (RF none) 0 P fi a'.tmps (rangePost (RF fx.ro) 0 P l (L0 G fx γ (M8 L.n L.t bs) w Q) { a with defers:=Ds.map ZP++a.defers }) a'.defers .returning w':=by
    rw[k1]
    refine Yz (λw''=>Env G L γ w bs l D Ds w1.heap.size a.tmps (A5 fn a.tmps L.ps L.assign L.body D e2) γ' b' Qk w''/\Qs G γ' (M8 ni ti b') tm w'') (λw'' hI=>?_) Es w' ⟨h4,h5⟩ k2 (λE hE=>(k3 E hE).2.1) inv
    obtain⟨h4,h5⟩:=hI
    refine⟨.tuple #[],by rw[XH,hres,zM];simp_all,?_⟩
    refine⟨_,_,run_endLoop h4.loop (by grind [A5]),?_⟩
    have h6:=h4.record { A5 fn a.tmps L.ps L.assign L.body D e2 with state:=.exhausted }
    have l6:=lift h6 ((Y2.put h4.loop rfl).Gq h5)
    obtain⟨q1,q2⟩:=hR e2 b' h3
    rcases q1 with rfl|rfl|⟨id,rfl⟩
    ·exact l6 .normal _ rfl rfl q2
    ·exact wpIn_ret (l6 .ret _ rfl rfl q2)
    ·exact wpIn_exit (by grind)
   rcases h1 with rfl|rfl
   ·exact fin
   ·exact fin
  ·refine gw.2.Gq ⟨by show _=max fi.ntmps (first.length+1+caps.length);simp;omega,λi=>?_,hs.b,hs.u,hs.g,hs.o⟩
   have hvals:∀j x,(first++.QP l :: caps)[j]?=some x->∃y,(fs++Value.func (Fn.yield l) #[] #[] :: cv)[j]?=some y/\Qu γ w bs Qk x y:=λj x hx=>by
    rcases wH j first.length with hj|hj
    ·rw[wg hj] at hx
     have hj':j < fs.length:=by omega
     refine⟨fs[j],by rw[wg hj'];grind,p1 j x _ hx (by grind)⟩
    ·rw[wl hj] at hx
     rw[wl (by omega)]
     rw[l1]
     cases hk:j - first.length with
     | zero=>
      rw[hk] at hx
      simp only[wU,zy] at hx
      subst hx
      exact⟨_,rfl,.data (.QP _)⟩
     | succ k=>
      rw[hk] at hx
      simp only[List.getElem?_cons_succ] at hx ⊢
      have hk2:=(wh.1 hx).1
      exact⟨cv[k]'(by omega),wd (by omega),p2 k x _ hx (wd (by omega))⟩
   have e:((fs.toArray++#[Value.func (Fn.yield l) #[] #[]]++cv.toArray)++Array.replicate (fi.ntmps - (fs.toArray++#[Value.func (Fn.yield l) #[] #[]]++cv.toArray).size) undef).getD i undef=((fs++Value.func (Fn.yield l) #[] #[] :: cv)++List.replicate (fi.ntmps - (fs.length+1+cv.length)) undef).getD i undef:=by
    rw[wk,wv]
    congr 1
    rw[<-Array.getElem?_toList]
    have hn:fi.ntmps - (fs.toArray++#[Value.func (Fn.yield l) #[] #[]]++cv.toArray).size=fi.ntmps - (fs.length+1+cv.length):=by
     simp only[Array.size_append,List.size_toArray,wK,List.length_nil]
    rw[hn]
    simp only[Array.toList_append,Array.toList_replicate,List.append_assoc,List.singleton_append]
   show Qu _ _ _ _ _ (Array.getD _ i undef)
   rw[e]
   show Qu _ _ _ _ ((first++.QP l :: caps).getD i .undef) _
   cases hx:(first++.QP l :: caps)[i]? with
   | none=>rw[wv,hx];exact .undef _
   | some x=>
    obtain⟨y,hy,hr⟩:=hvals i x hx
    have hi':=(wh.1 hy).1
    rw[wv,wv,hx,wg hi',hy]
    exact hr
theorem J2.Ku{L:YL}{l:Nat}{s:YS}{Q:Exit->YS->Prop}{ops:Array Oper}{i:Nat}{is:List Nat}{o:Oper}{x:Operand}{xs:Array Operand}{ts:Array TypeId}{cs:List V}{R:Exit->(zg)->Prop}(hi:ops[i]?=some o)(hgd:M6 ops s.st o=some true)
  (ho:o.op=.call { callee:=.value x,args:=xs,argTypes:=ts }) (hx:s.st.ev G x=some (.QP l)) (hcs:iL (s.st.ev G) xs.toList=some cs) (hdst:H7 s.st.n o.dst=true)
  (hsu:s.st.u=Qk) (hsx:s.x=.normal) (hti:∀i,okV X1 (s.st.t i)=true) (ht:∀i,okV X1 (L.t i)=true) (hpn:∀p,p∈L.ps.toList->p < L.n) (hps:cs.length=L.ps.size) (hr:Jr P G L.n L.t L.ps.toList L.assign L.body s.st.b cs R)
  (hR:∀e b',R e b'->e=.normal\/e=.ret\/∃id,e=.exit id)
  (hn:∀e b',R e b'->J2 P G L l ops is ⟨e,(M8 s.st.n s.st.t b').put o.dst (.bool (Yt e).isNone)⟩ Q):J2 P G L l ops (i :: is) s Q:=λfn γ0 w0 b0 D Ds sz te γ a w he hs hd=>by
 obtain⟨sx,⟨ni,ti,b,u⟩⟩:=s
 simp only at hsu hsx
 subst hsu;subst hsx
 simp only[wpOpsIn,hi]
 have hw:Region.wanted o (yielded ops a.tmps)=true:=W3 hs hgd
 rw[if_pos hw]
 have pu:∀(e:Exit) (b':zg),((M8 ni ti b').put o.dst (.bool (Yt e).isNone)).b=b'/\((M8 ni ti b').put o.dst (.bool (Yt e).isNone)).u=Qk:=λe b'=>by
  cases o.dst<;>exact⟨rfl,rfl⟩
 exact TW ho hx hcs hs hti ht hpn he hps hr hR hd λe b' γ' w' h1 h2 h3 h4 _=>hn e b' h1 fn γ0 w0 b0 D Ds sz te γ' _ w' (by grind) (h3.put hdst (.data (.bool _))) (by rw[D6];exact h4)
end
theorem TV.sJ{P:Program}{G:ze}{g:Operand}{ps:Array Tmp}{assign body:Code}{st:St}{f:FuncId}{fi:Func}{c:Code}{first caps:List V}{R Rp:Exit->(zg)->Prop}{Q:Exit->St->Prop}
  (hg:st.shift.ev G g=some (.fn f first caps)) (hf:P.funcs[f]?=some fi) (hb:fi.body=some c) (hname:(fi.name== "runtime.NumGoroutine")=false) (hres:fi.results=#[]) (hu:∀b k,st.b b=some k->st.u b=true) (hpn:∀i,okV X1 (H8 sh (st.t i))=true)
  (hi:OQ P G c (max fi.ntmps (first.length+1+caps.length)) (λl=>first++.QP l :: caps) (Zz st.b) ⟨st.n,λi=>H8 sh (st.t i),ps,assign,body⟩ R Rp)
  (hR:∀e b',R e b'->(e=.normal\/e=.ret\/∃id,e=.exit id)/\∃b0,b'=Zz b0/\(⟨st.n,st.t,b0,st.u⟩:St).known/\Q e ⟨st.n,st.t,b0,st.u⟩) (hp:∀e b',Rp e b'->∃b0,b'=Zz b0/\(⟨st.n,st.t,b0,st.u⟩:St).known/\Q e ⟨st.n,st.t,b0,st.u⟩):TV P G (.rangeFunc g ps assign body) st Q:=λfx γ a w hs hx=>by
 have hx':Uu fx γ.shift a.defers w:=⟨hx.1,hx.2.1,λl hl=>⟨(hx.2.2 l hl).1,by simp only[Gh.shift,(hx.2.2 l hl).2];rfl⟩⟩
 have key:CW fx.ro P (.rangeFunc g ps assign body) (L0 G fx γ.shift st.shift w (λe s=>∃s':St,s=s'.shift/\s'.u=st.u/\s'.known/\Q e s')) a w  :=Py (first:=first) (L:=⟨st.n,λi=>H8 sh (st.t i),ps,assign,body⟩) (bs:=Zz st.b) (Q:=λe s=>∃s':St,s=s'.shift/\s'.u=st.u/\s'.known/\Q e s') hg hpn hf hb hname hres hi (λe b' h=>by
   obtain⟨h1,b0,rfl,h2,h3⟩:=hR e b' h
   exact⟨h1,⟨st.n,st.t,b0,st.u⟩,rfl,rfl,h2,h3⟩) (λe b' h=>by
   obtain⟨b0,rfl,h2,h3⟩:=hp e b' h
   exact⟨⟨st.n,st.t,b0,st.u⟩,rfl,rfl,h2,h3⟩) fx γ.shift a w hs.shift hx'
 grind [wpIn_mono,L0.Ql]
theorem TV.XD{P:Program}{G:ze}{g:Operand}{ps:Array Tmp}{assign body:Code}{st:St}{f:FuncId}{fi:Func}{c:Code}{first caps:List V}{R:Exit->(zg)->Prop}{Q:Exit->St->Prop}
  (hg:st.shift.ev G g=some (.fn f first caps)) (hf:P.funcs[f]?=some fi) (hb:fi.body=some c) (hname:(fi.name== "runtime.NumGoroutine")=false) (hres:fi.results=#[]) (hu:∀b k,st.b b=some k->st.u b=true) (hpn:∀i,okV X1 (H8 sh (st.t i))=true)
  (hi:Uj P G c (max fi.ntmps (first.length+1+caps.length)) (λl=>first++.QP l :: caps) (Zz st.b) ⟨st.n,λi=>H8 sh (st.t i),ps,assign,body⟩ R)
  (hR:∀e b',R e b'->(e=.normal\/e=.ret\/∃id,e=.exit id)/\∃b0,b'=Zz b0/\(⟨st.n,st.t,b0,st.u⟩:St).known/\Q e ⟨st.n,st.t,b0,st.u⟩):TV P G (.rangeFunc g ps assign body) st Q:=TV.sJ hg hf hb hname hres hu hpn hi hR λ_ _ h=>h.elim
theorem aM{l:List (Nat×Qi)}(h:(l.map (·.1)).Nodup){p:Nat×Qi}(hp:p∈l):Qe l p.1=some p.2:=by
 induction l with
 | nil=>simp at hp
 | cons q l ih=>
  rw[XT]
  grind
theorem QH.mob{G:ze}{lits rest:List (Nat×Qi)}{kd:Qi}{d m n:Nat}(hdm:d≠m)(hpm:X1 m=false)(hm:Qk m=true)(hnd:((lits++(d,kd) :: rest).map (·.1)).Nodup)(hkd:J8 kd.rows)(hrd:∀p,p∈rest->J8 p.2.rows)
  (hl:(lits.all λp=>p.1 != m&&Qk p.1&&(p.2.rows.all λr=>r.all (okV λi=>(((lits++(d,kd) :: rest).map (·.1)).contains i || Qk i)&&i != m))&&((p.2.Qc (K4 d m)).rows.all λr=>r.all (okV Qk)))=true)
  (hr:(rest.all λp=>p.1 != m&&Qk p.1)=true) :
  QH G (E6 n [] (lits++(d,kd) :: rest) ((lits++(d,kd) :: rest).map (·.1))) (M8 n (λ_=>.undef) (Qe ((lits.map λp=>(p.1,p.2.Qc (K4 d m)))++(m,kd) :: rest))):=by
 let bs:=lits++(d,kd) :: rest
 let u1:Nat->Bool:=λi=>(((lits++(d,kd) :: rest).map (·.1)).contains i || Qk i)&&i != m
 let st1:St:=⟨n,λ_=>.undef,Qe bs,u1⟩
 have hbo:∀b k,st1.b b=some k->(b,k)∈bs:=(by grind [N0,Qe])
 have hne:∀p,p∈bs->p.1≠m:=(by grind)
 have f1:F9 (E6 n [] bs (bs.map (·.1))) st1:=⟨rfl,λi=>.inl rfl,λb=>.inr ⟨rfl,λk hk=>by
  have hmem:=hbo b k hk
  refine⟨?_,λr hr' c hc=>?_⟩
  ·grind
  ·rcases wa.1 hmem with h|h
   ·grind
   ·rcases zO.1 h with h|h
    ·cases h;exact R9 (hkd r hr' c hc) _
    ·exact R9 (hrd _ h r hr' c hc) _⟩,(by grind [Hu,Qk])⟩
 have hu1:st1.u m=false:=by grind
 refine QH.trans (QH.forget f1) (QH.trans (QH.ZU hdm hu1) (QH.forget ⟨rfl,λi=>.inl rfl,λb=>?_,λb hb=>Hu hb⟩))
 show Qe _ b=none\/_
 cases hf:Qe ((lits.map λp=>(p.1,p.2.Qc (K4 d m)))++(m,kd) :: rest) b with
 | none=>exact .inl rfl
 | some k=>
  have hmem:=N0 hf
  have look:∀p,p∈bs->st1.b p.1=some p.2:=λp hp=>aM hnd hp
  rcases wa.1 hmem with h|h
  ·obtain⟨p,hp,e⟩:=zH.1 h
   simp only[zJ] at e
   obtain⟨rfl,rfl⟩:=e
   have hpm':=hne p (wM _ hp)
   have hpd:p.1≠d:=(by grind)
   have hall:=zG.1 hl p hp
   simp only[zD] at hall
   refine .inr ⟨?_,λk hk=>?_⟩
   ·show Qe _ p.1=(if p.1=m then (st1.b d).map (Qi.Qc (K4 d m)) else if p.1=d then none else (st1.b p.1).map (Qi.Qc (K4 d m)))
    grind
   ·have hk':(if p.1=m then (st1.b d).map (Qi.Qc (K4 d m)) else if p.1=d then none else (st1.b p.1).map (Qi.Qc (K4 d m)))=some k:=hk
    rw[if_neg hpm',if_neg hpd,look p (wM _ hp)] at hk'
    simp only[ww,zy] at hk'
    subst hk'
    exact⟨hall.1.1.2,λr hr' c hc=>zG.1 (zG.1 hall.2 r hr') c hc⟩
  ·rcases zO.1 h with h|h
   ·cases h
    refine .inr ⟨?_,λk' hk=>?_⟩
    ·show Qe _ m=(if m=m then (st1.b d).map (Qi.Qc (K4 d m)) else if m=d then none else (st1.b m).map (Qi.Qc (K4 d m)))
     rw[hf,if_pos rfl,look (d,kd) (by simp[bs])]
     simp only[ww,hkd.Qc]
    ·have hk':(if m=m then (st1.b d).map (Qi.Qc (K4 d m)) else if m=d then none else (st1.b m).map (Qi.Qc (K4 d m)))=some k':=hk
     rw[if_pos rfl,look (d,kd) (by simp[bs])] at hk'
     simp only[ww,hkd.Qc,zy] at hk'
     subst hk'
     exact⟨hm,λr hr' c hc=>R9 (hkd r hr' c hc) _⟩
   ·have hin:(b,k)∈bs:=(by grind)
    have hpm':b≠m:=hne _ hin
    have hpd:b≠d:=(by grind)
    have hall:=zG.1 hr _ h
    simp only[zD] at hall
    have hk3:(k:Qi).Qc (K4 d m)=k:=(hrd _ h).Qc _
    refine .inr ⟨?_,λk' hk=>?_⟩
    ·show Qe _ b=(if b=m then (st1.b d).map (Qi.Qc (K4 d m)) else if b=d then none else (st1.b b).map (Qi.Qc (K4 d m)))
     grind
    ·have hk':(if b=m then (st1.b d).map (Qi.Qc (K4 d m)) else if b=d then none else (st1.b b).map (Qi.Qc (K4 d m)))=some k':=hk
     rw[if_neg hpm',if_neg hpd,look (b,k) hin] at hk'
     simp only[ww,hk3,zy] at hk'
     subst hk'
     exact⟨hall.2,λr hr' c hc=>R9 (hrd _ h r hr' c hc) _⟩
def cL:Code->Code
 | .seq x _=>x
 | _=>.skip
def cR:Code->Code
 | .seq _ y=>y
 | _=>.skip
def cB:Code->Code
 | .block _ y=>y
 | .loop y=>y
 | .scope y=>y
 | _=>.skip
def Mk:Code->Code
 | .rangeFunc _ _ a _=>a
 | _=>.skip
def A6:Code->Code
 | .rangeFunc _ _ _ b=>b
 | _=>.skip
def Ik:Code->Array Oper
 | .region _ o _=>o
 | _=>#[]
theorem T0{σ ε:Type}(f:σ->Option (σ⊕ε))(m:Nat)(x:σ):X7 f (m+1) x=(match f x with|none=>none|some (.inl z)=>X7 f m z|some (.inr e)=>some e):=by
 grind [X7]
theorem QH.same{G:ze}(st:St):QH G st st:=λγ _ w hs=>⟨γ,hs,.refl γ w,.refl hs.u⟩
theorem ZL{l:List (Nat×Qi)}{b:Nat}{k:Qi}(h:Qe l b=some k):∃q,q∈l/\q.1=b/\q.2=k:=by
 grind [List.mem_of_find?_eq_some,Option.some.inj,Qe]
section
variable {P:Program} {G:ze}
end
theorem Qa.below{γ:Gh}{w w':World}(b:RowKit.Below w.heap.size w w'):Qa γ w γ w' where
 os:=b.os
 tape:=b.tape
 output:=b.output
 size:=b.size
 NS:=λB o v _ h=>by
  have hb:=JV h
  unfold cellAt World.cell? at h ⊢
  rw[b.block B hb];exact h
 Qp:=λ_ _=>zI _
 free:=λB hB h=>⟨b.block B hB,h,rfl⟩
 room:=λB cs e fz h=>by
  refine⟨cs,fz,?_,rfl,.inl rfl⟩
  rw[b.block B (by
   grind)]
  exact h
theorem Uv{P:Program}{G:ze}{f:FuncId}{args:List V}{res:V}{v:Value}
  (h:∀(γ:Gh) (w:World) as,U4 γ w (Qe []) Qk args as->Calls P f as w λe w'=>e=.returned v/\RowKit.Below w.heap.size w w')
  (hres:∀(γ:Gh) (w:World) bs u,Qu γ w bs u res v):QR P G f args (Qe []) res (Qe []):=λγ w as _ hown hc _=>by
 refine(h γ w as hc).mono λe w' hh=>?_
 obtain⟨rfl,b⟩:=hh
 refine⟨v,γ,rfl,Qa.below b,?_,hres _ _ _ _,(by grind [Qe]),λB x hB=>wG (hown B x hB) b.size⟩
 exact λb _=>(by grind)
theorem Nv{P:Program}{G:ze}{f:FuncId}{args:List V}{vs:Array Value}{res:V}{v:Value}
  (hargs:∀(γ:Gh) (w:World) as,U4 γ w (Qe []) Qk args as->as=vs) (h:∀w,Calls P f vs w λe w'=>e=.returned v/\RowKit.Below w.heap.size w w')
  (hres:∀(γ:Gh) (w:World) bs u,Qu γ w bs u res v):QR P G f args (Qe []) res (Qe []):=
 Uv (λγ w as hc=>by obtain rfl:=hargs γ w as hc;exact h w) hres
theorem NM{γ:Gh}{w:World}{x y:V}{as}(h:U4 γ w (Qe []) Qk [x,y] as):∃a b,as=#[a,b]/\Qu γ w (Qe []) Qk x a/\Qu γ w (Qe []) Qk y b:=by
 obtain⟨h1,h2⟩:=h
 match as,h1 with
 | ⟨[a,b]⟩,_=>exact⟨a,b,rfl,h2 0 x a rfl rfl,h2 1 y b rfl rfl⟩
theorem kK{s:za}(γ:Gh)(w:World) as (h:U4 γ w (Qe []) Qk [.str s] as):as=#[.string s]:=by
 obtain⟨h1,h2⟩:=h
 have h0:0 < as.size:=by grind
 have:=(h2 0 (.str s) as[0] rfl (by grind)).QW
 grind
def OZ(P:Program)(G:ze)(f:FuncId)(args:List V)(ins:zg)(u u':FrameMode)(outs:zg):Prop:=
 ∀(γ:Gh) (w:World) (as:Array Value),UH G γ w->(∀B x,γ.own B=some x->B < w.heap.size)->U4 γ w ins Qk args as->
  (∀b k,ins b=some k->Qk b=true/\D4 γ w ins Qk b k)->
  CallsDIn (RF none) 0 P f as u w λe u2 w'=>u2=u'/\∃v γ',e=.returned v/\Qa γ w γ' w'/\Zr γ ins Qk γ' outs (λ_=>true)/\
   (∀b k,outs b=some k->D4 γ' w' outs (λ_=>true) b k)/\(∀B x,γ'.own B=some x->B < w'.heap.size)
theorem Qu.SU{γ γ':Gh}{w w':World}{bs bs':zg}{u u':zh}{b i o:Nat}{v:Value}{k:Qi}(h:Qu γ w bs u (.ptr b i o) v)(hk:bs b=some k)(hb:X1 b=true)(p:Zr γ bs u γ' bs' u') :
  Qu γ' w' bs' u' (.ptr b i o) v:=by
 obtain⟨B,off,rfl,hl⟩:=h.Zk hk
 have hM:=h.Zl hk
 obtain⟨h1,h2⟩:=(p b hb).2.2 k hk
 rcases h2 with h2|⟨k',q1,q2,_,q4⟩
 ·exact .QK b i o _ h2 h1 rfl
 ·have:=Qu.ptr (γ:=γ') (w:=w') (u:=u') b i o B off k' q1 (q4.trans hl) (by grind)
  grind
theorem Dm{γ γ':Gh}{ins outs:zg}(p:Zr γ ins Qk γ' outs (λ_=>true))(h1:∀b k,ins b=some k->X1 b=true)(h2:∀b k,outs b=some k->X1 b=true):F0 γ ins Qk γ' outs (λ_=>true):=by
 refine⟨λ_ _=>rfl,λb hb hn=>?_,λb k hk=>(p b (h1 b k hk)).2.2 k hk⟩
 cases ho:outs b with
 | none=>rfl
 | some k=>have:=(p b (h2 b k ho)).2.1 hb hn;grind
theorem Qa.Ql{γ γ1:Gh}{w w':World}(h:Qa γ.shift w γ1 w'):Qa γ w γ1.Ql w':=by
 have none1:∀B,γ1.own B=none->γ1.Ql.own B=none:=(by grind [Gh.Ql])
 refine⟨h.os,h.tape,h.output,h.size,h.NS,h.Qp,λB hB hn=>?_,h.room⟩
 obtain⟨a1,a2,a3⟩:=h.free B hB (by grind [Gh.shift])
 exact⟨a1,none1 B a2,a3⟩
section
variable {P:Program} {G:ze}
def mU(P:Program)(G:ze)(Qg:Exit->St->Prop):List Code->St->Prop
 | [],st=>Rel P G Qg .normal st
 | a :: as,st=>TV P G a st (Qx P G Qg (as.map Kf.seq))
theorem BW{Qg:Exit->St->Prop}{e:Exit}{st:St}(he:e≠.normal):∀{as:List Code},Qx P G Qg (as.map Kf.seq) e st->Qg e st
 | [],h=>h
 | a :: as,h=>by
  simp only[wj,Qx] at h
  cases e with
  | normal=>grind
  | _=>exact BW he (as:=as) h
theorem AX{Qg:Exit->St->Prop}{rest:Code}{AN:Exit->Act->World->Prop}:∀(As:List Code) (st:St),mU P G Qg As st->∀(fx:Fx) (γ:Gh) (a:Act) (w:World),Qs G γ st a.tmps w->Uu fx γ a.defers w->
  (∀e a' w',L0 G fx γ st w Qg e a' w'->(e=.normal->CW fx.ro P rest AN a' w')/\(e≠.normal->AN e a' w'))->CW fx.ro P (As.foldr Code.seq rest) AN a w
 | [],st,h,fx,γ,a,w,hs,hd,K=>(K .normal a w (h fx γ a w hs hd.1)).1 rfl
 | c :: as,st,h,fx,γ,a,w,hs,hd,K=>by
  refine wpIn_seq (wpIn_mono (h fx γ a w hs hd) λe a' w' hl=>?_)
  by_cases he:e=.normal
  ·subst he
   show CW fx.ro P (as.foldr Code.seq rest) AN a' w'
   obtain⟨st',γ',h1,h2,h3,h4⟩:=hl
   refine AX as st' ?_ ⟨fx.ro,a'.defers,fx.mx⟩ γ' a' w' h1 (hd.step h2.1) λe2 a2 w2 hl2=>K e2 a2 w2 (hl2.Ow h2 h3)
   cases as with
   | nil=>exact Rel.of (P:=P) h4
   | cons b bs=>exact h4
  ·have hp:=(K e a' w' (by
    obtain⟨st',γ',h1,h2,h3,h4⟩:=hl
    exact⟨st',γ',h1,h2,h3,BW he h4⟩)).2 he
   cases e with
   | normal=>grind
   | _=>exact hp
def Left(u:FrameMode)(ex:Exit):Prop:=(ex=.ret/\u=.returning)\/(ex=.normal/\u=.returning)\/∃ch,ex=.panic ch/\u=.panicking ch
theorem NZ{f g:FuncId}{fn:Func}{As:List Code}{rest:Code}{rid t n:Nat}{o0 o1:Oper}{args caps:List V}{ins insD outsD:zg}{S0 S1 S2:St}{ex:Exit}{u u':FrameMode}{res:V}
  (hf:P.funcs[f]?=some fn) (hb:fn.body=some (As.foldr Code.seq (.seq (.region rid #[o0,o1] false) rest))) (hn:n=max fn.ntmps args.length)
  (hA:mU P G (λe s=>e=.normal/\QH G s S0) As (U3 n args ins)) (hsh:QH G S0.shift S1)
  (h0:I2 P G o0 S1 (S1.put (some t) (.fn g [] caps))) (hg0:M6 #[o0,o1] S1 o0=some true)
  (h1:o1.op=.defer { callee:=.value (.tmp t),args:=#[],argTypes:=#[] }) (h1d:o1.dst=none) (hg1:M6 #[o0,o1] (S1.put (some t) (.fn g [] caps)) o1=some true)
  (hB:TV P G rest (S1.put (some t) (.fn g [] caps)) (λe s=>e=ex/\QH G s S2)) (hex:Left u ex)
  (hcap:∀c,c∈caps->∃b k,c=.ptr b 0 0/\X1 b=true/\S1.b b=some k) (ht:t < S1.n)
  (hS2:S2.b=insD/\S2.u=Qk) (hpin:(∀b k,insD b=some k->X1 b=true)/\∀b k,outsD b=some k->X1 b=true)
  {fg:Func} (hfg:P.funcs[g]?=some fg) (hfgb:fg.body.isSome=true) (hfgn:(fg.name== "runtime.NumGoroutine")=false)
  (hD:OZ P G g caps insD u u' outsD) (hu':settle u'=.returning)
  (hres:L2 P ⟨S2.n,S2.t,outsD,λ_=>true⟩ fn.results.toList=some res) (hflat:∀(γ:Gh) (w:World) v,Qu γ w outsD (λ_=>true) res v->Qu γ.Ql w Ii (λ_=>true) res v) :
  QR P G f args ins res Ii:=by
 intro γ w as hg ho ha hbl
 have hsz:as.size=args.length:=ha.1
 have hs:Qs G γ (U3 n args ins) (as++Array.replicate (fn.ntmps - as.size) undef) w:=by
  refine⟨by grind [Array.size_append,Array.size_replicate,U3],λi=>?_,λb k hk=>(hbl b k hk).2,λb k hk=>(hbl b k hk).1,hg,ho⟩
  show Qu γ w ins Qk (args.getD i .undef) _
  by_cases hi:i < args.length
  ·have e1:args.getD i .undef=args[i]:=by grind
   have e2:(as++Array.replicate (fn.ntmps - as.size) undef).getD i undef=as[i]'(by omega):=by
    simp_all [wk,Array.getElem?_append_left,we]
   rw[e1,e2]
   exact ha.2 i _ _ (by grind) (by grind)
  ·have e1:args.getD i .undef=.undef:=by grind
   rw[e1];exact .undef _
 refine(callsIn_wide (n:=0)).1 (callsIn_of_wp_marks hf hb trivial ?_)
 refine AX As _ hA ⟨none,[],true⟩ γ ⟨_,[]⟩ w hs ⟨rfl,rfl,λ_ h=>by simp at h⟩ λe a1 w1 hl=>⟨λhe=>?_,λhe=>?_⟩
 rotate_left
 ·obtain⟨_,_,_,_,_,q,_⟩:=hl;grind
 subst he
 obtain⟨s1,γ0,k1,⟨g1,p1⟩,⟨Ds,_,m1,m2,m3⟩,_,gs⟩:=hl
 obtain⟨γ1,k2,g2,_⟩:=gs γ0 a1.tmps w1 k1
 obtain⟨γ1',k2',g2',_⟩:=hsh γ1.shift a1.tmps w1 k2.shift
 simp only[wz] at m1
 refine wpIn_seq (wpIn_region ?_)
 have hr:List.range (#[o0,o1]:Array Oper).size=[0,1]:=rfl
 rw[hr]
 simp only[wpOpsIn,show (#[o0,o1]:Array Oper)[0]?=some o0 from rfl,show (#[o0,o1]:Array Oper)[1]?=some o1 from rfl]
 rw[if_pos (W3 k2' hg0)]
 refine IN (h0 ⟨none,a1.defers,false⟩ γ1' a1 w1 k2' rfl _ _ (by grind)) (h0 ⟨none,a1.defers,true⟩ γ1' a1 w1 k2' rfl _ _ λa2 w2 γ2 k3 g3 p3 d3=>?_)
 rw[if_pos (W3 k3 hg1)]
 have hv:Qu γ2 w2 (S1.put (some t) (.fn g [] caps)).b (S1.put (some t) (.fn g [] caps)).u (.fn g [] caps) (a2.eval (.tmp t)):=by
  have:=k3.t t
  have e:(S1.put (some t) (.fn g [] caps)).t t=.fn g [] caps:=by simp[St.put,St.QG]
  rw[e] at this;exact this
 obtain⟨fs,cv,hval,hf0,hcl,_,hcv⟩:=hv.HE
 have hfs:fs=[]:=(by grind)
 subst hfs
 let d:Deferred:={ target:=.fn (.func g) cv.toArray,args:=#[] }
 refine⟨λ_ _=>trivial,?_⟩
 have hrun:(execOp a2.eval o1).run P w2=.ok (.defer d) w2:=by
  grind [Sem.run_bind,Sem.run_pure,Result.andThen_ok,execOp,resolve,pure,Deferred.ofValue]
 show o1.uponIn (RF none) 0 P a2 _ _ ((o1.semAt none a2.eval).run P w2)
 rw[Oper.semAt_none,hrun]
 show rest.wpIn (RF none) 0 P _ ({ a2 with defers:=d :: a2.defers }.put o1.dst undef) w2
 rw[h1d]
 show rest.wpIn (RF none) 0 P _ ({ a2 with defers:=d :: a2.defers }:Act) w2
 refine wpIn_mono (hB ⟨none,d :: a2.defers,true⟩ γ2 { a2 with defers:=d :: a2.defers } w2 k3 (Uu.free _ _)) λe a4 w4 hl=>?_
 obtain⟨s4,γ3,k4,⟨g4,p4⟩,⟨Ds4,_,n1,n2,n3⟩,rfl,gs4⟩:=hl
 obtain⟨γ4,k5,g5,p5⟩:=gs4 γ3 a4.tmps w4 k4
 have key:LeavesInM (RF none) 0 P fn a4.tmps (λe w'=>∃v γ',e=.returned v/\Qa γ w γ' w'/\Zr γ ins Qk γ' Ii (λ_=>true)/\Qu γ' w' Ii (λ_=>true) res v/\
   (∀b k,Ii b=some k->D4 γ' w' Ii (λ_=>true) b k)/\(∀B x,γ'.own B=some x->B < w'.heap.size)) a4.defers u w4:=by
  rw[n1]
  have hur:u≠.run:=by
   rcases hex with⟨_,h⟩|⟨_,h⟩|⟨_,_,h⟩<;>rw[h]<;>simp
  refine L8 hur (λw5=>Qs G γ4 S2 a4.tmps w5/\Qa γ2 w2 γ4 w5) (λw5 hI=>?_) Ds4 w4 ⟨k5,g4.trans g5⟩ n2 (λD hD=>(n3 D hD).2.1) λD w5 hD hI hd=>
   ⟨(Y2.put hd rfl).Gq hI.1,hI.2.put hd rfl (n3 D hD).1⟩
  obtain⟨i1,i2⟩:=hI
  have hinv:(invoke d.target d.args).run P w5=.ok (.enter g cv.toArray) w5:=by
   show (callFunc g (#[]++cv.toArray)).run P w5=_
   have hname':¬fg.name= "runtime.NumGoroutine":=by grind
   have hbody':¬fg.body=none:=(by grind)
   simp_all [callFunc]
  refine⟨hur,.inr ⟨(by grind [RF,Fence.wide]),.func g,cv.toArray,g,cv.toArray,rfl,hinv,λ_ _=>trivial,?_⟩⟩
  have ptot:=p4.trans p5
  rw[hS2.1,hS2.2] at ptot
  have hcells:U4 γ4 w5 insD Qk caps cv.toArray:=⟨by grind,λi c v hc hvv=>by
   obtain⟨b,k,rfl,c2,c3⟩:=hcap c (zQ hc)
   have hrep:=hcv i _ v hc (by simpa using hvv)
   exact(Qu.SU (w':=w5) hrep (k:=k) c3 c2 ptot)⟩
  have hblk:∀b k,insD b=some k->Qk b=true/\D4 γ4 w5 insD Qk b k:=λb k hk=>by
   refine⟨Hu (hpin.1 b k hk),?_⟩
   have:=i1.b b k (by grind)
   grind
  refine(hD γ4 w5 cv.toArray i1.g i1.o hcells hblk).mono λe u2 w6 hR=>?_
  obtain⟨rfl,v6,γ5,rfl,g6,p6,b6,o6⟩:=hR
  show LeavesInM (RF none) 0 P fn a4.tmps _ a2.defers (settle u2) w6
  rw[hu',show a2.defers=Ds.map ZP from d3.trans m1]
  have gall:Qa γ0 w1 γ5.Ql w6:=g2.trans (g2'.trans (g3.trans (i2.trans g6))).Ql
  have ble:=Dm p6 hpin.1 hpin.2
  have hsim:Qs G γ5 ⟨S2.n,S2.t,outsD,λ_=>true⟩ a4.tmps w6:=by
   refine⟨i1.n,λi=>?_,λb k hk=>b6 b k hk,λ_ _ _=>rfl,i1.g.grow g6,o6⟩
   have:=i1.t i
   rw[hS2.1,hS2.2] at this
   exact this.mono g6 ble
  refine Yz (λw7=>Qs G γ5 ⟨S2.n,S2.t,outsD,λ_=>true⟩ a4.tmps w7/\Qa γ w γ5.Ql w7) (λw7 hI=>?_) Ds w6 ⟨hsim,g1.trans gall⟩ m2 (λD hD=>?_) λD w7 hD hI hd=>
   ⟨(Y2.put hd rfl).Gq hI.1,hI.2.put hd rfl (m3 D hD).1⟩
  ·obtain⟨j1,j2⟩:=hI
   obtain⟨v,hv,hrep⟩:=P4 (P:=P) j1 hres
   exact⟨v,hv,v,γ5.Ql,rfl,j2,λb _=>⟨λ_=>rfl,λ_ _=>rfl,λ_ _=>⟨rfl,.inl rfl⟩⟩,hflat _ _ _ hrep,(by grind [Ii]),λB x hx=>by
    simp only[Gh.Ql] at hx
    obtain⟨y,hy,_⟩:=zV.1 hx
    exact j1.o B y hy⟩
  ·obtain⟨_,q1,q2⟩:=m3 D hD
   exact(gall.free D (wo.1 q1).1 q2).1.trans q1
 rcases hex with⟨rfl,h⟩|⟨rfl,h⟩|⟨ch,rfl,h⟩
 ·subst h;exact key
 ·subst h;exact key
 ·subst h;exact key
theorem HJ(I:World->Prop):∀(Ds:List Nat) (fr:Frame) (cs:List Frame) (w:World),fr.mode≠.run->fr.defers=Ds.map ZP->I w->Ds.Nodup->(∀D,D∈Ds->w.heap[D]?=some (.deferred (some [])))->
  (∀D w,D∈Ds->I w->w.heap[D]?=some (.deferred (some []))->I (w.putObj D (.deferred none)))->
  ∃w',I w'/\StepsIn (Machine.fenced P (RF none)) P (lone fr cs w) (lone { fr with defers:=[] } cs w')
 | [],fr,cs,w,_,hd,hI,_,_,_=>by
  refine⟨w,hI,?_⟩
  have:{ fr with defers:=[] }=fr:=by cases fr;grind
  rw[this];exact .refl _
 | D :: Ds,fr,cs,w,hm,hd,hI,hn,hh,hp=>by
  have hn':=List.nodup_cons.1 hn
  have h1:=step_collected (cs:=cs) hm (d:=ZP D) (ds:=Ds.map ZP) (by simpa using hd) rfl (run_takeDeferred (P:=P) (hh D (by simp)))
  obtain⟨w',k1,k2⟩:=HJ I Ds { fr with defers:=[]++Ds.map ZP } cs (w.putObj D (.deferred none)) hm (by simp) (by grind) hn'.2 (by grind [World.putObj_heap_other]) (by grind)
  exact⟨w',k1,.head (RF.fenced _ _ _) h1 k2⟩
def HV(u:FrameMode)(rv:Value)(u':FrameMode):Prop:=
 (u=.returning/\rv=.nilIface/\u'=.returning)\/∃v older,u=.panicking ({ v:=v,recovered:=false } :: older)/\rv=v/\u'=.panicking ({ v:=v,recovered:=true } :: older)
theorem PS{f:FuncId}{fn:Func}{rest:Code}{rid t1 t2 n:Nat}{o0 o1:Oper}{args:List V}{ins outs:zg}{u u':FrameMode}{rv:Value}
  (hf:P.funcs[f]?=some fn) (hb:fn.body=some (.seq (.region rid #[o0,o1] false) rest)) (hn:n=max fn.ntmps args.length)
  (h0:o0.op=.call { callee:=.builtin .recover,args:=#[],argTypes:=#[] }) (h0d:o0.dst=some t1) (h0g:o0.guard=none)
  (h1:o1.op=.assign (.tmp t1)) (h1d:o1.dst=some t2) (h1g:o1.guard=none) (ht1:t1 < n) (ht2:t2 < n)
  (hi:HK rv=true) (hr:HV u rv u') (hres:fn.results=#[])
  (hB:TV P G rest (((U3 n args ins).put (some t1) (.Zw rv)).put (some t2) (.Zw rv)) (λe s=>(e=.normal\/e=.ret)/\∃s2,QH G s s2/\∀b k,outs b=some k->s2.b b=some k)) :
  OZ P G f args ins u u' outs:=by
 intro γ w as hg ho ha hbl
 have hsz:as.size=args.length:=ha.1
 have hs:Qs G γ (U3 n args ins) (as++Array.replicate (fn.ntmps - as.size) undef) w:=by
  refine⟨by grind [Array.size_append,Array.size_replicate,U3],λi=>?_,λb k hk=>(hbl b k hk).2,λb k hk=>(hbl b k hk).1,hg,ho⟩
  show Qu γ w ins Qk (args.getD i .undef) _
  by_cases hi:i < args.length
  ·have e1:args.getD i .undef=args[i]:=by grind
   have e2:(as++Array.replicate (fn.ntmps - as.size) undef).getD i undef=as[i]'(by omega):=by
    simp_all [wk,Array.getElem?_append_left,we]
   rw[e1,e2]
   exact ha.2 i _ _ (by grind) (by grind)
  ·have e1:args.getD i .undef=.undef:=by grind
   rw[e1];exact .undef _
 refine⟨trivial,λc₀ cs hu hroom=>?_⟩
 let a0:Act:=⟨as++Array.replicate (fn.ntmps - as.size) undef,[]⟩
 let a1:Act:=a0.put (some t1) rv
 let a2:Act:=a1.put (some t2) rv
 let b:Frame:={ (default:Frame) with fn:=f,kind:=.deferred,roundOf:=none }
 have henter:Frame.enter P f as .deferred=b.atR a0 [.code (.seq (.region rid #[o0,o1] false) rest)]:=by
  grind [Frame.enter,Frame.atR]
 have hs1:Qs G γ ((U3 n args ins).put (some t1) (.Zw rv)) a1.tmps w:=hs.put (dst:=some t1) (by grind [H7,U3]) (.data (.Zw rv hi))
 have hs2:Qs G γ (((U3 n args ins).put (some t1) (.Zw rv)).put (some t2) (.Zw rv)) a2.tmps w:=hs1.put (dst:=some t2) (by grind [H7,U3,St.put,St.QG]) (.data (.Zw rv hi))
 have e0:(execOp a0.eval o0).run P w=.ok .recover w:=by
  unfold execOp;rw[h0];rfl
 have ev1:a1.eval (.tmp t1)=rv:=by
  show a1.tmps.getD t1 undef=rv
  have hlt:t1 < a0.tmps.size:=by
   grind
  show (a0.tmps.setIfInBounds t1 rv).getD t1 undef=rv
  simp_all
 have e1:(execOp a1.eval o1).run P w=.ok (.value rv) w:=by
  grind [Sem.run_pure,execOp]
 have w0:∀a:Act,Region.wanted o0 (yielded #[o0,o1] a.tmps)=true:=(by grind [Region.wanted])
 have w1:∀a:Act,Region.wanted o1 (yielded #[o0,o1] a.tmps)=true:=(by grind [Region.wanted])
 let c1:Frame:={ c₀ with mode:=u' }
 have hw:Code.wpSIn (RF none) 0 P (.seq (.region rid #[o0,o1] false) rest) (λe a' cs' w'=>cs'=c1 :: cs/\L0 G ⟨none,[],true⟩ γ (((U3 n args ins).put (some t1) (.Zw rv)).put (some t2) (.Zw rv)) w (λe s=>(e=.normal\/e=.ret)/\∃s2,QH G s s2/\∀b k,outs b=some k->s2.b b=some k) e a' w') a0 (c₀ :: cs) w:=by
  refine wpSIn_seq (wpSIn_region ?_)
  show wpOpsSIn (RF none) 0 P #[o0,o1] _ [0,1] a0 (c₀ :: cs) w
  have tail:wpOpsSIn (RF none) 0 P #[o0,o1] (Exit.thenS (rest.wpSIn (RF none) 0 P (λe a' cs' w'=>cs'=c1 :: cs/\L0 G ⟨none,[],true⟩ γ (((U3 n args ins).put (some t1) (.Zw rv)).put (some t2) (.Zw rv)) w (λe s=>(e=.normal\/e=.ret)/\∃s2,QH G s s2/\∀b k,outs b=some k->s2.b b=some k) e a' w')) (λe a' cs' w'=>cs'=c1 :: cs/\L0 G ⟨none,[],true⟩ γ (((U3 n args ins).put (some t1) (.Zw rv)).put (some t2) (.Zw rv)) w (λe s=>(e=.normal\/e=.ret)/\∃s2,QH G s s2/\∀b k,outs b=some k->s2.b b=some k) e a' w')) [1] a1 (c1 :: cs) w:=by
   simp only[wpOpsSIn,show (#[o0,o1]:Array Oper)[1]?=some o1 from rfl,w1,if_true,e1,h1d]
   refine⟨λ_ _=>trivial,?_⟩
   show rest.wpSIn (RF none) 0 P _ a2 (c1 :: cs) w
   refine wpSIn_of_wpIn rfl (wpIn_mono (hB ⟨none,[],true⟩ γ a2 w hs2 ⟨rfl,rfl,λ_ h=>by simp at h⟩) (by grind))
  rw[wpOpsSIn]
  simp only[show (#[o0,o1]:Array Oper)[0]?=some o0 from rfl,w0,if_true,e0,h0d]
  refine⟨λ_ _=>trivial,?_⟩
  rcases hr with⟨r1,r2,r3⟩|⟨v,older,r1,r2,r3⟩
  ·have hrec:recoverD (c₀ :: cs)=none:=by simp[recoverD,hu,r1]
   rw[hrec]
   have hc:c₀ :: cs=c1 :: cs:=by
    show c₀ :: cs=({ c₀ with mode:=u' }:Frame) :: cs
    rw[r3,<-r1,<-hu]
   grind
  grind [recoverD]
 obtain⟨e,a',cs',w',hl,⟨rfl,hq⟩,harr⟩:=hw b [] rfl rfl trivial hroom
 rw[<-henter] at harr
 obtain⟨s0,γ0,k0,⟨g0,p0⟩,⟨Ds,_,m1,m2,m3⟩,he,s',hg,hout⟩:=hq
 obtain⟨γ',k1,g1',p1'⟩:=hg γ0 a'.tmps w' k0
 have g1:=g0.trans g1'
 have p1:=p0.trans p1'
 simp only[wz] at m1
 have ble:F0 γ' s'.b s'.u γ' outs (λ_=>true):=by
  refine⟨λ_ _=>rfl,λb _ hn=>?_,λb k hk=>⟨rfl,?_⟩⟩
  ·cases ho:outs b with
   | none=>rfl
   | some k=>grind
  ·cases ho:outs b with
   | none=>exact .inl rfl
   | some k'=>
    grind
 have fin:∀todo,StepsIn (Machine.fenced P (RF none)) P (lone (Frame.enter P f as .deferred) (c₀ :: cs) w) (lone { b.atR a' todo with mode:=.returning } (c1 :: cs) w')->
   ∃e u2 w' fr,(u2=u'/\∃v γ',e=.returned v/\Qa γ w γ' w'/\Zr γ ins Qk γ' outs (λ_=>true)/\(∀b k,outs b=some k->D4 γ' w' outs (λ_=>true) b k)/\(∀B x,γ'.own B=some x->B < w'.heap.size))/\
    ComesIn (Machine.fenced P (RF none)) P (lone (Frame.enter P f as .deferred) (c₀ :: cs) w) (lone fr ({ c₀ with mode:=u2 } :: cs) w') e/\fr.kind=.deferred/\fr.fn=f/\fr.going P w' e:=by
  intro todo hst
  obtain⟨w2,⟨i1,i2⟩,st2⟩:=HJ (P:=P) (λw2=>Qs G γ' s' a'.tmps w2/\Qa γ w γ' w2) Ds { b.atR a' todo with mode:=.returning } (c1 :: cs) w' (by simp) m1 ⟨k1,g1⟩ m2 (λD hD=>(m3 D hD).2.1) (λD w7 hD hI hd=>
   ⟨(Y2.put hd rfl).Gq hI.1,hI.2.put hd rfl (m3 D hD).1⟩)
  have hpin:Zr γ ins Qk γ' s'.b s'.u:=p1
  obtain⟨v,hv,_⟩:=P4 (P:=P) i1 (show L2 P s' fn.results.toList=some (.Qt []) by rw[hres];rfl)
  refine⟨.returned v,u',w2,{ { b.atR a' todo with mode:=.returning } with defers:=[] },⟨rfl,_,γ',rfl,i2,hpin.trans ble.JH,λb k hk=>?_,i1.o⟩,StepsIn.trans hst st2,rfl,rfl,rfl,rfl,fn,hf,hv⟩
  ·rcases i1.b b k (hout b k hk) with h0|hm|⟨hM,B,o,cs,e,a1,a2,a3,a4,a5,a6,a7,a8⟩
   ·exact .inl h0
   ·exact .inr (.inl (hm.same rfl (by grind) λc v hr=>hr.mono (.refl _ _) ble))
   refine .inr (.inr ⟨hM,B,o,cs,e,a1,a2,a3,a4,a5,λi c hc=>?_,a7,a8⟩)
   obtain⟨x,b1,b2,b3,b4⟩:=a6 i c hc
   exact⟨x,b1,b2.mono (.refl _ _) ble,b3,b4⟩
 rcases he with rfl|rfl
 ·exact fin [] (StepsIn.trans harr (.one (RF.fenced _ _ _) (stepR_end rfl)))
 ·obtain⟨todo,hs⟩:=harr.1 rfl
  grind
end
def Qw.bG{P:Program}{G:ze}(t u:TypeId)(ox:Operand)(d:Nat){ms:Array (String×TypeId)}(ht:P.underlying t=some (.interface ms)):Qw P G Unit where
 op:=.binOp .neq t ox (.const .nilIface) u
 dst:=some d
 ZY:=[(ox,.Zw .nilIface)]
 Zb:=[]
 o:=some ()
 ws:=λ_=>[.t d (.bool false)]
 dt:=[]
 JC:=(by grind)
 ok:=λ_ _ x st hop hdst hvs _ hd=>by
  obtain⟨hdn,hu⟩:=hd d rfl
  have key:I2 P G x st (st.put (some d) (.bool false)):=by
   rw[<-hdst]
   refine M4 (by grind [H7]) λγ a w hs=>?_
   have hx:a.eval ox=.nilIface:=(hvs (ox,.Zw .nilIface) (by simp) γ a w hs).Ul
   have hr:=Lib.run_neq_nil_nil w ht
   refine⟨.bool false,?_,.data (.bool _)⟩
   have he:a.eval (.const .nilIface)=.nilIface:=rfl
   simp_all [eqGuard,Unit,pure,execOp]
  exact key
def Qw.aI{P:Program}{G:ze}(t u:TypeId)(ox:Operand)(d:Nat)(u0:TypeId)(v:Value)(ht:P.underlying t=some (.interface (P.methodsAt t))):Qw P G Unit where
 op:=.binOp .neq t ox (.const .nilIface) u
 dst:=some d
 ZY:=[(ox,.Zw (.iface u0 v))]
 Zb:=[]
 o:=some ()
 ws:=λ_=>[.t d (.bool true)]
 dt:=[]
 JC:=(by grind)
 ok:=λ_ _ x st hop hdst hvs _ hd=>by
  obtain⟨hdn,hu⟩:=hd d rfl
  have key:I2 P G x st (st.put (some d) (.bool true)):=by
   rw[<-hdst]
   refine M4 (by grind [H7]) λγ a w hs=>?_
   have hx:a.eval ox=.iface u0 v:=(hvs (ox,.Zw (.iface u0 v)) (by simp) γ a w hs).Ul
   have hr:=run_neq_held_nil w t u0 v ht
   refine⟨.bool true,?_,.data (.bool _)⟩
   have he:a.eval (.const .nilIface)=.nilIface:=rfl
   simp_all [eqGuard,Unit,pure,execOp]
  exact key
def Qw.Qhu{P:Program}{G:ze}(t u:TypeId)(ox:Operand)(d:Nat)(ht:P.underlying t=some (.interface (P.methodsAt t))):Qw P G Unit where
 op:=.binOp .eql t ox (.const .nilIface) u
 dst:=some d
 ZY:=[(ox,.Zw (.nilIface))]
 Zb:=[]
 o:=some ()
 ws:=λ_=>[.t d (.bool true)]
 dt:=[]
 JC:=(by grind)
 ok:=λ_ _ x st hop hdst hvs _ hd=>by
  obtain⟨hdn,hu⟩:=hd d rfl
  have key:I2 P G x st (st.put (some d) (.bool true)):=by
   rw[<-hdst]
   refine M4 (by grind [H7]) λγ a w hs=>?_
   have hx:a.eval ox=.nilIface:=(hvs (ox,.Zw (.nilIface)) (by simp) γ a w hs).Ul
   have hr:=run_eql_nil_nil (P:=P) (w:=w) t ht
   refine⟨.bool true,?_,.data (.bool _)⟩
   have he:a.eval (.const .nilIface)=.nilIface:=rfl
   simp_all [eqGuard,Unit,pure,execOp]
  exact key
def Qw.uD{P:Program}{G:ze}(t u:TypeId)(ox:Operand)(d:Nat)(u0:TypeId)(v:Value)(ht:P.underlying t=some (.interface (P.methodsAt t))):Qw P G Unit where
 op:=.binOp .eql t ox (.const .nilIface) u
 dst:=some d
 ZY:=[(ox,.Zw (.iface u0 v))]
 Zb:=[]
 o:=some ()
 ws:=λ_=>[.t d (.bool false)]
 dt:=[]
 JC:=(by grind)
 ok:=λ_ _ x st hop hdst hvs _ hd=>by
  obtain⟨hdn,hu⟩:=hd d rfl
  have key:I2 P G x st (st.put (some d) (.bool false)):=by
   rw[<-hdst]
   refine M4 (by grind [H7]) λγ a w hs=>?_
   have hx:a.eval ox=.iface u0 v:=(hvs (ox,.Zw (.iface u0 v)) (by simp) γ a w hs).Ul
   have hr:=run_eql_held_nil (P:=P) (w:=w) t u0 v ht
   refine⟨.bool false,?_,.data (.bool _)⟩
   have he:a.eval (.const .nilIface)=.nilIface:=rfl
   simp_all [eqGuard,Unit,pure,execOp]
  exact key
theorem BI{P:Program}{G:ze}{ops:Array Oper}{st:St}{Q:Exit->St->Prop}{I:(Nat->Bool)->St->Prop}
  (hback:∀i o,ops[i]?=some o->∀e,e∈o.after->Region.binds .any e=true->e.on < i)
  (hstep:∀(D:zh) (st1:St) (i:Nat),i < ops.size->D i=false->(∀j,D j=true->j < ops.size)->EA ops D->(∀o,ops[i]?=some o->∀e,e∈o.after->Region.binds .any e=true->D e.on=true)->I D st1->
   ∃st2,P1 P G ops i st1 st2/\I (λj=>D j || decide (j=i)) st2)
  (hq:∀(D:zh) (st1:St),(∀i,i < ops.size->D i=true)->(∀j,D j=true->j < ops.size)->I D st1->Q .normal st1)
  {fx:Fx} {γ0:Gh} {w0:World}:∀(I1:Nat) (D:zh) (st1:St) (listed:Array Bool) (γ:Gh) (a:Act) (w:World),listed.size=ops.size->(∀i,i < ops.size->listed.getD i true=D i/\listed.getD i false=D i)->(∀i,D i=true->i < ops.size)->EA ops D->
   ((List.range ops.size).filter λi=>!D i).length<=I1->I D st1->Qs G γ st1 a.tmps w->(Qa γ0 w0 γ w/\Zr γ0 st.b st.u γ st1.b st1.u)->a.defers=fx.ds->
   wpAnyIn (RF fx.ro) 0 P .any ops (L0 G fx γ0 st w0 Q) I1 listed a w:=by
 have readyD:∀(D:zh) (listed:Array Bool),(∀i,i < ops.size->listed.getD i true=D i/\listed.getD i false=D i)->listed.size=ops.size->∀i,i∈Region.ready .any ops listed->i < ops.size/\D i=false/\∀o,ops[i]?=some o->∀e,e∈o.after->Region.binds .any e=true->D e.on=true:=by
  grind [mem_ready,Array.getElem?_eq_some_iff,Option.some.injEq,Nat.lt_or_ge,Array.getD_eq_getD_getElem?,Array.getElem?_eq_none]
 have none_ready:∀(D:zh) (listed:Array Bool),(∀i,i < ops.size->listed.getD i true=D i/\listed.getD i false=D i)->Region.ready .any ops listed=[]->∀i,i < ops.size->D i=true:=by
  intro D listed hl hr i
  induction i using Nat.strongRecOn with
  | _ i ih=>
   intro hi
   cases hd:D i with
   | true=>rfl
   | false=>
    exfalso
    have:i∈Region.ready .any ops listed:=mem_ready.2 ⟨by grind,ops[i],(by grind),(by grind)⟩
    grind
 have fin:∀(D:zh) (st1:St) (γ:Gh) (a:Act) (w:World),(∀i,i < ops.size->D i=true)->(∀j,D j=true->j < ops.size)->I D st1->Qs G γ st1 a.tmps w->(Qa γ0 w0 γ w/\Zr γ0 st.b st.u γ st1.b st1.u)->a.defers=fx.ds->L0 G fx γ0 st w0 Q .normal a w:=by
  intro D st1 γ a w hall hin hI hs hg hd
  exact⟨_,γ,hs,hg,.of hd,hq D st1 hall hin hI⟩
 intro I1
 induction I1 with
 | zero=>
  intro D st1 listed γ a w hsz hl hin hc hf hI hs hg hd
  have hall:∀i,i < ops.size->D i=true:=by
   intro i hi
   cases hdi:D i with
   | true=>rfl
   | false=>
    exfalso
    have:i∈(List.range ops.size).filter λi=>!D i:=(by grind)
    grind
  refine⟨?_,(by grind)⟩
  refine List.eq_nil_iff_forall_not_mem.2 λi hi=>?_
  obtain⟨h1,h2,_⟩:=readyD D listed hl hsz i hi
  grind
 | succ I1 ih=>
  intro D st1 listed γ a w hsz hl hin hc hf hI hs hg hd
  refine⟨λhr=>fin D st1 γ a w (none_ready D listed hl hr) hin hI hs hg hd,λi hi=>?_⟩
  obtain⟨hlt,hDi,hpre⟩:=readyD D listed hl hsz i hi
  have ho:ops[i]?=some ops[i]:=(by grind)
  obtain⟨st2,hst,hI2⟩:=hstep D st1 i hlt hDi hin hc hpre hI
  have next:∀(a':Act) (w':World) (γ':Gh),Qs G γ' st2 a'.tmps w'->Qa γ w γ' w'->Zr γ st1.b st1.u γ' st2.b st2.u->a'.defers=fx.ds->
    wpAnyIn (RF fx.ro) 0 P .any ops (L0 G fx γ0 st w0 Q) I1 (listed.setIfInBounds i true) a' w':=by
   intro a' w' γ' hs' hg' hp' hd'
   refine ih (λj=>D j || decide (j=i)) st2 (listed.setIfInBounds i true) γ' a' w' (by grind) (λj hj=>?_) (λj hj=>?_) ?_ ?_ hI2 hs' ⟨hg.1.trans hg',hg.2.trans hp'⟩ hd'
   ·by_cases hji:j=i
    ·subst hji
     have:j < listed.size:=by omega
     simp[this]
    ·have hne:i≠j:=λe=>hji e.symm
     have e1:(listed.setIfInBounds i true).getD j true=listed.getD j true:=by simp[Array.getElem?_setIfInBounds_ne hne]
     grind
   ·grind
   ·intro k o hk hok e he hb
    simp only[zU,zC] at hk ⊢
    rcases hk with hk|rfl
    ·exact .inl (hc k o hk hok e he hb)
    grind
   ·have hmem:i∈(List.range ops.size).filter λj=>!D j:=(by grind)
    have hlt3:((List.range ops.size).filter λj=>!(D j || decide (j=i))).length < ((List.range ops.size).filter λj=>!D j).length:=by
     have e:(List.range ops.size).filter (λj=>!(D j || decide (j=i)))=((List.range ops.size).filter (λj=>!D j)).filter (λj=>!decide (j=i)):=by
      grind [List.filter_filter,Bool.and_comm]
     grind [Nat.lt_of_le_of_ne,List.length_filter_le,List.length_filter_eq_length_iff]
    omega
  unfold P1 at hst
  unfold wpOpIn
  rw[ho]
  rw[ho] at hst
  simp only at hst ⊢
  rcases hst with⟨hgd,he⟩|⟨hgd,hdst,heq⟩
  ·rw[if_pos (W3 hs hgd)]
   exact IN (he ⟨none,a.defers,false⟩ γ a w hs rfl _ _ λ_ _ _ _ _ _ h=>h) (he fx γ a w hs hd _ _ next)
  ·rw[if_neg (by grind [W3])]
   refine⟨λ_ _=>trivial,next _ w γ ?_ (.refl γ w) ?_ (by rw[D6];exact hd)⟩
   ·rw[heq];exact hs.put hdst (v:=undef) (.Qt [] [] rfl (by grind))
   ·rw[heq];cases ops[i].dst<;>exact Zr.refl hs.u
theorem TV.Qhm{P:Program}{G:ze}{ops:Array Oper}{id:Nat}{st:St}{Q:Exit->St->Prop}{I:(Nat->Bool)->St->Prop}(hm:P.follows .mixedOrders=true)
  (hback:(ops.toList.zipIdx.all λx=>x.1.after.all λe=>!Region.binds .any e || decide (e.on < x.2))=true)
  (hstep:∀(D:zh) (st1:St) (i:Nat),i < ops.size->D i=false->(∀j,D j=true->j < ops.size)->EA ops D->(∀o,ops[i]?=some o->∀e,e∈o.after->Region.binds .any e=true->D e.on=true)->I D st1->
   ∃st2,P1 P G ops i st1 st2/\I (λj=>D j || decide (j=i)) st2)
  (hq:∀(D:zh) (st1:St),(∀i,i < ops.size->D i=true)->(∀j,D j=true->j < ops.size)->I D st1->Q .normal st1) (h0:I (λ_=>false) st) :
  TV P G (.region id ops true) st Q:=λfx γ a w hs hd=>by
 have hs0:Qs G γ st a.tmps { w with drawn:=w.drawn+1 }:=by
  have g:Qa γ w γ { w with drawn:=w.drawn+1 }:=⟨rfl,rfl,rfl,zI _,λ_ _ _ _ h=>h,λ_ _=>zI _,(by grind),(by grind)⟩
  have bl:F0 γ st.b st.u γ st.b st.u:=.refl hs.u
  refine⟨hs.n,λi=>(hs.t i).mono g bl,λb k hk=>?_,hs.u,hs.g.grow g,hs.o⟩
  rcases hs.b b k hk with h0|hm|⟨hM,B,o,cs,e',h1,h2,h3,h4,h5,h6,h7,h8⟩
  ·exact .inl h0
  ·exact .inr (.inl (hm.same rfl (by grind) λc v hr=>hr.mono g bl))
  ·refine .inr (.inr ⟨hM,B,o,cs,e',h1,h2,h3,h4,h5,λi c hc=>?_,h7,h8⟩)
   obtain⟨v,a1,a2,a3,a4⟩:=h6 i c hc
   exact⟨v,a1,a2.mono g bl,a3,a4⟩
 have g0:Qa γ w γ { w with drawn:=w.drawn+1 }:=⟨rfl,rfl,rfl,zI _,λ_ _ _ _ h=>h,λ_ _=>zI _,(by grind),(by grind)⟩
 refine wpIn_region_any hm ?_
 refine BI (λi o ho e he hb=>?_) hstep hq ops.size (λ_=>false) st _ γ a _ (by simp) (λi hi=>by simp[hi]) (λi h=>by simp at h) (λi o h=>by simp at h)
  (by grind) h0 hs0 ⟨g0,.refl hs.u⟩ hd.1
 have hm':(o,i)∈ops.toList.zipIdx:=by
  grind
 grind [List.all_eq_true,Array.all_eq_true_iff_forall_mem]
variable {P:Program} {G:ze}
structure Sh(P:Program)(mt kt et:TypeId)(z:Nat)(rows:List (List V))(p:List V->Bool)(kc:List V):Prop where
 m:P.underlying mt=some (.map kt et)
 a:yR z=M0 P kt
 s:(G4 P kt kc kc).isSome=true
 q:∀r,r∈rows->G4 P kt kc (r.take (Dv z))=some (p r)
theorem Sh.find{mt kt et:TypeId}{z:Nat}{rows:List (List V)}{p:List V->Bool}{kc:List V}(h:Sh P mt kt et z rows p kc){γ:Gh}{w:World}{bs:zg}{u:zh}{b:Nat}{Qn:Bool}{kv:Value}{B:Nat}
  (hb:D4 γ w bs u b ⟨z,Qn,rows⟩) (hl:γ.loc b=some (B,0)) (hM:Y8<=z) (hk:Qu γ w bs u (A7 (M0 P kt) kc) kv) :
  ∃es clock,w.heap[B]?=some (.map es clock)/\γ.own B=some (.ZQ b)/\(NR z es/\oK es clock)/\es.size=rows.length/\(∀r,r∈rows->r.length=mwd z)/\
   (∀(i:Nat) (c:V),(rows).flatten[i]?=some c->∃v,(es.toList.flatMap (G6 z))[i]?=some v/\Qu γ w bs u c v/\v.oneCell'=true)/\
   (∀em,(Instr.checkKey em 10000 kt kv).run P w=.ok () w)/\
   (Instr.findKey kt kv es.toList).run P w=.ok (match rows.findIdx? p with|some j=>(es[j]?).map λe=>(j,e.val)|none=>none) w/\
   ∀(j:Nat) (x:List V),rows[j]?=some x->∃e,es[j]?=some e/\Qu γ w bs u (A7 (yR z) (x.take (Dv z))) e.key/\Qu γ w bs u (A7 (Ft z) (x.drop (Dv z))) e.val:=by
 rcases hb with⟨h0,_⟩|⟨_,B',es,clock,h1,h2,h3,h4,h5,h6,h7⟩|hb
 ·grind
 ·rw[hl] at h1;simp only[zy,zJ,and_true] at h1
  subst h1
  have hrows:∀(j:Nat) (x:List V),rows[j]?=some x->∃e,es[j]?=some e/\Qu γ w bs u (A7 (yR z) (x.take (Dv z))) e.key/\Qu γ w bs u (A7 (Ft z) (x.drop (Dv z))) e.val:=λj x hx=>
   Wq.row h4 h5 h6.1 h7 hx
  have hsz:es.size=rows.length:=by simpa using h4
  refine⟨es,clock,h3,h2,h6,hsz,h5,h7,λem=>Iw h.s hk em,?_,hrows⟩
  rw[Lh hk es.toList (rows.map p) (by simp[hsz]) (λj e he=>?_) h.s,Dz p rows es.toList 0 (by simpa using hsz)]
  ·grind
  ·have hj:j < rows.length:=by grind
   have hx:rows[j]?=some rows[j]:=wd hj
   obtain⟨e',e1,e2,_⟩:=hrows j _ hx
   have:e'=e:=by
    grind
   subst this
   exact⟨p rows[j],rows[j].take (Dv z),by grind,h.q _ (List.getElem_mem _),by rw[<-h.a];exact e2⟩
 ·exact absurd hb.1 (Nat.not_lt_of_le hM)
theorem Cx{mt kt et:TypeId}{z:Nat}{rows:List (List V)}{p:List V->Bool}{kc:List V}(h:Sh P mt kt et z rows p kc){γ:Gh}{w:World}{bs:zg}{u:zh}{b:Nat}{Qn:Bool}{kv mv:Value}{zv:V}
  (hb:∀b k,bs b=some k->D4 γ w bs u b k) (hbb:bs b=some ⟨z,Qn,rows⟩) (hm:Qu γ w bs u (.mp b) mv) (hk:Qu γ w bs u (A7 (M0 P kt) kc) kv) (hz:UB P et=some zv) (ok:Bool) :
  ∃v,(Instr.lookup mt mv kv ok).run P w=.ok v w/\Qu γ w bs u (bif ok then .Qt [Ak rows p (λx=>A7 (Ft z) (x.drop (Dv z))) zv,.bool (rows.findIdx? p).isSome] else Ak rows p (λx=>A7 (Ft z) (x.drop (Dv z))) zv) v:=by
 obtain⟨B,rfl,hl,hM⟩:=hm.yG hbb
 obtain⟨es,clock,h1,h2,h3,h4,h5,h6,h7,h8,h9⟩:=h.find (hb b _ hbb) hl hM hk
 obtain⟨zval,z1,z2⟩:=Lu (P:=P) (γ:=γ) (w:=w) (bs:=bs) (u:=u) hz
 have key:∃(v:Value),(Instr.lookup mt (.map (some B)) kv ok).run P w=.ok (if ok=true then .tuple #[v,.bool (rows.findIdx? p).isSome] else v) w/\Qu γ w bs u (Ak rows p (λx=>A7 (Ft z) (x.drop (Dv z))) zv) v:=by
  unfold Ak
  cases hf:rows.findIdx? p with
  | none=>
   rw[hf] at h8
   refine⟨zval,?_,z2⟩
   simp only[Instr.lookup,zM,zF h.m,zN,MapKept.run_getObj_map h1,wi,h7,h8,z1,Option.isSome_none]
  | some j=>
   rw[hf] at h8
   have hj:j < rows.length:=(List.findIdx?_eq_some_iff_getElem.1 hf).1
   have hx:rows[j]?=some rows[j]:=wd hj
   obtain⟨e,e1,_,e3⟩:=h9 j _ hx
   simp only[e1,ww] at h8
   refine⟨e.val,?_,?_⟩
   ·simp only[Instr.lookup,zM,zF h.m,zN,MapKept.run_getObj_map h1,wi,h7,h8,Option.isSome_some]
   grind
 obtain⟨v,k2,k3⟩:=key
 cases ok with
 | false=>grind
 | true=>
  refine⟨.tuple #[v,.bool (rows.findIdx? p).isSome],by simpa using k2,?_⟩
  exact .Qt _ [v,.bool (rows.findIdx? p).isSome] rfl λi c x hc hx=>by
   match i,hc,hx with
   | 0,hc,hx=>grind
   | 1,hc,hx=>simp at hc hx;subst hc;subst hx;exact .data (.bool _)
   | n+2,hc,hx=>simp at hc
theorem PD{mt kt et:TypeId}{z:Nat}{rows:List (List V)}{p:List V->Bool}{kc:List V}{x:Oper}{st:St}{om oi:Operand}{d b:Nat}{Qn:Bool}{zv:V}(h:Sh P mt kt et z rows p kc)(hz:UB P et=some zv)
  (hop:x.op=.lookup mt om oi false) (hdst:x.dst=some d) (hd:d < st.n) (hm:st.ev G om=some (.mp b)) (hk:st.ev G oi=some (A7 (M0 P kt) kc)) (hb:st.b b=some ⟨z,Qn,rows⟩) :
  I2 P G x st (st.put (some d) (Ak rows p (λr=>A7 (Ft z) (r.drop (Dv z))) zv)):=by
 rw[<-hdst]
 refine M4 (by grind [H7]) λγ a w hs=>?_
 obtain⟨v,r1,r2⟩:=Cx h hs.b hb (hs.ev hm) (hs.ev hk) hz false
 simp_all [cond_false,execOp]
theorem Tq{mt kt et:TypeId}{z:Nat}{rows:List (List V)}{p:List V->Bool}{kc vc:List V}{x:Oper}{st:St}{om oi ov:Operand}{b:Nat}(h:Sh P mt kt et z rows p kc)(hp:∀r,r∈rows->p r=false)
  (hop:x.op=.insert mt om oi ov) (hdst:x.dst=none) (hm:st.ev G om=some (.mp b)) (hki:st.ev G oi=some (A7 (M0 P kt) kc)) (hvi:st.ev G ov=some (A7 (Ft z) vc)) (hbb:st.b b=some ⟨z,true,rows⟩)
  (hcell:∀c,c∈kc++vc->c.Zy=true) (hk:kc.length=Dv z) (hv:vc.length=bP z) (hk1:yR z=false->Dv z=1) (hv1:Ft z=false->bP z=1) :
  I2 P G x st (st.Qh b ⟨z,true,rows++[kc++vc]⟩):=Ec λγ a w hs=>by
 have rm:=hs.ev hm
 have rk:=hs.ev hki
 have rv:=hs.ev hvi
 obtain⟨B,hB,hl,hM⟩:=rm.yG hbb
 obtain⟨es,clock,h1,h2,h3,h4,h5,h6,h7,h8,h9⟩:=h.find (hs.b b _ hbb) hl hM rk
 rw[<-h.a] at rk
 obtain⟨u1,u2,u3⟩:=Xa rk (λe=>by rw[hk];exact hk1 e)
 obtain⟨t1,t2,t3⟩:=Xa rv (λe=>by rw[hv];exact hv1 e)
 have hold:=(XY h3.1 h4 h5).1 h6
 have hyl:(kc++vc).length=mwd z:=by rw[wD,hk,hv];rfl
 let e0:MapEntry:={ key:=a.eval oi,val:=a.eval ov,born:=clock }
 have Az:∀(j:Nat) (c:V),(kc++vc)[j]?=some c->∃v,(G6 z e0)[j]?=some v/\Qu γ w st.b st.u c v/\v.oneCell'=true:=λj c hj=>by
  have hc:=hcell c (zQ hj)
  have:∃v,(G6 z e0)[j]?=some v/\Qu γ w st.b st.u c v:=by
   grind [List.getElem?_append_left,List.getElem?_append_right,G6]
  obtain⟨v,v1,v2⟩:=this
  exact⟨v,v1,v2,v2.Zt hc⟩
 have hz':∀r,r∈rows++[kc++vc]->r.length=mwd z:=(by grind)
 have g1:(es.push e0).size=(rows++[kc++vc]).length:=by simp[h4]
 have g2:NR z (es.push e0)/\oK (es.push e0) (clock+1):=by
  refine⟨λe he=>?_,?_,λe he=>?_⟩
  ·rcases Array.mem_push.1 he with he|rfl
   ·exact h3.1 e he
   grind
  ·simp only[Array.toList_push,wE,wj,List.map_nil]
   refine List.nodup_append.2 ⟨h3.2.1,by simp,λx hx y hy e=>?_⟩
   obtain⟨e1,he1,rfl⟩:=zH.1 hx
   simp only[wm] at hy
   have:=h3.2.2 e1 he1
   grind
  ·simp only[Array.toList_push,wa,wm] at he
   rcases he with he|rfl
   ·exact Nat.lt_succ_of_lt (h3.2.2 e he)
   grind
 have key:=hs.Pu (clock':=clock+1) (es':=es.push e0) (rows':=rows++[kc++vc]) hbb hM hl h2 h1 g1 hz' g2 ((XY g2.1 g1 hz').2 (by grind))
 have hf:rows.findIdx? p=none:=(by grind)
 refine⟨w.putObj B (.map (es.push e0) (clock+1)),γ,?_,key.2.1,key.2.2.JH,?_⟩
 ·rw[hf] at h8
  have hrun:(Instr.mapUpdate mt (a.eval om) (a.eval oi) (a.eval ov)).run P w=.ok () (w.putObj B (.map (es.push e0) (clock+1))):=by
   rw[hB]
   simp only[Instr.mapUpdate,zM,zF h.m,zN,MapKept.run_getObj_map h1,h7,h8]
   exact MapKept.run_setObj_map _ h1
  simp[execOp,hop,hrun]
 ·rw[hdst]
  exact key.1
end Go.EV
namespace Go.EV
open Go
variable {P:Program} {G:ze}
def V7(ops:Array Oper)(i:Nat):Option Nat:=(ops[i]?).bind (·.dst)
def LC(ops:Array Oper)(i k:Nat):Bool:=match ops[i]? with
 | some o=>o.after.any λe=>Region.binds .any e&&e.on==k
 | none=>false
def HF(ops:Array Oper)(i t:Nat):Bool:=(List.range ops.size).all λk=>V7 ops k != some t || LC ops i k
def Hk(ops:Array Oper)(D:zh)(t:Nat):Bool:=(List.range ops.size).any λk=>D k&&V7 ops k==some t
theorem Yx{ops:Array Oper}{i k:Nat}{D:zh}(h:LC ops i k=true)(hd:∀o,ops[i]?=some o->∀e,e∈o.after->Region.binds .any e=true->D e.on=true):D k=true:=by
 unfold LC at h
 grind
def MR(P:Program)(ops:Array Oper)(SF:St)(m mk z:Nat)(mt kt:TypeId)(ins:List (Nat×List V×List V))(kl:List V)(q:List V->Bool)(x:Nat×List V×List V):Prop:=
 (∃(o:Oper) (om oi ov:Nat),ops[x.1]?=some o/\o.op=.insert mt (.tmp om) (.tmp oi) (.tmp ov)/\o.dst=none/\SF.t om=.mp m/\SF.t oi=A7 (M0 P kt) x.2.1/\SF.t ov=A7 (Ft z) x.2.2/\
  HF ops x.1 om=true/\HF ops x.1 oi=true/\HF ops x.1 ov=true/\LC ops x.1 mk=true/\x.1 < ops.size)/\(∀c,c∈x.2.1++x.2.2->c.Zy=true)/\x.2.1.length=Dv z/\x.2.2.length=bP z/\
  (G4 P kt x.2.1 x.2.1).isSome=true/\(∀y,y∈ins->y.1≠x.1->G4 P kt x.2.1 y.2.1=some false)/\G4 P kt kl x.2.1=some (q x.2.1)
theorem MR.of{P:Program}{ops:Array Oper}{SF:St}{m mk z:Nat}{mt kt:TypeId}{ins:List (Nat×List V×List V)}{kl:List V}{q:List V->Bool}{x:Nat×List V×List V}(om oi ov:Nat)
  (h1:(ops[x.1]?).map (λo=>(o.op,o.dst))=some (.insert mt (.tmp om) (.tmp oi) (.tmp ov),none)) (h0:SF.t om=.mp m) (h2:SF.t oi=A7 (M0 P kt) x.2.1) (h3:SF.t ov=A7 (Ft z) x.2.2)
  (h4:(HF ops x.1 om&&(HF ops x.1 oi&&(HF ops x.1 ov&&(LC ops x.1 mk&&decide (x.1 < ops.size)))))=true) (h5:x.2.1.length=Dv z/\x.2.2.length=bP z/\(x.2.1++x.2.2).all V.Zy=true)
  (h6:(G4 P kt x.2.1 x.2.1).isSome=true) (h7:(ins.all λy=>y.1==x.1 || (match G4 P kt x.2.1 y.2.1 with|some false=>true|_=>false))=true) (h8:G4 P kt kl x.2.1=some (q x.2.1)):MR P ops SF m mk z mt kt ins kl q x:=by
 obtain⟨o,ho,he⟩:=zE.1 h1
 simp only[zD,zC] at h4
 obtain⟨k1,k2,k3,k4,k5⟩:=h4
 refine⟨(by grind),zG.1 h5.2.2,h5.1,h5.2.1,h6,λy hy hne=>?_,h8⟩
 grind
structure mQ(P:Program)(G:ze)(ops:Array Oper)(st SF:St)(m mk lk cp z:Nat)(mt kt et:TypeId)(ins:List (Nat×List V×List V))(pure:List (Nat×List Loc))(kl:List V)(res zv:V)(q:List V->Bool):Prop where
 cov:∀i,i < ops.size->i=mk\/i=lk\/(∃x,x∈ins/\x.1=i)\/∃x,x∈pure/\x.1=i
 guard:∀(i:Nat) (o:Oper),ops[i]?=some o->o.guard=none
 sf:∀t,(∀k,k < ops.size->V7 ops k≠some t)->SF.t t=st.t t
 sfn:SF.n=st.n
 sfb:∀b,b≠m->SF.b b=st.b b/\SF.u b=st.u b
 fresh:st.b m=none/\st.u m=false
 step:∀x,x∈pure->∃d,V7 ops x.1=some d/\Hd P G ops x.1 SF=some (x.2,[.t d (SF.t d)])
 reads:∀x,x∈pure->∀l,l∈x.2->(match l with|.t t=>HF ops x.1 t|.b b=>b != m)=true
 make:∃o:Oper,ops[mk]?=some o/\o.op=.makeMap mt none/\o.dst=some m/\m < st.n/\SF.t m=.mp m/\Y8<=z
 maps:P.underlying mt=some (.map kt et)/\yR z=M0 P kt/\UB P et=some zv/\(yR z=false->Dv z=1)/\(Ft z=false->bP z=1)
 put:∀x,x∈ins->MR P ops SF m mk z mt kt ins kl q x
 look:∃(o:Oper) (om oi d:Nat),ops[lk]?=some o/\o.op=.lookup mt (.tmp om) (.tmp oi) false/\o.dst=some d/\d < st.n/\SF.t om=.mp m/\SF.t oi=A7 (M0 P kt) kl/\SF.t d=res/\HF ops lk om=true/\HF ops lk oi=true/\
  LC ops lk cp=true/\cp < ops.size/\LC ops cp mk=true/\∀x,x∈ins->LC ops cp x.1=true
 self:(G4 P kt kl kl).isSome=true
 hit:∀x,x∈ins->q x.2.1=true->A7 (Ft z) x.2.2=res
 Qzp:(∀x,x∈ins->q x.2.1=false)->zv=res
 apart:mk≠lk/\(∀x,x∈ins->x.1≠mk/\x.1≠lk)/\(∀x,x∈pure->x.1≠mk)/\∀x y,x∈ins->y∈ins->x.1=y.1->x=y
def Qhv(ops:Array Oper)(st SF:St)(m mk z:Nat)(ins:List (Nat×List V×List V))(D:zh)(s:St):Prop:=
 s.n=st.n/\(∀t,s.t t=bif Hk ops D t then SF.t t else st.t t)/\(∀b,b≠m->s.b b=st.b b/\s.u b=st.u b)/\
  (D mk=false->s.b m=none/\s.u m=false)/\(D mk=true->∃rows,s.b m=some ⟨z,true,rows⟩/\∀r,r∈rows↔∃x,x∈ins/\D x.1=true/\r=x.2.1++x.2.2)
theorem Um{ops:Array Oper}{D:zh}{i:Nat}(hi:i < ops.size)(t:Nat):Hk ops (λj=>D j || decide (j=i)) t=(Hk ops D t || (V7 ops i==some t)):=by
 unfold Hk
 grind
theorem TV.iR{ops:Array Oper}{id:Nat}{st SF:St}{Q:Exit->St->Prop}{m mk lk cp z:Nat}{mt kt et:TypeId}{ins:List (Nat×List V×List V)}{pure:List (Nat×List Loc)}{kl:List V}{res zv:V}{q:List V->Bool}
  (hm:P.follows .mixedOrders=true) (hback:(ops.toList.zipIdx.all λx=>x.1.after.all λe=>!Region.binds .any e || decide (e.on < x.2))=true)
  (h:mQ P G ops st SF m mk lk cp z mt kt et ins pure kl res zv q)
  (hq:∀s:St,s.n=st.n->(∀t,s.t t=SF.t t)->(∀b,b≠m->s.b b=st.b b/\s.u b=st.u b)->Q .normal s):TV P G (.region id ops true) st Q:=by
 have read:∀{D:zh} {s:St} {i t:Nat},Qhv ops st SF m mk z ins D s->(∀o,ops[i]?=some o->∀e,e∈o.after->Region.binds .any e=true->D e.on=true)->HF ops i t=true->s.t t=SF.t t:=by
  intro D s i t hI hd ht
  rw[hI.2.1 t]
  cases hdn:Hk ops D t with
  | true=>rfl
  | false=>
   refine(h.sf t λk hk hdst=>?_).symm
   have hk':=zG.1 ht k (by simpa using hk)
   rw[hdst] at hk'
   simp only[bne_self_eq_false,Bool.false_or] at hk'
   have:=Yx hk' hd
   grind [List.any_eq_true,Hk]
 refine TV.Qhm (I:=Qhv ops st SF m mk z ins) hm hback (λD s i hi hDi hin hc hd hI=>?_) (λD s hall hin hI=>?_) ?_
 ·have hg:∀{o:Oper} {s:St},ops[i]?=some o->M6 ops s o=some true:=λho=>by unfold M6;rw[h.guard i _ ho]
  rcases h.cov i hi with rfl|rfl|⟨x,hx,rfl⟩|⟨x,hx,rfl⟩
  ·
   obtain⟨o,ho,hop,hdst,hmn,hsf,hM⟩:=h.make
   obtain⟨hb,hu⟩:=hI.2.2.2.1 hDi
   refine⟨s.app [.b m (some ⟨z,true,[]⟩),.t m (.mp m)],?_,?_⟩
   ·unfold P1
    rw[ho]
    exact .inl ⟨hg ho,(Qw.makeMap (P:=P) (G:=G) mt m z hM).ok () rfl o s hop hdst (λ_ h=>by cases h) (λ_ h=>by cases h) λd hd'=>by
     obtain rfl:=zW hd'
     exact⟨by rw[hI.1];exact hmn,hu⟩⟩
   ·refine⟨hI.1,λt=>?_,λb hb'=>?_,λe=>by simp at e,λ_=>⟨[],by simp[St.app,St.wr,St.QG,St.Qh],λr=>⟨λhr=>(by cases hr),λ⟨x,hx,hD,_⟩=>?_⟩⟩⟩
    ·rw[Um hi t]
     have hdo:V7 ops i=some m:=by grind [V7]
     rw[hdo]
     show (if t=m then V.mp m else s.t t)=_
     by_cases ht:t=m
     ·grind
     ·rw[if_neg ht,hI.2.1 t]
      grind
    ·have:(s.app [.b m (some ⟨z,true,[]⟩),.t m (.mp m)]).b b=s.b b/\(s.app [.b m (some ⟨z,true,[]⟩),.t m (.mp m)]).u b=s.u b:=by
      simp[St.app,St.wr,St.QG,St.Qh,hb']
     rw[this.1,this.2];exact hI.2.2.1 b hb'
    ·simp only[zU,zC] at hD
     rcases hD with hD|hD
     ·obtain⟨⟨o',_,_,_,ho',_,_,_,_,_,_,_,_,he,hlt⟩,_⟩:=h.put x hx
      have:=Yx he (hc x.1 · hD)
      grind
     ·exact absurd hD (h.apart.2.1 x hx).1
  ·
   obtain⟨o,om,oi,d,ho,hop,hdst,hdn,h1,h2,h3,h4,h5,h6,h7,h8,h9⟩:=h.look
   have hcp:D cp=true:=Yx h6 hd
   have hmk:D mk=true:=Yx h8 (hc cp · hcp)
   obtain⟨rows,hb,hr⟩:=hI.2.2.2.2 hmk
   have hall:∀x,x∈ins->D x.1=true:=λx hx=>Yx (h9 x hx) (hc cp · hcp)
   obtain⟨m1,m2,m3,m4,m5⟩:=h.maps
   have rowOf:∀r,r∈rows->∃x,x∈ins/\r=x.2.1++x.2.2/\r.take (Dv z)=x.2.1/\r.drop (Dv z)=x.2.2:=λr hr'=>by
    obtain⟨x,hx,_,rfl⟩:=(hr r).1 hr'
    obtain⟨_,_,hl,_⟩:=h.put x hx
    grind
   let p:List V->Bool:=λr=>q (r.take (Dv z))
   have mr:Sh P mt kt et z rows p kl:=⟨m1,m2,h.self,λr hr'=>by
    obtain⟨x,hx,_,e,_⟩:=rowOf r hr'
    show G4 P kt kl (r.take (Dv z))=some (q (r.take (Dv z)))
    rw[e];exact(h.put x hx).2.2.2.2.2.2⟩
   have hres:Ak rows p (λr=>A7 (Ft z) (r.drop (Dv z))) zv=res:=by
    unfold Ak
    cases hf:rows.findIdx? p with
    | none=>
     have hn:=List.findIdx?_eq_none_iff.1 hf
     refine h.Qzp λx hx=>?_
     have hm':x.2.1++x.2.2∈rows:=(by grind)
     have:=hn _ hm'
     obtain⟨_,_,hl,_⟩:=h.put x hx
     grind
    | some j=>
     obtain⟨hj,hpj,_⟩:=List.findIdx?_eq_some_iff_getElem.1 hf
     have hx':rows[j]?=some rows[j]:=wd hj
     obtain⟨x,hx,_,e,e2⟩:=rowOf rows[j] (List.getElem_mem _)
     simp only[hx',e2]
     exact h.hit x hx (by grind)
   refine⟨s.put (some d) res,?_,?_⟩
   ·unfold P1
    rw[ho]
    refine .inl ⟨hg ho,?_⟩
    rw[<-hres]
    exact PD mr m3 hop hdst (by rw[hI.1];exact hdn) (show some (s.t om)=_ by grind) (show some (s.t oi)=_ by grind) hb
   ·refine⟨hI.1,λt=>?_,λb hb'=>hI.2.2.1 b hb',(by grind),λ_=>⟨rows,hb,λr=>?_⟩⟩
    ·rw[Um hi t]
     have hdo:V7 ops i=some d:=by grind [V7]
     rw[hdo]
     show (if t=d then res else s.t t)=_
     by_cases ht:t=d
     ·grind
     ·rw[if_neg ht,hI.2.1 t]
      grind
    grind
  ·
   obtain⟨⟨o,om,oi,ov,ho,hop,hdst,h1,h2,h3,h4,h5,h6,h7,h8⟩,hcell,hl1,hl2,hself,hne,_⟩:=h.put x hx
   have hmk:D mk=true:=Yx h7 hd
   obtain⟨rows,hb,hr⟩:=hI.2.2.2.2 hmk
   obtain⟨m1,m2,m3,m4,m5⟩:=h.maps
   have mr:Sh P mt kt et z rows (λ_=>false) x.2.1:=⟨m1,m2,hself,λr hr'=>by
    obtain⟨y,hy,hD,rfl⟩:=(hr r).1 hr'
    obtain⟨_,_,hl,_⟩:=h.put y hy
    grind⟩
   refine⟨s.Qh m ⟨z,true,rows++[x.2.1++x.2.2]⟩,?_,?_⟩
   ·unfold P1
    rw[ho]
    exact .inl ⟨hg ho,Tq mr (λ_ _=>rfl) hop hdst (show some (s.t om)=_ by grind) (show some (s.t oi)=_ by grind) (show some (s.t ov)=_ by grind) hb hcell hl1 hl2 m4 m5⟩
   ·refine⟨hI.1,λt=>?_,λb hb'=>?_,(by grind),λ_=>⟨rows++[x.2.1++x.2.2],by simp[St.Qh],λr=>?_⟩⟩
    ·rw[Um hi t]
     have hdo:V7 ops x.1=none:=by grind [V7]
     rw[hdo]
     show s.t t=_
     rw[hI.2.1 t]
     simp
    ·have:(s.Qh m ⟨z,true,rows++[x.2.1++x.2.2]⟩).b b=s.b b/\(s.Qh m ⟨z,true,rows++[x.2.1++x.2.2]⟩).u b=s.u b:=by simp[St.Qh,hb']
     rw[this.1,this.2];exact hI.2.2.1 b hb'
    ·rw[wa,wm,hr r]
     constructor
     ·grind
     ·rintro⟨y,hy,hD,e⟩
      simp only[zU,zC] at hD
      rcases hD with hD|hD
      ·grind
      ·by_cases hyx:D y.1=true
       ·grind
       ·exact .inr (by rw[h.apart.2.2.2 y x hy hx hD] at e;exact e)
  ·
   obtain⟨d,hdst,hst⟩:=h.step x hx
   have hag:∀l,l∈x.2->O0 SF s l:=λl hl=>by
    have:=h.reads x hx l hl
    cases l with
    | t t=>exact(read hI hd this).symm
    | b b=>
     have hb':b≠m:=by grind
     exact⟨by rw[(h.sfb b hb').1,(hI.2.2.1 b hb').1],by rw[(h.sfb b hb').2,(hI.2.2.1 b hb').2]⟩
   have hs2:=YE hst s (by rw[hI.1,h.sfn]) hag
   refine⟨s.app [.t d (SF.t d)],hs2,?_⟩
   have hne:x.1≠mk:=h.apart.2.2.1 x hx
   have e1:(D mk || decide (mk=x.1))=D mk:=by grind
   refine⟨hI.1,λt=>?_,λb hb'=>hI.2.2.1 b hb',λe=>hI.2.2.2.1 (by grind),λe=>?_⟩
   ·rw[Um hi t,hdst]
    show (if t=d then SF.t d else s.t t)=_
    by_cases ht:t=d
    ·subst ht;simp
    ·rw[if_neg ht,hI.2.1 t]
     grind
   ·obtain⟨rows,hb,hr⟩:=hI.2.2.2.2 (by grind)
    refine⟨rows,hb,λr=>?_⟩
    rw[hr r]
    constructor
    ·grind
    ·rintro⟨y,hy,hD,e⟩
     simp only[zU,zC] at hD
     rcases hD with hD|hD
     ·exact⟨y,hy,hD,e⟩
     ·obtain⟨⟨o',_,_,_,ho',_,hdn,_⟩,_⟩:=h.put y hy
      have:V7 ops x.1=none:=by unfold V7;rw[<-hD,ho'];exact hdn
      rw[hdst] at this;cases this
 ·refine hq s hI.1 (λt=>?_) hI.2.2.1
  rw[hI.2.1 t]
  cases hdn:Hk ops D t with
  | true=>rfl
  | false=>
   refine(h.sf t λk hk hdst=>?_).symm
   have hx:Hk ops D t=true:=by
    unfold Hk
    exact List.any_eq_true.2 ⟨k,by simpa using hk,by simp[hall k hk,hdst]⟩
   rw[hx] at hdn;cases hdn
 ·refine⟨rfl,λt=>?_,λ_ _=>⟨rfl,rfl⟩,λ_=>h.fresh,λe=>by cases e⟩
  have:Hk ops (λ_=>false) t=false:=by unfold Hk;simp
  rw[this];rfl
end Go.EV
