/- AgentWires: the law, for any draft, event, probe and octets. The listed variables: laid in the witness; one of them (the kinds' weights) is read. Wha ..; no conditions. -/
import Derived.Test.YtjpahkpfkohfkaaGreatDoorW19
import Derived.Test.YtjpahkpfkohfkaaGreatDoorW21
import Derived.Test.YtjpahkpfkohfkaaGreatDoorW8
import Derived.Test.YtjpahkpfkohfkaaGreatDoorRows
import Derived.ChangeSame
import Derived.ChangeVars
import Derived.JoinedOf
import Derived.RowKit
import Derived.ProofKit
import Derived.LaidMore
import Derived.Lay
import Derived.OpenShut
import Derived.Carry
import Derived.Stop.Joined
import Derived.Lib.LaidU8
import Derived.ChangeArms
import Derived.DataReads
import Derived.SevenTiedAt
import Derived.Test.YtjpahkpfkohfkaaGreatDoorW12
import Derived.KernelRfl
set_option linter.unusedVariables false
set_option linter.unusedSimpArgs false
set_option maxRecDepth 100000
namespace Go.Proofs.YtjpahkpfkohfkaaGreatDoor
open Go Go.EV
theorem okWIRES(p:SProbe)(d:SDraft1)(l:SEvent)(key:za)(x:SEdit)(raw:za)(hl:EventOk l)(hx:EditOk x):SOk (s6 p d l key x raw) (λr=>r=true):=
 okLWIRES p d l key x raw hx okWAKES (okFRESH d) λa ha=>okHOP l a hl ha
end Go.Proofs.YtjpahkpfkohfkaaGreatDoor
namespace Go.Proofs.YtjpahkpfkohfkaaGreatDoor
open Go Go.EV Go.ChangeShapes
theorem own:ownKnob Tryz.prog.godebug=none:=by kernel_rfl
abbrev laid1:List (String×DataW Unit):=[("math/bits.deBruijn32tab",Rows.laid_math_bits_deBruijn32tab),("math/bits.deBruijn64tab",Rows.laid_math_bits_deBruijn64tab),("internal/strconv.uint64pow10",Rows.laid_internal_strconv_uint64pow10),("unicode/utf8.acceptRanges",Rows.laid_unicode_utf8_acceptRanges),("tannoy/candidate.weights",Rows.laid_tannoy_candidate_weights),("unicode/utf8.first",Rows.laid_unicode_utf8_first)]
theorem shaped1(os:Os):(World.laidAll Tryz.prog os laid1).Shaped Tryz.prog:=World.shaped_of_ZipB (by kernel_rfl) (by kernel_rfl)
theorem laid_met(os:Os)(args:Array Value):laidMetH Tryz.prog laid1 ((World.laidAll Tryz.prog os laid1).forCall (λ_ _=>0) ⟨#[],args,[]⟩).memory:=by
 rw[MakeChecks.laidMetH_plain _ _ _ (by kernel_rfl)]
 exact laidMet_laidAll _ (by kernel_rfl) (by kernel_rfl)
def gh0(w:World):Gh:={ loc:=λ_=>none,own:=λ_=>none,lim:=λB=>match w.heap[B]? with|some (.cells cs _ _)=>cs.size|_=>0 }
theorem gh0_lim{w:World}{B o:Nat}{v:Value}(h:cellAt w B o=some v):o < (gh0 w).lim B:=by
 unfold cellAt World.cell? at h
 simp only[gh0]
 cases hb:w.heap[B]? with
 | none=>simp[hb] at h
 | some x=>
  cases x with
  | cells cs t fz=>
   simp only[hb] at h
   simp only
   exact(wk.1 (by simpa using h)).1
  | _=>simp[hb] at h
theorem weights_of{w:World}(h:laidMetH Tryz.prog laid1 w):w.var? Tryz.prog "tannoy/candidate.weights"=some #[.int .i64 0,.int .i64 126,.int .i64 110,.int .i64 100,.int .i64 0]:=by
 rw[MakeChecks.laidMetH_plain _ _ _ (by kernel_rfl)] at h
 obtain⟨g,t,cs,A9,p,hg,ht,hv,hd⟩:=Lib.laidMet.reads h (n:= "tannoy/candidate.weights") (d:=Rows.laid_tannoy_candidate_weights) (by simp)
 obtain rfl:=wq ((show Tryz.prog.globalNamed "tannoy/candidate.weights"=some 0 by kernel_rfl).symm.trans hg)
 obtain rfl:=wq ((show (Tryz.prog.globals[0]?).map (·.type)=some 240 by kernel_rfl).symm.trans ht)
 have c5:Tryz.prog.cellsOf 3=1:=by kernel_rfl
 have c29:Tryz.prog.cellsOf 240=5:=by kernel_rfl
 have u5:Tryz.prog.underlying 3=some (.int .i64):=by kernel_rfl
 have u29:Tryz.prog.underlying 240=some (.array 5 3):=by kernel_rfl
 obtain⟨xs,m,_,ex,hlen,hl,hel⟩:=DataW.trod_array u29 hd
 rw[c29] at hlen
 obtain⟨l⟩:=cs
 match l,hlen with
 | [a,b,c,d,e],_=>
  match xs,hl with
  | [x0,x1,x2,x3,x4],_=>
   have e3:=(DataW.agg.inj (Prod.mk.inj ex).1)
   simp only[zW,List.map_nil,List.cons.injEq,and_true] at e3
   have k0:=hel 0 (by omega);have k1:=hel 1 (by omega);have k2:=hel 2 (by omega);have k3:=hel 3 (by omega);have k4:=hel 4 (by omega)
   rw[c5] at k0 k1 k2 k3 k4
   obtain⟨z0,a0,b0,_⟩:=DataW.trod_int u5 k0
   obtain⟨z1,a1,b1,_⟩:=DataW.trod_int u5 k1
   obtain⟨z2,a2,b2,_⟩:=DataW.trod_int u5 k2
   obtain⟨z3,a3,b3,_⟩:=DataW.trod_int u5 k3
   obtain⟨z4,a4,b4,_⟩:=DataW.trod_int u5 k4
   simp at a0 a1 a2 a3 a4
   subst b0;subst b1;subst b2;subst b3;subst b4
   simp at e3
   obtain⟨f0,f1,f2,f3,f4⟩:=e3
   rw[hv,a0,a1,a2,a3,a4,<-f0,<-f1,<-f2,<-f3,<-f4]
theorem globOk{w:World}(h:laidMetH Tryz.prog laid1 w):V3 GG (gh0 w) w:=λg cells hg=>by
 unfold GG at hg
 split at hg
 ·rename_i e
  subst e
  simp only[zp] at hg
  subst hg
  have c:=World.var?_cell (show Tryz.prog.globalNamed "tannoy/candidate.weights"=some 0 by kernel_rfl) (weights_of h)
  refine .snap _ 0 0 (λi=>match i with|0=>.int .i64 0|1=>.int .i64 126|2=>.int .i64 110|3=>.int .i64 100|_=>.int .i64 0) (λi c' hc=>?_) (λi c' hc=>?_)
  ·have key:∀(o:Nat) (v:Value),w.cell? ⟨0,o,none⟩=some v->o < (gh0 w).lim 0/\cellAt w 0 o=some v:=λo v hv=>⟨gh0_lim (v:=v) hv,hv⟩
   match i,hc with
   | 0,_=>exact key _ _ (by rw[c 0];rfl)
   | 1,_=>exact key _ _ (by rw[c 1];rfl)
   | 2,_=>exact key _ _ (by rw[c 2];rfl)
   | 3,_=>exact key _ _ (by rw[c 3];rfl)
   | 4,_=>exact key _ _ (by rw[c 4];rfl)
   | n+5,hc=>simp at hc
  ·match i,hc with
   | 0,hc=>simp at hc;subst hc;exact .int _ _
   | 1,hc=>simp at hc;subst hc;exact .int _ _
   | 2,hc=>simp at hc;subst hc;exact .int _ _
   | 3,hc=>simp at hc;subst hc;exact .int _ _
   | 4,hc=>simp at hc;subst hc;exact .int _ _
   | n+5,hc=>simp at hc
 ·simp at hg
theorem keptBut_of_grow{w w':World}{γ':Gh}(h:Grow (gh0 w) w γ' w')(may:MemPlace->Prop):w.keptBut w' may:=by
 refine⟨h.os,h.output,λi hi=>?_⟩
 have:=(h.free i hi rfl).1
 rw[this]
 cases w.heap[i]? with
 | none=>trivial
 | some x=>
  cases x with
  | cells c t fr=>exact⟨rfl,rfl,rfl,λ_ _=>rfl⟩
  | map es clock=>exact .inr ⟨rfl,rfl⟩
  | _=>rfl
theorem trodAll_six{H:Type}{enc:TypeId×Value->H}{P:Program}{w:World}{base:Nat}{spare:zf}{held:Bool}{t t' t'' t3 t4 t5:TypeId}{args:Array Value}{ds:List (DataW H)}{ps:List MemPlace}(h:DataW.TrodAll enc P w base spare held [t,t',t'',t3,t4,t5] args.toList ds ps) :
  ∃v v' v'' v3 v4 v5 d d' d'' d3 d4 d5 p p' p'' p3 p4 p5,args=#[v,v',v'',v3,v4,v5]/\ds=[d,d',d'',d3,d4,d5]/\ps=p++(p'++(p''++(p3++(p4++p5))))/\DataW.Trod enc P w base spare held t v d p/\DataW.Trod enc P w base spare held t' v' d' p'/\DataW.Trod enc P w base spare held t'' v'' d'' p''/\
   DataW.Trod enc P w base spare held t3 v3 d3 p3/\DataW.Trod enc P w base spare held t4 v4 d4 p4/\DataW.Trod enc P w base spare held t5 v5 d5 p5:=by
 obtain⟨v,vs,d,ds',p,q,hargs,rfl,rfl,hd,hrest⟩:=ChangeShapes.trodAll_cons h
 obtain⟨v',vs',d',ds'',p',q',rfl,rfl,rfl,hd',hrest'⟩:=ChangeShapes.trodAll_cons hrest
 obtain⟨v'',vs'',d'',ds''',p'',q'',rfl,rfl,rfl,hd'',hrest''⟩:=ChangeShapes.trodAll_cons hrest'
 obtain⟨v3,vs3,d3,ds3,p3,q3,rfl,rfl,rfl,hd3,hrest3⟩:=ChangeShapes.trodAll_cons hrest''
 obtain⟨v4,vs4,d4,ds4,p4,q4,rfl,rfl,rfl,hd4,hrest4⟩:=ChangeShapes.trodAll_cons hrest3
 obtain⟨v5,vs5,d5,ds5,p5,q5,rfl,rfl,rfl,hd5,hrest5⟩:=ChangeShapes.trodAll_cons hrest4
 obtain⟨rfl,rfl,rfl⟩:=ChangeShapes.trodAll_nil hrest5
 exact⟨v,v',v'',v3,v4,v5,d,d',d'',d3,d4,d5,p,p',p'',p3,p4,p5,Array.toList_inj.1 hargs,rfl,by simp,hd,hd',hd'',hd3,hd4,hd5⟩
theorem trodAll_mk6{H:Type}{enc:TypeId×Value->H}{P:Program}{w:World}{base:Nat}{spare:zf}{held:Bool}{t t' t'' t3 t4 t5:TypeId}{v v' v'' v3 v4 v5:Value}{d d' d'' d3 d4 d5:DataW H}{p p' p'' p3 p4 p5:List MemPlace}(h:DataW.Trod enc P w base spare held t v d p)(h':DataW.Trod enc P w base spare held t' v' d' p')
  (h'':DataW.Trod enc P w base spare held t'' v'' d'' p'') (h3:DataW.Trod enc P w base spare held t3 v3 d3 p3) (h4:DataW.Trod enc P w base spare held t4 v4 d4 p4) (h5:DataW.Trod enc P w base spare held t5 v5 d5 p5) :
  DataW.TrodAll enc P w base spare held [t,t',t'',t3,t4,t5] [v,v',v'',v3,v4,v5] [d,d',d'',d3,d4,d5] (p++(p'++(p''++(p3++(p4++p5))))):=⟨p,_,h,trodAll_cons_mk h' (trodAll_cons_mk h'' (ChangeShapes.trodAll_mk3 h3 h4 h5)),rfl⟩
def CellsD(W:World)(l:List V)(cs:List Value):Prop:=cs.length=l.length/\∀(i:Nat) (c:V) (v:Value),l[i]?=some c->cs[i]?=some v->K7 (gh0 W).lim W c v
theorem CellsD.one{W:World}{c:V}{v:Value}(h:K7 (gh0 W).lim W c v):CellsD W [c] [v]:=⟨rfl,(by grind)⟩
theorem CellsD.append{W:World}{l m:List V}{cs ds:List Value}(h:CellsD W l cs)(k:CellsD W m ds):CellsD W (l++m) (cs++ds):=
  ⟨by simp[h.1,k.1],λi c v hc hv=>by
    by_cases hi:i < l.length
    · rw[wy hi] at hc
      rw[wy (by rw[h.1];exact hi)] at hv
      exact h.2 i c v hc hv
    · rw[wz (by omega)] at hc
      rw[wz (by rw[h.1];omega),h.1] at hv
      exact k.2 _ c v hc hv⟩
def Rd(t:TypeId){α:Type}(c:α->List V)(I:α->Prop):Prop:=
 ∀(H:Type) (enc:TypeId×Value->H) (W:World) (A9:Nat) (cs:List Value) (x:DataW H×List MemPlace),DataW.trod enc Tryz.prog W 0 (λ_=>true) true A9 t cs=some x->∃a:α,I a/\CellsD W (c a) cs
theorem R1{t:TypeId}{k:IntKind}(ht:Tryz.prog.underlying t=some (.int k)):Rd t (λn:Int=>[.int k n]) (λn=>(Lit.int k n).wf=true):=λH enc W A9 cs x h=>by
 obtain⟨n,rfl,_,hw⟩:=DataW.trod_int ht h
 exact⟨n,hw,.one (.int k n)⟩
theorem rdBool{t:TypeId}(ht:Tryz.prog.underlying t=some .bool):Rd t (λb:Bool=>[.bool b]) (λ_=>True):=λH enc W A9 cs x h=>by
 cases A9 with
 | zero=>simp[DataW.trod] at h
 | succ n=>
  unfold DataW.trod at h
  rw[ht] at h
  split at h<;>first|exact⟨_,trivial,.one (.bool _)⟩|simp_all
theorem rdStr{t:TypeId}(ht:Tryz.prog.underlying t=some .string):Rd t (λs:za=>[.str s]) (λ_=>True):=λH enc W A9 cs x h=>by
 cases A9 with
 | zero=>simp[DataW.trod] at h
 | succ n=>
  unfold DataW.trod at h
  rw[ht] at h
  split at h<;>simp_all
  exact⟨_,.one (.str _)⟩
theorem fld{H:Type}{enc:TypeId×Value->H}{W:World}{n:Nat}{fs:Array Field}{cs:List Value}{xs:List (DataW H×List MemPlace)}{t o z:Nat}{α:Type}{c:α->List V}{I:α->Prop}
  (hel:∀(i:Nat) (f:Field),fs[i]?=some f->DataW.trod enc Tryz.prog W 0 (λ_=>true) true n f.type ((cs.drop f.offset).take (Tryz.prog.cellsOf f.type))=xs[i]?) (hn:xs.length=fs.size) (i:Nat)
  (hf:(fs[i]?).map (λf=>(f.type,f.offset))=some (t,o)) (hz:Tryz.prog.cellsOf t=z) (r:Rd t c I):∃a:α,I a/\CellsD W (c a) ((cs.drop o).take z):=by
 obtain⟨f,h1,h2⟩:=zw.1 hf
 simp only[zJ] at h2
 obtain⟨rfl,rfl⟩:=h2
 have hi:i < xs.length:=by grind
 have:=hel i f h1
 rw[zR hi,hz] at this
 exact r H enc W n _ _ this
theorem cells_at{W:World}{a:Addr}{z:Nat}{ci:List Value}(h:W.cells? 0 a z=some ci):ci.length=z/\∀r,r < z->W.cell? (a.add r)=ci[r]?:=by
 unfold World.cells? at h
 rw[if_pos (Nat.zero_le _)] at h
 exact⟨by simpa using mapM_some_length h,λr hr=>mapM_some_get h r r (by simp[hr])⟩
theorem spot_of{W:World}{a:Addr}{z q:Nat}{ci:List Value}(hz:0 < z)(h:W.cells? 0 (a.add (q * z)) z=some ci)(hq:q=0):a.spot=none:=by
 obtain⟨h1,h2⟩:=cells_at h
 grind [List.getElem?_eq_getElem,World.cell?_spot,Addr.add]
theorem rdSlice{t e z:Nat}{α:Type}{ty:Ty α}{I:α->Prop}(ht:Tryz.prog.underlying t=some (.slice e))(hz:Tryz.prog.cellsOf e=z)(hpos:0 < z)(hlen:∀a,(ty.c a).length=z)(r:Rd e ty.c I) :
  Rd t (λl:List α=>[.sl false z (l.map ty.c)]) (λl=>∀a,a∈l->I a):=λH enc W A9 cs x h=>by
 rcases DataW.trod_slice ht h with⟨rfl,-⟩|⟨a,len,cap,elems,rest,n,rfl,rfl,-,-,hlc,-,hel,hE,hR,-⟩
 ·exact⟨[],by simp,.one (.slNil false z)⟩
 rw[hz] at hE hR
 have build:∀m,m<=len->∃l:List α,l.length=m/\(∀a,a∈l->I a)/\∀i x,l[i]?=some x->∃ci,W.cells? 0 (a.add (i * z)) z=some ci/\CellsD W (ty.c x) ci:=by
  intro m
  induction m with
  | zero=>simp_all
  | succ m ih=>
   intro hm
   obtain⟨l,l1,l2,l3⟩:=ih (by omega)
   have:=hE m (by omega)
   rw[zR (by omega)] at this
   obtain⟨ci,hci,htr⟩:=zL.1 this
   obtain⟨y,hy,hcd⟩:=r H enc W n ci _ htr
   refine⟨l++[y],by simp[l1],λb hb=>?_,λi x hx=>?_⟩
   ·grind
   grind
 obtain⟨l,hl,hI,hc⟩:=build len (zD _)
 refine⟨l,hI,.one ?_⟩
 by_cases hcap:cap=0
 ·have:l=[]:=qd.1 (by omega)
  subst this
  have h0:len=0:=by grind
  subst h0;subst hcap
  exact .slNil false z (some a)
 have hspot:a.spot=none:=by
  by_cases h0:len=0
  ·obtain⟨r1,r2⟩:=hR rfl
   have:=r2 0 (by omega)
   grind [List.getElem?_eq_getElem,Option.bind_eq_some_iff,spot_of]
  ·have:=hE 0 (by omega)
   rw[zR (by omega)] at this
   obtain⟨ci,hci,_⟩:=zL.1 this
   exact spot_of hpos hci rfl
 obtain⟨B,o,sp⟩:=a
 simp only at hspot
 subst hspot
 have hsz:∀q,q∈l.map ty.c->q.length=z:=(by grind)
 have key:∀(i:Nat) (c:V),(l.map ty.c).flatten[i]?=some c->∃v,cellAt W B (o+i)=some v/\K7 (gh0 W).lim W c v:=λi c hci=>by
  have e1:i=(i / z) * z+i % z:=by grind [Nat.mul_comm,Nat.div_add_mod]
  have hm:=Nat.mod_lt i hpos
  rw[e1,U1 _ hsz _ _ hm,zV] at hci
  cases hx:l[i / z]? with
  | none=>grind
  | some y=>
   rw[hx] at hci
   simp only[wu,zP] at hci
   obtain⟨ci,k1,k2⟩:=hc _ _ hx
   obtain⟨k3,k4⟩:=cells_at k1
   have k5:=k4 (i % z) hm
   have hv:ci[i % z]?=some (ci[i % z]'(by omega)):=zR _
   refine⟨_,?_,k2.2 _ _ _ hci hv⟩
   grind [Addr.add_eq,cellAt]
 have fin:=K7.sl (lim:=(gh0 W).lim) (w:=W) false z (l.map ty.c) B o cap (λi=>(cellAt W B (o+i)).getD default) (by simp;omega) hsz
  (λi c hci=>by obtain⟨v,v1,v2⟩:=key i c hci;rw[v1];exact⟨gh0_lim v1,rfl⟩) (by grind)
 grind
noncomputable def fsOf(t:TypeId):Array Field:=match Tryz.prog.underlying t with|some (.struct f)=>f|_=>#[]
theorem open_agg{H:Type}{enc:TypeId×Value->H}{W:World}{t:TypeId}{α:Type}{c:α->List V}{I:α->Prop}(r:Rd t c I){v:Value}{d:DataW H}{p:List MemPlace}(hv:∃cs,v=.agg cs)
  (h:DataW.Trod enc Tryz.prog W 0 (λ_=>true) true t v d p):∃a:α,I a/\Rep (gh0 W) W (ofL []) uTop (.agg (c a)) v:=by
 obtain⟨cs,rfl⟩:=hv
 obtain⟨A9,hf⟩:=h
 obtain⟨a,hi,hc⟩:=r H enc W A9 _ _ hf
 refine⟨a,hi,?_⟩
 have:=Rep.agg (γ:=gh0 W) (w:=W) (bs:=ofL []) (u:=uTop) (c a) cs.toList hc.1 (λi x y hx hy=>.data (hc.2 i x y hx hy))
 omega
theorem agg_struct{W:World}{base:Nat}{t:TypeId}{v:Value}{fs:Array Field}(ht:Tryz.prog.underlying t=some (.struct fs))(h:Value.okWide Tryz.prog W .any base t v):∃cs,v=.agg cs:=by
 grind [Value.okWide]
theorem laidOut:laidOutB Tryz.prog=true:=by kernel_rfl
theorem below_of_grow{w w':World}{γ':Gh}(h:Grow (gh0 w) w γ' w'):RowKit.Below w.heap.size w w':=
 ⟨h.os,h.tape,h.output,h.size,λk hk=>(h.free k hk rfl).1⟩
theorem open_one{H:Type}{enc:TypeId×Value->H}{W:World}{t:TypeId}{α:Type}{c:α->List V}{I:α->Prop}(r:Rd t c I){v:Value}{d:DataW H}{p:List MemPlace}(hv:v.cells=#[v])
  (h:DataW.Trod enc Tryz.prog W 0 (λ_=>true) true t v d p):∃a:α,I a/\∀x,c a=[x]->Rep (gh0 W) W (ofL []) uTop x v:=by
 obtain⟨A9,hf⟩:=h
 rw[hv] at hf
 obtain⟨a,hi,hc⟩:=r H enc W A9 _ _ hf
 refine⟨a,hi,λx hx=>?_⟩
 rw[hx] at hc
 exact .data (hc.2 0 x v rfl rfl)
section
variable {H:Type} {enc:TypeId×Value->H} {P:Program} {w:World} {base:Nat} {spare:zf} {held:Bool}
end
theorem w8_iff{n:Int}(h:(Lit.int .u8 n).wf=true):0<=n/\n<=255:=by
 grind [Lit.wf,IntKind.min,IntKind.max,IntKind.signed,IntKind.bits]
end Go.Proofs.YtjpahkpfkohfkaaGreatDoor
namespace Go.Proofs.YtjpahkpfkohfkaaGreatDoor
open Go Go.EV
theorem u50:Tryz.prog.underlying 50=some (.struct (fsOf 50)):=by kernel_rfl
theorem zc50:Tryz.prog.cellsOf 50=8:=by kernel_rfl
theorem u3:Tryz.prog.underlying 3=some (.int .i64):=by kernel_rfl
theorem zc3:Tryz.prog.cellsOf 3=1:=by kernel_rfl
theorem u4:Tryz.prog.underlying 4=some .bool:=by kernel_rfl
theorem zc4:Tryz.prog.cellsOf 4=1:=by kernel_rfl
theorem u48:Tryz.prog.underlying 48=some (.struct (fsOf 48)):=by kernel_rfl
theorem zc48:Tryz.prog.cellsOf 48=2:=by kernel_rfl
theorem u9:Tryz.prog.underlying 9=some .string:=by kernel_rfl
theorem zc9:Tryz.prog.cellsOf 9=1:=by kernel_rfl
theorem ln2{α:Type}{l:List α}(h:l.length=2):∃v0 v1,l=[v0,v1]:=by match l,h with|[v0,v1],_=>grind
def c48(x:Z4):List V:=[.str x.fc,.int .i64 x.fe]
def Ok48(x:Z4):Prop:=True/\(Lit.int .i64 x.fe).wf=true
theorem rd48:Rd 48 c48 Ok48:=λH enc W A9 cs x h=>by
 obtain⟨xs,m,rfl,-,hl,hn,hel⟩:=DataW.trod_struct u48 h
 rw[zc48] at hl
 obtain⟨v0,v1,rfl⟩:=ln2 hl
 obtain⟨a0,i0,k0⟩:=fld hel hn 0 (t:=9) (o:=0) (by kernel_rfl) zc9 (rdStr u9)
 obtain⟨a1,i1,k1⟩:=fld hel hn 1 (t:=3) (o:=1) (by kernel_rfl) zc3 (R1 u3)
 exact⟨⟨a0,a1⟩,⟨i0,i1⟩,k0.append k1⟩
theorem ln8{α:Type}{l:List α}(h:l.length=8):∃v0 v1 v2 v3 v4 v5 v6 v7,l=[v0,v1,v2,v3,v4,v5,v6,v7]:=by match l,h with|[v0,v1,v2,v3,v4,v5,v6,v7],_=>grind
def c50(x:SProbe):List V:=[.int .i64 x.fm,.int .i64 x.fj,.int .i64 x.fA,.bool x.fq,.int .i64 x.fw,.bool x.fE,.str x.ft.fc,.int .i64 x.ft.fe]
def Ok50(x:SProbe):Prop:=(Lit.int .i64 x.fm).wf=true/\(Lit.int .i64 x.fj).wf=true/\(Lit.int .i64 x.fA).wf=true/\True/\(Lit.int .i64 x.fw).wf=true/\True/\Ok48 x.ft
theorem rd50:Rd 50 c50 Ok50:=λH enc W A9 cs x h=>by
 obtain⟨xs,m,rfl,-,hl,hn,hel⟩:=DataW.trod_struct u50 h
 rw[zc50] at hl
 obtain⟨v0,v1,v2,v3,v4,v5,v6,v7,rfl⟩:=ln8 hl
 obtain⟨a0,i0,k0⟩:=fld hel hn 0 (t:=3) (o:=0) (by kernel_rfl) zc3 (R1 u3)
 obtain⟨a1,i1,k1⟩:=fld hel hn 1 (t:=3) (o:=1) (by kernel_rfl) zc3 (R1 u3)
 obtain⟨a2,i2,k2⟩:=fld hel hn 2 (t:=3) (o:=2) (by kernel_rfl) zc3 (R1 u3)
 obtain⟨a3,i3,k3⟩:=fld hel hn 3 (t:=4) (o:=3) (by kernel_rfl) zc4 (rdBool u4)
 obtain⟨a4,i4,k4⟩:=fld hel hn 4 (t:=3) (o:=4) (by kernel_rfl) zc3 (R1 u3)
 obtain⟨a5,i5,k5⟩:=fld hel hn 5 (t:=4) (o:=5) (by kernel_rfl) zc4 (rdBool u4)
 obtain⟨a6,i6,k6⟩:=fld hel hn 6 (t:=48) (o:=6) (by kernel_rfl) zc48 rd48
 exact⟨⟨a0,a1,a2,a3,a4,a5,a6⟩,⟨i0,i1,i2,i3,i4,i5,i6⟩,k0.append (k1.append (k2.append (k3.append (k4.append (k5.append k6)))))⟩
theorem u25:Tryz.prog.underlying 25=some (.struct (fsOf 25)):=by kernel_rfl
theorem zc25:Tryz.prog.cellsOf 25=5:=by kernel_rfl
theorem u22:Tryz.prog.underlying 22=some (.slice 96):=by kernel_rfl
theorem zc22:Tryz.prog.cellsOf 22=1:=by kernel_rfl
theorem u96:Tryz.prog.underlying 96=some (.struct (fsOf 96)):=by kernel_rfl
theorem zc96:Tryz.prog.cellsOf 96=6:=by kernel_rfl
theorem u5:Tryz.prog.underlying 5=some (.int .u8):=by kernel_rfl
theorem zc5:Tryz.prog.cellsOf 5=1:=by kernel_rfl
theorem u55:Tryz.prog.underlying 55=some (.int .u16):=by kernel_rfl
theorem zc55:Tryz.prog.cellsOf 55=1:=by kernel_rfl
theorem ln6{α:Type}{l:List α}(h:l.length=6):∃v0 v1 v2 v3 v4 v5,l=[v0,v1,v2,v3,v4,v5]:=by match l,h with|[v0,v1,v2,v3,v4,v5],_=>grind
def c96(x:SDraft):List V:=[.int .u8 x.fm,.int .u8 x.gi,.int .u8 x.fJ,.int .u8 x.fZ,.int .u8 x.gy,.int .u16 x.gA]
def Ok96(x:SDraft):Prop:=(Lit.int .u8 x.fm).wf=true/\(Lit.int .u8 x.gi).wf=true/\(Lit.int .u8 x.fJ).wf=true/\(Lit.int .u8 x.fZ).wf=true/\(Lit.int .u8 x.gy).wf=true/\(Lit.int .u16 x.gA).wf=true
theorem rd96:Rd 96 c96 Ok96:=λH enc W A9 cs x h=>by
 obtain⟨xs,m,rfl,-,hl,hn,hel⟩:=DataW.trod_struct u96 h
 rw[zc96] at hl
 obtain⟨v0,v1,v2,v3,v4,v5,rfl⟩:=ln6 hl
 obtain⟨a0,i0,k0⟩:=fld hel hn 0 (t:=5) (o:=0) (by kernel_rfl) zc5 (R1 u5)
 obtain⟨a1,i1,k1⟩:=fld hel hn 1 (t:=5) (o:=1) (by kernel_rfl) zc5 (R1 u5)
 obtain⟨a2,i2,k2⟩:=fld hel hn 2 (t:=5) (o:=2) (by kernel_rfl) zc5 (R1 u5)
 obtain⟨a3,i3,k3⟩:=fld hel hn 3 (t:=5) (o:=3) (by kernel_rfl) zc5 (R1 u5)
 obtain⟨a4,i4,k4⟩:=fld hel hn 4 (t:=5) (o:=4) (by kernel_rfl) zc5 (R1 u5)
 obtain⟨a5,i5,k5⟩:=fld hel hn 5 (t:=55) (o:=5) (by kernel_rfl) zc55 (R1 u55)
 exact⟨⟨a0,a1,a2,a3,a4,a5⟩,⟨i0,i1,i2,i3,i4,i5⟩,k0.append (k1.append (k2.append (k3.append (k4.append k5))))⟩
def Ok22(l:List SDraft):Prop:=∀a,a∈l->Ok96 a
theorem rd22:Rd 22 (λl:List SDraft=>[.sl false 6 (l.map D4.c)]) Ok22:=rdSlice (ty:=D4) u22 zc96 (by omega) (λ_=>rfl) rd96
theorem u23:Tryz.prog.underlying 23=some (.slice 57):=by kernel_rfl
theorem zc23:Tryz.prog.cellsOf 23=1:=by kernel_rfl
theorem u57:Tryz.prog.underlying 57=some (.struct (fsOf 57)):=by kernel_rfl
theorem zc57:Tryz.prog.cellsOf 57=8:=by kernel_rfl
def c57(x:SEvent):List V:=[.int .u8 x.gu,.int .u8 x.fR,.int .u8 x.fU,.int .u8 x.fj,.int .u16 x.gF,.int .u8 x.fw,.bool x.fq,.bool x.fE]
def Ok57(x:SEvent):Prop:=(Lit.int .u8 x.gu).wf=true/\(Lit.int .u8 x.fR).wf=true/\(Lit.int .u8 x.fU).wf=true/\(Lit.int .u8 x.fj).wf=true/\(Lit.int .u16 x.gF).wf=true/\(Lit.int .u8 x.fw).wf=true/\True/\True
theorem rd57:Rd 57 c57 Ok57:=λH enc W A9 cs x h=>by
 obtain⟨xs,m,rfl,-,hl,hn,hel⟩:=DataW.trod_struct u57 h
 rw[zc57] at hl
 obtain⟨v0,v1,v2,v3,v4,v5,v6,v7,rfl⟩:=ln8 hl
 obtain⟨a0,i0,k0⟩:=fld hel hn 0 (t:=5) (o:=0) (by kernel_rfl) zc5 (R1 u5)
 obtain⟨a1,i1,k1⟩:=fld hel hn 1 (t:=5) (o:=1) (by kernel_rfl) zc5 (R1 u5)
 obtain⟨a2,i2,k2⟩:=fld hel hn 2 (t:=5) (o:=2) (by kernel_rfl) zc5 (R1 u5)
 obtain⟨a3,i3,k3⟩:=fld hel hn 3 (t:=5) (o:=3) (by kernel_rfl) zc5 (R1 u5)
 obtain⟨a4,i4,k4⟩:=fld hel hn 4 (t:=55) (o:=4) (by kernel_rfl) zc55 (R1 u55)
 obtain⟨a5,i5,k5⟩:=fld hel hn 5 (t:=5) (o:=5) (by kernel_rfl) zc5 (R1 u5)
 obtain⟨a6,i6,k6⟩:=fld hel hn 6 (t:=4) (o:=6) (by kernel_rfl) zc4 (rdBool u4)
 obtain⟨a7,i7,k7⟩:=fld hel hn 7 (t:=4) (o:=7) (by kernel_rfl) zc4 (rdBool u4)
 exact⟨⟨a0,a1,a2,a3,a4,a5,a6,a7⟩,⟨i0,i1,i2,i3,i4,i5,i6,i7⟩,k0.append (k1.append (k2.append (k3.append (k4.append (k5.append (k6.append k7))))))⟩
def Ok23(l:List SEvent):Prop:=∀a,a∈l->Ok57 a
theorem rd23:Rd 23 (λl:List SEvent=>[.sl false 8 (l.map R7.c)]) Ok23:=rdSlice (ty:=R7) u23 zc57 (by omega) (λ_=>rfl) rd57
theorem ln5{α:Type}{l:List α}(h:l.length=5):∃v0 v1 v2 v3 v4,l=[v0,v1,v2,v3,v4]:=by match l,h with|[v0,v1,v2,v3,v4],_=>grind
def c25(x:SDraft1):List V:=[.sl false 6 (List.map D4.c x.fB),.sl false 6 (List.map D4.c x.fC),.bool x.fq,.int .u8 x.fw,.sl false 8 (List.map R7.c x.gG)]
def Ok25(x:SDraft1):Prop:=Ok22 x.fB/\Ok22 x.fC/\True/\(Lit.int .u8 x.fw).wf=true/\Ok23 x.gG
theorem rd25:Rd 25 c25 Ok25:=λH enc W A9 cs x h=>by
 obtain⟨xs,m,rfl,-,hl,hn,hel⟩:=DataW.trod_struct u25 h
 rw[zc25] at hl
 obtain⟨v0,v1,v2,v3,v4,rfl⟩:=ln5 hl
 obtain⟨a0,i0,k0⟩:=fld hel hn 0 (t:=22) (o:=0) (by kernel_rfl) zc22 rd22
 obtain⟨a1,i1,k1⟩:=fld hel hn 1 (t:=22) (o:=1) (by kernel_rfl) zc22 rd22
 obtain⟨a2,i2,k2⟩:=fld hel hn 2 (t:=4) (o:=2) (by kernel_rfl) zc4 (rdBool u4)
 obtain⟨a3,i3,k3⟩:=fld hel hn 3 (t:=5) (o:=3) (by kernel_rfl) zc5 (R1 u5)
 obtain⟨a4,i4,k4⟩:=fld hel hn 4 (t:=23) (o:=4) (by kernel_rfl) zc23 rd23
 exact⟨⟨a0,a1,a2,a3,a4⟩,⟨i0,i1,i2,i3,i4⟩,k0.append (k1.append (k2.append (k3.append k4)))⟩
theorem u68:Tryz.prog.underlying 68=some (.struct (fsOf 68)):=by kernel_rfl
theorem zc68:Tryz.prog.cellsOf 68=3:=by kernel_rfl
theorem ln3{α:Type}{l:List α}(h:l.length=3):∃v0 v1 v2,l=[v0,v1,v2]:=by match l,h with|[v0,v1,v2],_=>grind
def c68(x:SEdit):List V:=[.int .u8 x.fF,.int .u8 x.gk,.str x.gj]
def Ok68(x:SEdit):Prop:=(Lit.int .u8 x.fF).wf=true/\(Lit.int .u8 x.gk).wf=true/\True
theorem rd68:Rd 68 c68 Ok68:=λH enc W A9 cs x h=>by
 obtain⟨xs,m,rfl,-,hl,hn,hel⟩:=DataW.trod_struct u68 h
 rw[zc68] at hl
 obtain⟨v0,v1,v2,rfl⟩:=ln3 hl
 obtain⟨a0,i0,k0⟩:=fld hel hn 0 (t:=5) (o:=0) (by kernel_rfl) zc5 (R1 u5)
 obtain⟨a1,i1,k1⟩:=fld hel hn 1 (t:=5) (o:=1) (by kernel_rfl) zc5 (R1 u5)
 obtain⟨a2,i2,k2⟩:=fld hel hn 2 (t:=9) (o:=2) (by kernel_rfl) zc9 (rdStr u9)
 exact⟨⟨a0,a1,a2⟩,⟨i0,i1,i2⟩,k0.append (k1.append k2)⟩
theorem str_one{W:World}{base:Nat}{t:TypeId}{v:Value}(ht:Tryz.prog.underlying t=some .string)(h:Value.okWide Tryz.prog W .any base t v):v.cells=#[v]:=by
 obtain⟨s,rfl⟩:=WideShapes.okWide_string ht h
 rfl
theorem event_of{x:SEvent}(h:Ok57 x):EventOk x:=⟨w8_iff h.2.1,w8_iff h.2.2.1⟩
theorem edit_of{x:SEdit}(h:Ok68 x):EditOk x:=⟨w8_iff h.1,w8_iff h.2.1⟩
end Go.Proofs.YtjpahkpfkohfkaaGreatDoor
