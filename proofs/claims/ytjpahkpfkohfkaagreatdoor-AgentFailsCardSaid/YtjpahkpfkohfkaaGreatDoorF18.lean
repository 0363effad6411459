/- AgentFails: if nothing comes, each pair is asked about four times, and the agent fails in time. The listed variables: laid in the witness; one of the ..; no conditions. -/
import Derived.Test.YtjpahkpfkohfkaaGreatDoorF14
import Derived.Test.YtjpahkpfkohfkaaGreatDoorF17
import Derived.Test.YtjpahkpfkohfkaaGreatDoorF8
import Derived.Test.YtjpahkpfkohfkaaGreatDoorRows
import Derived.ChangeSame
import Derived.ChangeVars
import Derived.JoinedOf
import Derived.RowKit
import Derived.ProofKit
import Derived.LaidMore
import Derived.Lay
import Derived.OpenShut
import Derived.Carry
import Derived.Stop.Joined
import Derived.Lib.LaidU8
import Derived.ChangeArms
import Derived.DataReads
import Derived.SevenTiedAt
import Derived.Test.YtjpahkpfkohfkaaGreatDoorF13
import Derived.KernelRfl
set_option linter.unusedVariables false
set_option linter.unusedSimpArgs false
set_option maxRecDepth 100000
namespace Go.Proofs.YtjpahkpfkohfkaaGreatDoor
open Go Go.EV
def DraftsOk(d:SDraft1):Prop:=(∀x,x∈d.fu→DraftOk x)∧(∀x,x∈d.fw→DraftOk x)∧0≤d.fC∧d.fC≤255
theorem okLFAILS(d:SDraft1)(h:DraftsOk d):SOk (s3 d) (fun r=>r=true):=okFAILS d okWAKES h.1 h.2.1 h.2.2
end Go.Proofs.YtjpahkpfkohfkaaGreatDoor
namespace Go.Proofs.YtjpahkpfkohfkaaGreatDoor
open Go Go.EV Go.ChangeShapes
theorem own:ownKnob Tryz.prog.godebug=none:=by kernel_rfl
abbrev laid1:List (String×DataW Unit):=[("math/bits.deBruijn32tab",Rows.laid_math_bits_deBruijn32tab),("math/bits.deBruijn64tab",Rows.laid_math_bits_deBruijn64tab),("internal/strconv.uint64pow10",Rows.laid_internal_strconv_uint64pow10),("unicode/utf8.acceptRanges",Rows.laid_unicode_utf8_acceptRanges),("tannoy/candidate.weights",Rows.laid_tannoy_candidate_weights),("unicode/utf8.first",Rows.laid_unicode_utf8_first)]
theorem shaped1(os:Os):(World.laidAll Tryz.prog os laid1).Shaped Tryz.prog:=World.shaped_of_ZipB (by kernel_rfl) (by kernel_rfl)
theorem laid_met(os:Os)(args:Array Value):laidMetH Tryz.prog laid1 ((World.laidAll Tryz.prog os laid1).forCall (fun _ _=>0) ⟨#[],args,[]⟩).memory:=by
 rw[MakeChecks.laidMetH_plain _ _ _ (by kernel_rfl)]
 exact laidMet_laidAll _ (by kernel_rfl) (by kernel_rfl)
def gh0(w:World):Gh:={ loc:=fun _=>none,own:=fun _=>none,lim:=fun B=>match w.heap[B]? with|some (.cells cs _ _)=>cs.size|_=>0 }
theorem gh0_lim{w:World}{B o:Nat}{v:Value}(h:cellAt w B o=some v):o < (gh0 w).lim B:=by
 unfold cellAt World.cell? at h
 simp only[gh0]
 cases hb:w.heap[B]? with
 | none=>simp[hb] at h
 | some x=>
  cases x with
  | cells cs t fz=>
   simp only[hb] at h
   simp only
   exact(ζf.1 (by simpa using h)).1
  | _=>simp[hb] at h
theorem weights_of{w:World}(h:laidMetH Tryz.prog laid1 w):w.var? Tryz.prog "tannoy/candidate.weights"=some #[.int .i64 0,.int .i64 126,.int .i64 110,.int .i64 100,.int .i64 0]:=by
 rw[MakeChecks.laidMetH_plain _ _ _ (by kernel_rfl)] at h
 obtain⟨g,t,cs,M1,p,hg,ht,hv,hd⟩:=Lib.laidMet.reads h (n:= "tannoy/candidate.weights") (d:=Rows.laid_tannoy_candidate_weights) (by simp)
 obtain rfl:=ζR ((show Tryz.prog.globalNamed "tannoy/candidate.weights"=some 0 by kernel_rfl).symm.trans hg)
 obtain rfl:=ζR ((show (Tryz.prog.globals[0]?).map (·.type)=some 240 by kernel_rfl).symm.trans ht)
 have c5:Tryz.prog.cellsOf 3=1:=by kernel_rfl
 have c29:Tryz.prog.cellsOf 240=5:=by kernel_rfl
 have u5:Tryz.prog.underlying 3=some (.int .i64):=by kernel_rfl
 have u29:Tryz.prog.underlying 240=some (.array 5 3):=by kernel_rfl
 obtain⟨xs,m,_,ex,hlen,hl,hel⟩:=DataW.trod_array u29 hd
 rw[c29] at hlen
 obtain⟨l⟩:=cs
 match l,hlen with
 | [a,b,c,d,e],_=>
  match xs,hl with
  | [x0,x1,x2,x3,x4],_=>
   have e3:=(DataW.agg.inj (Prod.mk.inj ex).1)
   simp only[ξf,List.map_nil,List.cons.injEq,and_true] at e3
   have k0:=hel 0 (by omega);have k1:=hel 1 (by omega);have k2:=hel 2 (by omega);have k3:=hel 3 (by omega);have k4:=hel 4 (by omega)
   rw[c5] at k0 k1 k2 k3 k4
   obtain⟨z0,a0,b0,_⟩:=DataW.trod_int u5 k0
   obtain⟨z1,a1,b1,_⟩:=DataW.trod_int u5 k1
   obtain⟨z2,a2,b2,_⟩:=DataW.trod_int u5 k2
   obtain⟨z3,a3,b3,_⟩:=DataW.trod_int u5 k3
   obtain⟨z4,a4,b4,_⟩:=DataW.trod_int u5 k4
   simp at a0 a1 a2 a3 a4
   subst b0;subst b1;subst b2;subst b3;subst b4
   simp at e3
   obtain⟨f0,f1,f2,f3,f4⟩:=e3
   rw[hv,a0,a1,a2,a3,a4,←f0,←f1,←f2,←f3,←f4]
theorem globOk{w:World}(h:laidMetH Tryz.prog laid1 w):S9 GG (gh0 w) w:=fun g cells hg=>by
 unfold GG at hg
 split at hg
 ·rename_i e
  subst e
  simp only[ζa] at hg
  subst hg
  have c:=World.var?_cell (show Tryz.prog.globalNamed "tannoy/candidate.weights"=some 0 by kernel_rfl) (weights_of h)
  refine .snap _ 0 0 (fun i=>match i with|0=>.int .i64 0|1=>.int .i64 126|2=>.int .i64 110|3=>.int .i64 100|_=>.int .i64 0) (fun i c' hc=>?_) (fun i c' hc=>?_)
  ·have key:∀(o:Nat) (v:Value),w.cell? ⟨0,o,none⟩=some v→o < (gh0 w).lim 0∧cellAt w 0 o=some v:=fun o v hv=>⟨gh0_lim (v:=v) hv,hv⟩
   match i,hc with
   | 0,_=>exact key _ _ (by rw[c 0];rfl)
   | 1,_=>exact key _ _ (by rw[c 1];rfl)
   | 2,_=>exact key _ _ (by rw[c 2];rfl)
   | 3,_=>exact key _ _ (by rw[c 3];rfl)
   | 4,_=>exact key _ _ (by rw[c 4];rfl)
   | n+5,hc=>simp at hc
  ·match i,hc with
   | 0,hc=>simp at hc;subst hc;exact .int _ _
   | 1,hc=>simp at hc;subst hc;exact .int _ _
   | 2,hc=>simp at hc;subst hc;exact .int _ _
   | 3,hc=>simp at hc;subst hc;exact .int _ _
   | 4,hc=>simp at hc;subst hc;exact .int _ _
   | n+5,hc=>simp at hc
 ·simp at hg
theorem keptBut_of_grow{w w':World}{γ':Gh}(h:Grow (gh0 w) w γ' w')(may:MemPlace→Prop):w.keptBut w' may:=by
 refine⟨h.os,h.output,fun i hi=>?_⟩
 have:=(h.free i hi rfl).1
 rw[this]
 cases w.heap[i]? with
 | none=>trivial
 | some x=>
  cases x with
  | cells c t fr=>exact⟨rfl,rfl,rfl,fun _ _=>rfl⟩
  | map es clock=>exact .inr ⟨rfl,rfl⟩
  | _=>rfl
def CellsD(W:World)(l:List V)(cs:List Value):Prop:=cs.length=l.length∧∀(i:Nat) (c:V) (v:Value),l[i]?=some c→cs[i]?=some v→W2 (gh0 W).lim W c v
theorem CellsD.one{W:World}{c:V}{v:Value}(h:W2 (gh0 W).lim W c v):CellsD W [c] [v]:=⟨rfl,fun i c' v' hc hv=>by
 cases i with
 | zero=>simp at hc hv;subst hc;subst hv;exact h
 | succ i=>simp at hc⟩
theorem CellsD.append{W:World}{l m:List V}{cs ds:List Value}(h:CellsD W l cs)(k:CellsD W m ds):CellsD W (l++m) (cs++ds):=
  ⟨by simp[h.1,k.1],fun i c v hc hv=>by
    by_cases hi:i < l.length
    · rw[ζl hi] at hc
      rw[ζl (by rw[h.1];exact hi)] at hv
      exact h.2 i c v hc hv
    · rw[ζm (by omega)] at hc
      rw[ζm (by rw[h.1];omega),h.1] at hv
      exact k.2 _ c v hc hv⟩
def Rd(t:TypeId){α:Type}(c:α→List V)(I:α→Prop):Prop:=
 ∀(H:Type) (enc:TypeId×Value→H) (W:World) (M1:Nat) (cs:List Value) (x:DataW H×List MemPlace),DataW.trod enc Tryz.prog W 0 (fun _=>true) true M1 t cs=some x→∃a:α,I a∧CellsD W (c a) cs
theorem rdInt{t:TypeId}{k:IntKind}(ht:Tryz.prog.underlying t=some (.int k)):Rd t (fun n:Int=>[.int k n]) (fun n=>(Lit.int k n).wf=true):=fun H enc W M1 cs x h=>by
 obtain⟨n,rfl,_,hw⟩:=DataW.trod_int ht h
 exact⟨n,hw,.one (.int k n)⟩
theorem rdBool{t:TypeId}(ht:Tryz.prog.underlying t=some .bool):Rd t (fun b:Bool=>[.bool b]) (fun _=>True):=fun H enc W M1 cs x h=>by
 cases M1 with
 | zero=>simp[DataW.trod] at h
 | succ n=>
  unfold DataW.trod at h
  rw[ht] at h
  split at h<;>first|exact⟨_,trivial,.one (.bool _)⟩|simp_all
theorem fld{H:Type}{enc:TypeId×Value→H}{W:World}{n:Nat}{fs:Array Field}{cs:List Value}{xs:List (DataW H×List MemPlace)}{t o z:Nat}{α:Type}{c:α→List V}{I:α→Prop}
  (hel:∀(i:Nat) (f:Field),fs[i]?=some f→DataW.trod enc Tryz.prog W 0 (fun _=>true) true n f.type ((cs.drop f.offset).take (Tryz.prog.cellsOf f.type))=xs[i]?) (hn:xs.length=fs.size) (i:Nat)
  (hf:(fs[i]?).map (fun f=>(f.type,f.offset))=some (t,o)) (hz:Tryz.prog.cellsOf t=z) (r:Rd t c I):∃a:α,I a∧CellsD W (c a) ((cs.drop o).take z):=by
 obtain⟨f,h1,h2⟩:=ζb.1 hf
 simp only[ζP] at h2
 obtain⟨rfl,rfl⟩:=h2
 have hi:i < xs.length:=by rw[hn];exact(ζf.1 h1).1
 have:=hel i f h1
 rw[ζd hi,hz] at this
 exact r H enc W n _ _ this
theorem cells_at{W:World}{a:Addr}{z:Nat}{ci:List Value}(h:W.cells? 0 a z=some ci):ci.length=z∧∀r,r < z→W.cell? (a.add r)=ci[r]?:=by
 unfold World.cells? at h
 rw[if_pos (Nat.zero_le _)] at h
 exact⟨by simpa using mapM_some_length h,fun r hr=>mapM_some_get h r r (by simp[hr])⟩
theorem spot_of{W:World}{a:Addr}{z q:Nat}{ci:List Value}(hz:0 < z)(h:W.cells? 0 (a.add (q * z)) z=some ci)(hq:q=0):a.spot=none:=by
 obtain⟨h1,h2⟩:=cells_at h
 have h3:=h2 0 hz
 have e:(a.add (q * z)).add 0=a:=by subst hq;simp[Addr.add]
 rw[e,ζd (by omega)] at h3
 exact World.cell?_spot h3
theorem rdSlice{t e z:Nat}{α:Type}{ty:Ty α}{I:α→Prop}(ht:Tryz.prog.underlying t=some (.slice e))(hz:Tryz.prog.cellsOf e=z)(hpos:0 < z)(hlen:∀a,(ty.c a).length=z)(r:Rd e ty.c I) :
  Rd t (fun l:List α=>[.sl false z (l.map ty.c)]) (fun l=>∀a,a∈l→I a):=fun H enc W M1 cs x h=>by
 rcases DataW.trod_slice ht h with⟨rfl,-⟩|⟨a,len,cap,elems,rest,n,rfl,rfl,-,-,hlc,-,hel,hE,hR,-⟩
 ·exact⟨[],by simp,.one (.slNil false z)⟩
 rw[hz] at hE hR
 have build:∀m,m≤len→∃l:List α,l.length=m∧(∀a,a∈l→I a)∧∀i x,l[i]?=some x→∃ci,W.cells? 0 (a.add (i * z)) z=some ci∧CellsD W (ty.c x) ci:=by
  intro m
  induction m with
  | zero=>intro _;exact⟨[],rfl,by simp,by simp⟩
  | succ m ih=>
   intro hm
   obtain⟨l,l1,l2,l3⟩:=ih (by omega)
   have:=hE m (by omega)
   rw[ζd (by omega)] at this
   obtain⟨ci,hci,htr⟩:=ζc.1 this
   obtain⟨y,hy,hcd⟩:=r H enc W n ci _ htr
   refine⟨l++[y],by simp[l1],fun b hb=>?_,fun i x hx=>?_⟩
   ·rcases ζr.1 hb with hb|hb
    ·exact l2 b hb
    ·rw[ζu.1 hb];exact hy
   ·by_cases hi:i < l.length
    ·rw[ζl hi] at hx;exact l3 i x hx
    ·rw[ζm (by omega)] at hx
     have hi2:i - l.length=0:=by
      have:=(ζe.1 hx).1
      simp at this;omega
     rw[hi2] at hx;simp at hx;subst hx
     have:i=m:=by omega
     subst this
     exact⟨ci,hci,hcd⟩
 obtain⟨l,hl,hI,hc⟩:=build len (ζK _)
 refine⟨l,hI,.one ?_⟩
 by_cases hcap:cap=0
 ·have:l=[]:=ζS.1 (by omega)
  subst this
  have h0:len=0:=by simpa using hl.symm
  subst h0;subst hcap
  exact .slNil false z (some a)
 have hspot:a.spot=none:=by
  by_cases h0:len=0
  ·obtain⟨r1,r2⟩:=hR rfl
   have:=r2 0 (by omega)
   rw[ζd (by omega)] at this
   obtain⟨ci,hci,_⟩:=ζc.1 this
   exact spot_of hpos (q:=len+0) hci (by omega)
  ·have:=hE 0 (by omega)
   rw[ζd (by omega)] at this
   obtain⟨ci,hci,_⟩:=ζc.1 this
   exact spot_of hpos hci rfl
 obtain⟨B,o,sp⟩:=a
 simp only at hspot
 subst hspot
 have hsz:∀q,q∈l.map ty.c→q.length=z:=fun q hq=>by
  obtain⟨y,_,rfl⟩:=ζt.1 hq;exact hlen y
 have key:∀(i:Nat) (c:V),(l.map ty.c).flatten[i]?=some c→∃v,cellAt W B (o+i)=some v∧W2 (gh0 W).lim W c v:=fun i c hci=>by
  have e1:i=(i / z) * z+i % z:=by rw[ξw];exact(Nat.div_add_mod i z).symm
  have hm:=Nat.mod_lt i hpos
  rw[e1,J7 _ hsz _ _ hm,ζo] at hci
  cases hx:l[i / z]? with
  | none=>rw[hx] at hci;simp at hci
  | some y=>
   rw[hx] at hci
   simp only[ζZ,ξa] at hci
   obtain⟨ci,k1,k2⟩:=hc _ _ hx
   obtain⟨k3,k4⟩:=cells_at k1
   have k5:=k4 (i % z) hm
   have hv:ci[i % z]?=some (ci[i % z]'(by omega)):=ζd _
   refine⟨_,?_,k2.2 _ _ _ hci hv⟩
   rw[hv] at k5
   rw[Addr.add_eq,Addr.add_eq] at k5
   unfold cellAt
   rw[show o+i=o+(i / z) * z+i % z by omega]
   exact k5
 have fin:=W2.sl (lim:=(gh0 W).lim) (w:=W) false z (l.map ty.c) B o cap (fun i=>(cellAt W B (o+i)).getD default) (by simp;omega) hsz
  (fun i c hci=>by obtain⟨v,v1,v2⟩:=key i c hci;rw[v1];exact⟨gh0_lim v1,rfl⟩) (fun i c hci=>by obtain⟨v,v1,v2⟩:=key i c hci;rw[v1];exact v2)
 rw[ζs,hl] at fin
 exact fin
noncomputable def fsOf(t:TypeId):Array Field:=match Tryz.prog.underlying t with|some (.struct f)=>f|_=>#[]
theorem open_agg{H:Type}{enc:TypeId×Value→H}{W:World}{t:TypeId}{α:Type}{c:α→List V}{I:α→Prop}(r:Rd t c I){v:Value}{d:DataW H}{p:List MemPlace}(hv:∃cs,v=.agg cs)
  (h:DataW.Trod enc Tryz.prog W 0 (fun _=>true) true t v d p):∃a:α,I a∧Rep (gh0 W) W (ofL []) uTop (.agg (c a)) v:=by
 obtain⟨cs,rfl⟩:=hv
 obtain⟨M1,hf⟩:=h
 obtain⟨a,hi,hc⟩:=r H enc W M1 _ _ hf
 refine⟨a,hi,?_⟩
 have:=Rep.agg (γ:=gh0 W) (w:=W) (bs:=ofL []) (u:=uTop) (c a) cs.toList hc.1 (fun i x y hx hy=>.data (hc.2 i x y hx hy))
 simpa using this
theorem agg_struct{W:World}{base:Nat}{t:TypeId}{v:Value}{fs:Array Field}(ht:Tryz.prog.underlying t=some (.struct fs))(h:Value.okWide Tryz.prog W .any base t v):∃cs,v=.agg cs:=by
 simp only[Value.okWide,ht] at h
 obtain⟨cs,h1,_⟩:=h
 exact⟨cs,h1⟩
theorem laidOut:laidOutB Tryz.prog=true:=by kernel_rfl
theorem below_of_grow{w w':World}{γ':Gh}(h:Grow (gh0 w) w γ' w'):RowKit.Below w.heap.size w w':=
 ⟨h.os,h.tape,h.output,h.size,fun k hk=>(h.free k hk rfl).1⟩
section
variable {H:Type} {enc:TypeId×Value→H} {P:Program} {w:World} {base:Nat} {spare:Nat→Bool} {held:Bool}
end
theorem V0{n:Int}(h:(Lit.int .u8 n).wf=true):0≤n∧n≤255:=by
 simp[Lit.wf,IntKind.min,IntKind.max,IntKind.signed,IntKind.bits] at h;omega
theorem w16_iff{n:Int}(h:(Lit.int .u16 n).wf=true):0≤n∧n≤65535:=by
 simp[Lit.wf,IntKind.min,IntKind.max,IntKind.signed,IntKind.bits] at h;omega
end Go.Proofs.YtjpahkpfkohfkaaGreatDoor
namespace Go.Proofs.YtjpahkpfkohfkaaGreatDoor
open Go Go.EV
theorem u25:Tryz.prog.underlying 25=some (.struct (fsOf 25)):=by kernel_rfl
theorem z25:Tryz.prog.cellsOf 25=5:=by kernel_rfl
theorem u22:Tryz.prog.underlying 22=some (.slice 96):=by kernel_rfl
theorem z22:Tryz.prog.cellsOf 22=1:=by kernel_rfl
theorem u96:Tryz.prog.underlying 96=some (.struct (fsOf 96)):=by kernel_rfl
theorem z96:Tryz.prog.cellsOf 96=6:=by kernel_rfl
theorem u5:Tryz.prog.underlying 5=some (.int .u8):=by kernel_rfl
theorem z5:Tryz.prog.cellsOf 5=1:=by kernel_rfl
theorem u55:Tryz.prog.underlying 55=some (.int .u16):=by kernel_rfl
theorem z55:Tryz.prog.cellsOf 55=1:=by kernel_rfl
theorem ln6{α:Type}{l:List α}(h:l.length=6):∃v0 v1 v2 v3 v4 v5,l=[v0,v1,v2,v3,v4,v5]:=by match l,h with|[v0,v1,v2,v3,v4,v5],_=>exact⟨v0,v1,v2,v3,v4,v5,rfl⟩
def c96(x:SDraft):List V:=[.int .u8 x.fy,.int .u8 x.fX,.int .u8 x.fG,.int .u8 x.fT,.int .u8 x.gu,.int .u16 x.gn]
def Ok96(x:SDraft):Prop:=(Lit.int .u8 x.fy).wf=true∧(Lit.int .u8 x.fX).wf=true∧(Lit.int .u8 x.fG).wf=true∧(Lit.int .u8 x.fT).wf=true∧(Lit.int .u8 x.gu).wf=true∧(Lit.int .u16 x.gn).wf=true
theorem rd96:Rd 96 c96 Ok96:=fun H enc W M1 cs x h=>by
 obtain⟨xs,m,rfl,-,hl,hn,hel⟩:=DataW.trod_struct u96 h
 rw[z96] at hl
 obtain⟨v0,v1,v2,v3,v4,v5,rfl⟩:=ln6 hl
 obtain⟨a0,i0,k0⟩:=fld hel hn 0 (t:=5) (o:=0) (by kernel_rfl) z5 (rdInt u5)
 obtain⟨a1,i1,k1⟩:=fld hel hn 1 (t:=5) (o:=1) (by kernel_rfl) z5 (rdInt u5)
 obtain⟨a2,i2,k2⟩:=fld hel hn 2 (t:=5) (o:=2) (by kernel_rfl) z5 (rdInt u5)
 obtain⟨a3,i3,k3⟩:=fld hel hn 3 (t:=5) (o:=3) (by kernel_rfl) z5 (rdInt u5)
 obtain⟨a4,i4,k4⟩:=fld hel hn 4 (t:=5) (o:=4) (by kernel_rfl) z5 (rdInt u5)
 obtain⟨a5,i5,k5⟩:=fld hel hn 5 (t:=55) (o:=5) (by kernel_rfl) z55 (rdInt u55)
 exact⟨⟨a0,a1,a2,a3,a4,a5⟩,⟨i0,i1,i2,i3,i4,i5⟩,k0.append (k1.append (k2.append (k3.append (k4.append k5))))⟩
def Ok22(l:List SDraft):Prop:=∀a,a∈l→Ok96 a
theorem rd22:Rd 22 (fun l:List SDraft=>[.sl false 6 (l.map W1.c)]) Ok22:=rdSlice (ty:=W1) u22 z96 (by omega) (fun _=>rfl) rd96
theorem u4:Tryz.prog.underlying 4=some .bool:=by kernel_rfl
theorem z4:Tryz.prog.cellsOf 4=1:=by kernel_rfl
theorem u23:Tryz.prog.underlying 23=some (.slice 57):=by kernel_rfl
theorem z23:Tryz.prog.cellsOf 23=1:=by kernel_rfl
theorem u57:Tryz.prog.underlying 57=some (.struct (fsOf 57)):=by kernel_rfl
theorem z57:Tryz.prog.cellsOf 57=8:=by kernel_rfl
theorem ln8{α:Type}{l:List α}(h:l.length=8):∃v0 v1 v2 v3 v4 v5 v6 v7,l=[v0,v1,v2,v3,v4,v5,v6,v7]:=by match l,h with|[v0,v1,v2,v3,v4,v5,v6,v7],_=>exact⟨v0,v1,v2,v3,v4,v5,v6,v7,rfl⟩
def c57(x:SEvent):List V:=[.int .u8 x.gy,.int .u8 x.gb,.int .u8 x.gc,.int .u8 x.fp,.int .u16 x.gz,.int .u8 x.fC,.bool x.fo,.bool x.fF]
def Ok57(x:SEvent):Prop:=(Lit.int .u8 x.gy).wf=true∧(Lit.int .u8 x.gb).wf=true∧(Lit.int .u8 x.gc).wf=true∧(Lit.int .u8 x.fp).wf=true∧(Lit.int .u16 x.gz).wf=true∧(Lit.int .u8 x.fC).wf=true∧True∧True
theorem rd57:Rd 57 c57 Ok57:=fun H enc W M1 cs x h=>by
 obtain⟨xs,m,rfl,-,hl,hn,hel⟩:=DataW.trod_struct u57 h
 rw[z57] at hl
 obtain⟨v0,v1,v2,v3,v4,v5,v6,v7,rfl⟩:=ln8 hl
 obtain⟨a0,i0,k0⟩:=fld hel hn 0 (t:=5) (o:=0) (by kernel_rfl) z5 (rdInt u5)
 obtain⟨a1,i1,k1⟩:=fld hel hn 1 (t:=5) (o:=1) (by kernel_rfl) z5 (rdInt u5)
 obtain⟨a2,i2,k2⟩:=fld hel hn 2 (t:=5) (o:=2) (by kernel_rfl) z5 (rdInt u5)
 obtain⟨a3,i3,k3⟩:=fld hel hn 3 (t:=5) (o:=3) (by kernel_rfl) z5 (rdInt u5)
 obtain⟨a4,i4,k4⟩:=fld hel hn 4 (t:=55) (o:=4) (by kernel_rfl) z55 (rdInt u55)
 obtain⟨a5,i5,k5⟩:=fld hel hn 5 (t:=5) (o:=5) (by kernel_rfl) z5 (rdInt u5)
 obtain⟨a6,i6,k6⟩:=fld hel hn 6 (t:=4) (o:=6) (by kernel_rfl) z4 (rdBool u4)
 obtain⟨a7,i7,k7⟩:=fld hel hn 7 (t:=4) (o:=7) (by kernel_rfl) z4 (rdBool u4)
 exact⟨⟨a0,a1,a2,a3,a4,a5,a6,a7⟩,⟨i0,i1,i2,i3,i4,i5,i6,i7⟩,k0.append (k1.append (k2.append (k3.append (k4.append (k5.append (k6.append k7))))))⟩
def Ok23(l:List SEvent):Prop:=∀a,a∈l→Ok57 a
theorem rd23:Rd 23 (fun l:List SEvent=>[.sl false 8 (l.map P4.c)]) Ok23:=rdSlice (ty:=P4) u23 z57 (by omega) (fun _=>rfl) rd57
theorem ln5{α:Type}{l:List α}(h:l.length=5):∃v0 v1 v2 v3 v4,l=[v0,v1,v2,v3,v4]:=by match l,h with|[v0,v1,v2,v3,v4],_=>exact⟨v0,v1,v2,v3,v4,rfl⟩
def c25(x:SDraft1):List V:=[.sl false 6 (List.map W1.c x.fu),.sl false 6 (List.map W1.c x.fw),.bool x.fo,.int .u8 x.fC,.sl false 8 (List.map P4.c x.gx)]
def Ok25(x:SDraft1):Prop:=Ok22 x.fu∧Ok22 x.fw∧True∧(Lit.int .u8 x.fC).wf=true∧Ok23 x.gx
theorem rd25:Rd 25 c25 Ok25:=fun H enc W M1 cs x h=>by
 obtain⟨xs,m,rfl,-,hl,hn,hel⟩:=DataW.trod_struct u25 h
 rw[z25] at hl
 obtain⟨v0,v1,v2,v3,v4,rfl⟩:=ln5 hl
 obtain⟨a0,i0,k0⟩:=fld hel hn 0 (t:=22) (o:=0) (by kernel_rfl) z22 rd22
 obtain⟨a1,i1,k1⟩:=fld hel hn 1 (t:=22) (o:=1) (by kernel_rfl) z22 rd22
 obtain⟨a2,i2,k2⟩:=fld hel hn 2 (t:=4) (o:=2) (by kernel_rfl) z4 (rdBool u4)
 obtain⟨a3,i3,k3⟩:=fld hel hn 3 (t:=5) (o:=3) (by kernel_rfl) z5 (rdInt u5)
 obtain⟨a4,i4,k4⟩:=fld hel hn 4 (t:=23) (o:=4) (by kernel_rfl) z23 rd23
 exact⟨⟨a0,a1,a2,a3,a4⟩,⟨i0,i1,i2,i3,i4⟩,k0.append (k1.append (k2.append (k3.append k4)))⟩
theorem drafts_of{d:SDraft1}(h:Ok25 d):DraftsOk d:=⟨fun x hx=>have k:=h.1 x hx;⟨V0 k.1,V0 k.2.1,V0 k.2.2.1,V0 k.2.2.2.1,V0 k.q.1,w16_iff k.q.2⟩,fun x hx=>have k:=h.2.1 x hx;⟨V0 k.1,V0 k.2.1,V0 k.2.2.1,V0 k.2.2.2.1,V0 k.q.1,w16_iff k.q.2⟩,V0 h.2.2.2.1⟩
end Go.Proofs.YtjpahkpfkohfkaaGreatDoor
