/- AgentBack: what was made of a probe gives the probe; different probes have different octets.
   The listed variables: laid in the witness; one of them (the kinds' weights) is read. What a call may change: nothing of what was there.
   Arguments opened: what comes in reads as typed data. Conditions: none but that it reads at all.
   Readers of the laws' parameters, printed by a program.
   What is read of events. -/
import Derived.Test.YtjpahkpfkohfkaaGreatDoorB12
import Derived.Test.YtjpahkpfkohfkaaGreatDoorB14
import Derived.Test.YtjpahkpfkohfkaaGreatDoorB16
import Derived.Test.YtjpahkpfkohfkaaGreatDoorB8
import Derived.Test.YtjpahkpfkohfkaaGreatDoorRows
import Derived.ChangeSame
import Derived.ChangeVars
import Derived.JoinedOf
import Derived.RowKit
import Derived.ProofKit
import Derived.LaidMore
import Derived.Lay
import Derived.OpenShut
import Derived.Carry
import Derived.Stop.Joined
import Derived.Lib.LaidU8
import Derived.ChangeArms
import Derived.DataReads
import Derived.SevenTiedAt
import Derived.KernelRfl
set_option linter.unusedVariables false
set_option linter.unusedSimpArgs false
namespace Go.Proofs.YtjpahkpfkohfkaaGreatDoor
open Go Go.EV
set_option maxRecDepth 100000
def EventOk (x:R0):Prop:=(0≤x.fWhat∧x.fWhat≤255)∧(0≤x.fFrom∧x.fFrom≤255)∧(0≤x.fTo∧x.fTo≤255)∧(0≤x.fId∧x.fId≤255)∧(0≤x.fTie∧x.fTie≤255)
theorem okRCANDS11 (l:List SDraft) (n:Nat) (hn:n≤1000):SOk (s10 l (n:Int)) (fun r=>r.length≤n):=by
 show Ok (g10 l (n:Int)) _
 unfold g10
 simp only[W5]
 refine Ok.gh (Ok.bind (R:=fun r=>r.length≤n) ?_ fun e he=>Ok.gh (Ok.done he))
 refine Ok.scan n (by omega) (fun k y=>y.2=(k:Int)∧y.1.length=k) ⟨rfl,rfl⟩ (fun k y hy hk=>?_) (fun y hy=>?_)
 ·obtain⟨hi,hs⟩:=hy
  obtain⟨y1,y2⟩:=y
  simp only at hi hs
  subst hi
  refine Ok.cnd (R:=fun c=>c=true→k < l.length) (Ok.br (fun h1=>Ok.done fun _=>by simpa using h1) (fun h1=>Ok.done fun h=>by simp at h)) fun c hc=>Ok.br (fun h=>?_) (fun h=>Ok.done (by show y1.length≤n;omega))
  obtain⟨x,hx1,hx2⟩:=A7 (hc h)
  refine Ok.row (by simp) hx1 (Ok.call (okDCAND _) fun r _=>Ok.app (by simp[hs];omega) (Ok.gh (Ok.gh (Ok.done ⟨U1 hk (by omega),by simp[hs]⟩))))
 ·obtain⟨hi,hs⟩:=hy
  obtain⟨y1,y2⟩:=y
  simp only at hi hs
  subst hi
  refine Ok.cnd (R:=fun c=>c=false) (Ok.br (fun h1=>Ok.done (by simp)) (fun h1=>Ok.done rfl)) fun c hc=>?_
  subst hc
  exact Ok.brF rfl (Ok.done (by show y1.length≤n;omega))
theorem okSINGLE11 (l:List Q3) (hl:l.length≤1000000):SOk (s117 l) (fun _=>True):=by
 unfold s117
 refine SOk.fn ?_
 unfold g117
 refine Ok.bind2 (R:=fun _=>True) ?_ (fun e _=>Ok.done trivial) fun e _=>Ok.done trivial
 refine Ok.scan l.length hl (fun k y=>y=(k:Int)) rfl (fun k y hy hk=>?_) fun y hy=>?_
 ·subst hy
  refine Ok.brT (by rw[W5];simp;omega) ?_
  obtain⟨x,hx,_⟩:=A7 (l:=l) (k:=k) hk
  exact Ok.row (by simp) hx (Ok.br (fun _=>Ok.done trivial) fun _=>Ok.done (U1 hk hl))
 ·subst hy
  exact Ok.brF (by rw[W5];simp) (Ok.done trivial)
theorem okRNEWA (l r:List Q3) (c:Bool) (tie now:Int) (hl:l.length≤12) (hr:r.length≤12):SOk (s56 l r c tie now) (fun e=>e.1.fChecks=[]∧e.1.fList.fLocals.length≤12∧e.1.fList.fRemotes.length≤12):=by
 unfold s56
 refine SOk.fn ?_
 unfold g56
 refine Ok.call (okRMAKE l r c) fun e he=>Ok.br (fun _=>Ok.done ⟨rfl,by show 0≤12;decide,by show 0≤12;decide⟩) fun _=>?_
 refine Ok.cnd (R:=fun _=>True) ?_ fun c2 _=>Ok.br (fun _=>Ok.done ⟨rfl,by show 0≤12;decide,by show 0≤12;decide⟩) fun _=>?_
 ·refine Ok.call (okSINGLE11 l (by omega)) fun _ _=>Ok.br (fun _=>Ok.done trivial) fun _=>Ok.call (okSINGLE11 r (by omega)) fun _ _=>Ok.br (fun _=>Ok.done trivial) fun _=>Ok.br (fun _=>Ok.done trivial) fun _=>Ok.br (fun _=>Ok.done trivial) fun _=>Ok.br (fun _=>Ok.done trivial) fun _=>Ok.done trivial
 ·refine Ok.opr (r:=()) ?_ (Ok.gh (Ok.gh (Ok.done ⟨rfl,he.1,he.2.1⟩)))
  show (bif decide (0≤(Y5 Q2 e.1.fPairs))&&decide ((Y5 Q2 e.1.fPairs)≤(Y5 Q2 e.1.fPairs))&&decide (1 * (Y5 Q2 e.1.fPairs).toNat≤281474976710656)&&decide ((Y5 Q2 e.1.fPairs)≤9223372036854775807) then some () else none)=some ()
  have:=he.2.2
  rw[W5,decide_eq_true (by omega),decide_eq_true (by omega),decide_eq_true (by omega),decide_eq_true (by omega)];rfl
theorem okFRESH (d:SDraft1):SOk (s18 d) (fun a=>a.fChecks=[]∧a.fList.fLocals.length≤12∧a.fList.fRemotes.length≤12):=by
 unfold s18
 refine SOk.fn ?_
 unfold g18
 exact Ok.call (okRCANDS11 d.fLocals 6 (by decide)) fun l hl=>Ok.call (okRCANDS11 d.fRemotes 6 (by decide)) fun r hr=>Ok.call (okRNEWA l r _ _ _ (by omega) (by omega)) fun e he=>Ok.done he
theorem okPLACE7 (p:Int) (h:0≤p∧p < 7):SOk (s45 p) (fun r=>∃k,k < 7∧r=A1 k):=by
 have:p=0∨p=1∨p=2∨p=3∨p=4∨p=5∨p=6:=by omega
 rcases this with rfl|rfl|rfl|rfl|rfl|rfl|rfl
 ·exact⟨_,rfl,0,by decide,rfl⟩
 ·exact⟨_,rfl,1,by decide,rfl⟩
 ·exact⟨_,rfl,2,by decide,rfl⟩
 ·exact⟨_,rfl,3,by decide,rfl⟩
 ·exact⟨_,rfl,4,by decide,rfl⟩
 ·exact⟨_,rfl,5,by decide,rfl⟩
 ·exact⟨_,rfl,6,by decide,rfl⟩
theorem tmod_at {i:Int} {n:Nat} (h0:0≤i) (h1:i≤255) (hn:0 < n):0≤Int.tmod (Q7 i) (n:Int)∧(Int.tmod (Q7 i) (n:Int)).toNat < n:=by
 rw[Y9 (by omega) (by omega),Int.tmod_eq_emod_of_nonneg h0]
 have:=Int.emod_nonneg i (show (n:Int)≠0 by omega)
 have:=Int.emod_lt_of_pos i (show (0:Int) < n by omega)
 omega
theorem okPLACE11 (a:Y7) (p:Int) (h:0≤p∧p≤255):SOk (s46 a p) (fun _=>True):=by
 unfold s46
 refine SOk.fn ?_
 unfold g46
 simp only[W5]
 refine Ok.cnd (R:=fun c=>c=false→0 < a.fList.fLocals.length) (Ok.br (fun _=>Ok.done fun e=>by cases e) fun hc=>Ok.done fun _=>?_) fun c hc=>Ok.br (fun _=>Ok.call (okPLACE p) fun r _=>Ok.done trivial) fun e=>?_
 ·rw[beq_eq_false_iff_ne] at hc;omega
 ·have hn:=hc e
  obtain⟨t0,t1⟩:=tmod_at h.1 h.2 hn
  exact Ok.chk (by rw[Bool.not_eq_true',beq_eq_false_iff_ne];omega) (Ok.row (by simpa using t0) (List.getElem?_eq_getElem t1) (Ok.done trivial))
theorem okHOP (x:R0) (a:Y7) (hx:EventOk x) (ha:a.fChecks=[]):SOk (s16 x a) (fun h=>ProbeD h.fProbe):=by
 obtain⟨⟨w0,w1⟩,⟨f0,f1⟩,⟨t0,t1⟩,⟨i0,i1⟩,⟨e0,e1⟩⟩:=hx
 have m7:∀{n:Int},0≤n→0≤Int.tmod n 7∧Int.tmod n 7 < 7:=fun {n} h=>by rw[Int.tmod_eq_emod_of_nonneg h];omega
 unfold s16
 refine SOk.fn ?_
 unfold g16
 simp only[W5,ha]
 refine Ok.call (okPLACE7 _ (m7 f0)) fun p1 h1=>Ok.call (okPLACE11 a _ ⟨t0,t1⟩) fun p2 _=>?_
 refine Ok.cnd (R:=fun c=>c=false) (Ok.br (fun _=>Ok.done rfl) fun _=>Ok.done rfl) fun c hc=>?_
 subst hc
 have eid:Q7 x.fId=x.fId:=Y9 (by omega) (by omega)
 refine Ok.brF rfl (Ok.br (fun _=>Ok.call (okPLACE7 _ (m7 f0)) fun p3 h3=>Ok.done ?_) fun _=>?_)
 ·exact⟨by show 0≤Q7 x.fId∧Q7 x.fId≤1099511627776;rw[eid];omega,.inr ⟨rfl,rfl,rfl,rfl,rfl,h3⟩⟩
 ·refine Ok.cnd (R:=fun c=>c=true→0 < a.fList.fRemotes.length) (Ok.br (fun _=>Ok.done fun e=>by simpa using e) fun _=>Ok.done fun e=>by cases e) fun c hc=>?_
  refine Ok.bind (R:=fun _=>True) (Ok.br (fun e=>?_) fun _=>Ok.done trivial) fun e _=>?_
  ·obtain⟨q0,q1⟩:=tmod_at f0 f1 (hc e)
   have hn:=hc e
   exact Ok.chk (by rw[Bool.not_eq_true',beq_eq_false_iff_ne];omega) (Ok.row (by simpa using q0) (List.getElem?_eq_getElem q1) (Ok.done trivial))
  ·have ep:Q7 (1+Q7 x.fTie)=1+x.fTie:=by rw[Y9 (n:=x.fTie) (by omega) (by omega),Y9 (by omega) (by omega)]
   have et:Q7 (Int.tmod x.fTie 16)=x.fTie % 16:=by rw[Int.tmod_eq_emod_of_nonneg e0,Y9 (by omega) (by omega)]
   have hask:∀u:Bool,(u=true→x.fControlling=true)→ProbeD ⟨1,Q7 x.fId,Q7 (1+Q7 x.fTie),x.fControlling,Q7 (Int.tmod x.fTie 16),u,a0⟩:=fun u hu=>by
    rw[eid,ep,et]
    exact⟨by show 0≤x.fId∧x.fId≤1099511627776;omega,.inl ⟨rfl,by show 1≤1+x.fTie∧1+x.fTie≤2147483647;omega,by show 0≤x.fTie % 16∧x.fTie % 16≤281474976710655;omega,hu,rfl⟩⟩
   exact Ok.br (fun _=>Ok.done (hask x.fControlling id)) fun _=>Ok.done (hask false fun h=>by cases h)
theorem probe_eq {p q:Y6}:((p.fKind==q.fKind)&&((p.fId==q.fId)&&((p.fPriority==q.fPriority)&&((p.fControlling==q.fControlling)&&((p.fTie==q.fTie)&&((p.fUse==q.fUse)&&((decide (p.fSeen.fHost=q.fSeen.fHost))&&((p.fSeen.fPort==q.fSeen.fPort)&&true))))))))=true↔p=q:=by
 obtain⟨a1,a2,a3,a4,a5,a6,a7,a8⟩:=p
 obtain⟨b1,b2,b3,b4,b5,b6,b7,b8⟩:=q
 simp
theorem okLBACK (d:SDraft1) (l:S2Tannoyref11Event) (key:ByteArray) (h0:EventOk l.a0) (h1:EventOk l.a1):SOk (s5 d l key) (fun r=>r=true):=by
 unfold s5
 refine SOk.fn ?_
 unfold g5
 refine Ok.call okWAKES fun w hw=>?_
 subst hw
 have hm:(0≤(if (20:Int) < (key.size:Int) then (20:Int) else (key.size:Int)))∧(if (20:Int) < (key.size:Int) then (20:Int) else (key.size:Int))≤(key.size:Int)∧(if (20:Int) < (key.size:Int) then (20:Int) else (key.size:Int))≤20:=by split<;>omega
 refine Ok.brF rfl (Ok.chk (by simp only[Bool.and_eq_true,decide_eq_true_eq];exact⟨hm.1,hm.2.1⟩) ?_)
 have hk:(key.extract 0 ((if (20:Int) < (key.size:Int) then (20:Int) else (key.size:Int)).toNat)).size≤4096:=by rw[ByteArray.size_extract];omega
 generalize key.extract 0 ((if (20:Int) < (key.size:Int) then (20:Int) else (key.size:Int)).toNat)=k at hk
 refine Ok.call (okFRESH d) fun a ha=>Ok.call (okHOP _ a h0 ha.1) fun p hp=>Ok.call (okHOP _ a h1 ha.1) fun q hq=>?_
 refine Ok.call (okAWIRE hp hk) fun s hs=>Ok.call (okAWIRE hq hk) fun t ht=>?_
 obtain⟨l1,hl1,rfl⟩:=hs
 obtain⟨l2,hl2,rfl⟩:=ht
 refine Ok.call (okAUNWIRE hp hl1 hk) fun x hx=>Ok.call (okAUNWIRE hq hl2 hk) fun y hy=>?_
 subst hx;subst hy
 refine Ok.cnd (R:=fun c=>c=true) ?_ fun c hc=>Ok.done hc
 refine Ok.brT rfl (Ok.brT rfl (Ok.brT rfl (Ok.brT rfl (Ok.brT (probe_eq.2 rfl) (Ok.brT (probe_eq.2 rfl) (Ok.done ?_))))))
 rw[beq_iff_eq,Bool.eq_iff_iff,probe_eq,decide_eq_true_iff]
 show wireB p.fProbe l1 k=wireB q.fProbe l2 k↔_
 constructor
 ·intro e
  obtain⟨r1,u1,v1⟩:=okAUNWIRE hp hl1 hk
  obtain⟨r2,u2,v2⟩:=okAUNWIRE hq hl2 hk
  rw[e,u2] at u1
  have:=Option.some.inj u1
  rw[v1,v2] at this
  exact(congrArg Prod.fst this).symm
 ·intro e
  rw[e] at hl1 ⊢
  rw[attrs_one hl1 hl2]
end Go.Proofs.YtjpahkpfkohfkaaGreatDoor
namespace Go.Proofs.YtjpahkpfkohfkaaGreatDoor
open Go Go.EV Go.ChangeShapes
set_option maxRecDepth 100000
theorem own:ownKnob Tryz.prog.godebug=none:=by kernel_rfl
abbrev laid1:List (String×DataW Unit):=[("math/bits.deBruijn32tab",Rows.laid_math_bits_deBruijn32tab),("math/bits.deBruijn64tab",Rows.laid_math_bits_deBruijn64tab),("internal/strconv.uint64pow10",Rows.laid_internal_strconv_uint64pow10),("unicode/utf8.acceptRanges",Rows.laid_unicode_utf8_acceptRanges),("tannoy/candidate.weights",Rows.laid_tannoy_candidate_weights),("unicode/utf8.first",Rows.laid_unicode_utf8_first)]
theorem shaped1 (os:Os):(World.laidAll Tryz.prog os laid1).Shaped Tryz.prog:=World.shaped_of_ZipB (by kernel_rfl) (by kernel_rfl)
theorem laid_met (os:Os) (args:Array Value):laidMetH Tryz.prog laid1 ((World.laidAll Tryz.prog os laid1).forCall (fun _ _=>0) ⟨#[],args,[]⟩).memory:=by
 rw[MakeChecks.laidMetH_plain _ _ _ (by kernel_rfl)]
 exact laidMet_laidAll _ (by kernel_rfl) (by kernel_rfl)
def gh0 (w:World):Gh:={ loc:=fun _=>none,own:=fun _=>none,lim:=fun B=>match w.heap[B]? with|some (.cells cs _ _)=>cs.size|_=>0 }
theorem gh0_lim {w:World} {B o:Nat} {v:Value} (h:cellAt w B o=some v):o < (gh0 w).lim B:=by
 unfold cellAt World.cell? at h
 simp only[gh0]
 cases hb:w.heap[B]? with
 | none=>simp[hb] at h
 | some x=>
  cases x with
  | cells cs t fz=>
   simp only[hb] at h
   simp only
   exact(Array.getElem?_eq_some_iff.1 (by simpa using h)).1
  | _=>simp[hb] at h
theorem weights_of {w:World} (h:laidMetH Tryz.prog laid1 w):w.var? Tryz.prog "tannoy/candidate.weights"=some #[.int .i64 0,.int .i64 126,.int .i64 110,.int .i64 100,.int .i64 0]:=by
 rw[MakeChecks.laidMetH_plain _ _ _ (by kernel_rfl)] at h
 obtain⟨g,t,cs,I7,p,hg,ht,hv,hd⟩:=Lib.laidMet.reads h (n:= "tannoy/candidate.weights") (d:=Rows.laid_tannoy_candidate_weights) (by simp)
 obtain rfl:=Option.some.inj ((show Tryz.prog.globalNamed "tannoy/candidate.weights"=some 0 by kernel_rfl).symm.trans hg)
 obtain rfl:=Option.some.inj ((show (Tryz.prog.globals[0]?).map (·.type)=some 240 by kernel_rfl).symm.trans ht)
 have c5:Tryz.prog.cellsOf 3=1:=by kernel_rfl
 have c29:Tryz.prog.cellsOf 240=5:=by kernel_rfl
 have u5:Tryz.prog.underlying 3=some (.int .i64):=by kernel_rfl
 have u29:Tryz.prog.underlying 240=some (.array 5 3):=by kernel_rfl
 obtain⟨xs,m,_,ex,hlen,hl,hel⟩:=DataW.trod_array u29 hd
 rw[c29] at hlen
 obtain⟨l⟩:=cs
 match l,hlen with
 | [a,b,c,d,e],_=>
  match xs,hl with
  | [x0,x1,x2,x3,x4],_=>
   have e3:=(DataW.agg.inj (Prod.mk.inj ex).1)
   simp only[List.map_cons,List.map_nil,List.cons.injEq,and_true] at e3
   have k0:=hel 0 (by omega);have k1:=hel 1 (by omega);have k2:=hel 2 (by omega);have k3:=hel 3 (by omega);have k4:=hel 4 (by omega)
   rw[c5] at k0 k1 k2 k3 k4
   obtain⟨z0,a0,b0,_⟩:=DataW.trod_int u5 k0
   obtain⟨z1,a1,b1,_⟩:=DataW.trod_int u5 k1
   obtain⟨z2,a2,b2,_⟩:=DataW.trod_int u5 k2
   obtain⟨z3,a3,b3,_⟩:=DataW.trod_int u5 k3
   obtain⟨z4,a4,b4,_⟩:=DataW.trod_int u5 k4
   simp at a0 a1 a2 a3 a4
   subst b0;subst b1;subst b2;subst b3;subst b4
   simp at e3
   obtain⟨f0,f1,f2,f3,f4⟩:=e3
   rw[hv,a0,a1,a2,a3,a4,←f0,←f1,←f2,←f3,←f4]
theorem globOk {w:World} (h:laidMetH Tryz.prog laid1 w):S3 GG (gh0 w) w:=fun g cells hg=>by
 unfold GG at hg
 split at hg
 ·rename_i e
  subst e
  simp only[Option.some.injEq] at hg
  subst hg
  have c:=World.var?_cell (show Tryz.prog.globalNamed "tannoy/candidate.weights"=some 0 by kernel_rfl) (weights_of h)
  refine .snap _ 0 0 (fun i=>match i with|0=>.int .i64 0|1=>.int .i64 126|2=>.int .i64 110|3=>.int .i64 100|_=>.int .i64 0) (fun i c' hc=>?_) (fun i c' hc=>?_)
  ·have key:∀(o:Nat) (v:Value),w.cell? ⟨0,o,none⟩=some v→o < (gh0 w).lim 0∧cellAt w 0 o=some v:=fun o v hv=>⟨gh0_lim (v:=v) hv,hv⟩
   match i,hc with
   | 0,_=>exact key _ _ (by rw[c 0];rfl)
   | 1,_=>exact key _ _ (by rw[c 1];rfl)
   | 2,_=>exact key _ _ (by rw[c 2];rfl)
   | 3,_=>exact key _ _ (by rw[c 3];rfl)
   | 4,_=>exact key _ _ (by rw[c 4];rfl)
   | n+5,hc=>simp at hc
  ·match i,hc with
   | 0,hc=>simp at hc;subst hc;exact .int _ _
   | 1,hc=>simp at hc;subst hc;exact .int _ _
   | 2,hc=>simp at hc;subst hc;exact .int _ _
   | 3,hc=>simp at hc;subst hc;exact .int _ _
   | 4,hc=>simp at hc;subst hc;exact .int _ _
   | n+5,hc=>simp at hc
 ·simp at hg
theorem keptBut_of_grow {w w':World} {γ':Gh} (h:Grow (gh0 w) w γ' w') (may:MemPlace→Prop):w.keptBut w' may:=by
 refine⟨h.os,h.output,fun i hi=>?_⟩
 have:=(h.free i hi rfl).1
 rw[this]
 cases w.heap[i]? with
 | none=>trivial
 | some x=>
  cases x with
  | cells c t fr=>exact⟨rfl,rfl,rfl,fun _ _=>rfl⟩
  | map es clock=>exact .inr ⟨rfl,rfl⟩
  | _=>rfl
end Go.Proofs.YtjpahkpfkohfkaaGreatDoor
namespace Go.Proofs.YtjpahkpfkohfkaaGreatDoor
open Go Go.EV Go.ChangeShapes
set_option maxRecDepth 100000
def CellsD (W:World) (l:List V) (cs:List Value):Prop:=cs.length=l.length∧∀(i:Nat) (c:V) (v:Value),l[i]?=some c→cs[i]?=some v→W3 (gh0 W).lim W c v
theorem CellsD.one {W:World} {c:V} {v:Value} (h:W3 (gh0 W).lim W c v):CellsD W [c] [v]:=⟨rfl,fun i c' v' hc hv=>by
 cases i with
 | zero=>simp at hc hv;subst hc;subst hv;exact h
 | succ i=>simp at hc⟩
theorem CellsD.append {W:World} {l m:List V} {cs ds:List Value} (h:CellsD W l cs) (k:CellsD W m ds):CellsD W (l++m) (cs++ds):=
  ⟨by simp[h.1,k.1],fun i c v hc hv=>by
    by_cases hi:i < l.length
    · rw[List.getElem?_append_left hi] at hc
      rw[List.getElem?_append_left (by rw[h.1];exact hi)] at hv
      exact h.2 i c v hc hv
    · rw[List.getElem?_append_right (by omega)] at hc
      rw[List.getElem?_append_right (by rw[h.1];omega),h.1] at hv
      exact k.2 _ c v hc hv⟩
def Rd (t:TypeId) {α:Type} (c:α→List V) (I:α→Prop):Prop:=
 ∀(H:Type) (enc:TypeId×Value→H) (W:World) (I7:Nat) (cs:List Value) (x:DataW H×List MemPlace),DataW.trod enc Tryz.prog W 0 (fun _=>true) true I7 t cs=some x→∃a:α,I a∧CellsD W (c a) cs
theorem rdInt {t:TypeId} {k:IntKind} (ht:Tryz.prog.underlying t=some (.int k)):Rd t (fun n:Int=>[.int k n]) (fun n=>(Lit.int k n).wf=true):=fun H enc W I7 cs x h=>by
 obtain⟨n,rfl,_,hw⟩:=DataW.trod_int ht h
 exact⟨n,hw,.one (.int k n)⟩
theorem rdBool {t:TypeId} (ht:Tryz.prog.underlying t=some .bool):Rd t (fun b:Bool=>[.bool b]) (fun _=>True):=fun H enc W I7 cs x h=>by
 cases I7 with
 | zero=>simp[DataW.trod] at h
 | succ n=>
  unfold DataW.trod at h
  rw[ht] at h
  split at h<;>first|exact⟨_,trivial,.one (.bool _)⟩|simp_all
theorem rdStr {t:TypeId} (ht:Tryz.prog.underlying t=some .string):Rd t (fun s:ByteArray=>[.str s]) (fun _=>True):=fun H enc W I7 cs x h=>by
 cases I7 with
 | zero=>simp[DataW.trod] at h
 | succ n=>
  unfold DataW.trod at h
  rw[ht] at h
  split at h<;>simp_all
  exact⟨_,.one (.str _)⟩
theorem fld {H:Type} {enc:TypeId×Value→H} {W:World} {n:Nat} {fs:Array Field} {cs:List Value} {xs:List (DataW H×List MemPlace)} {t o z:Nat} {α:Type} {c:α→List V} {I:α→Prop}
  (hel:∀(i:Nat) (f:Field),fs[i]?=some f→DataW.trod enc Tryz.prog W 0 (fun _=>true) true n f.type ((cs.drop f.offset).take (Tryz.prog.cellsOf f.type))=xs[i]?) (hn:xs.length=fs.size) (i:Nat)
  (hf:(fs[i]?).map (fun f=>(f.type,f.offset))=some (t,o)) (hz:Tryz.prog.cellsOf t=z) (r:Rd t c I):∃a:α,I a∧CellsD W (c a) ((cs.drop o).take z):=by
 obtain⟨f,h1,h2⟩:=Option.map_eq_some_iff.1 hf
 simp only[Prod.mk.injEq] at h2
 obtain⟨rfl,rfl⟩:=h2
 have hi:i < xs.length:=by rw[hn];exact(Array.getElem?_eq_some_iff.1 h1).1
 have:=hel i f h1
 rw[List.getElem?_eq_getElem hi,hz] at this
 exact r H enc W n _ _ this
theorem fldA {H:Type} {enc:TypeId×Value→H} {W:World} {n m:Nat} {cs:List Value} {xs:List (DataW H×List MemPlace)} {t z:Nat} {α:Type} {c:α→List V} {I:α→Prop}
  (hel:∀(i:Nat),i < m→DataW.trod enc Tryz.prog W 0 (fun _=>true) true n t ((cs.drop (i * Tryz.prog.cellsOf t)).take (Tryz.prog.cellsOf t))=xs[i]?) (hn:xs.length=m) (i:Nat) (hi:i < m)
  (hz:Tryz.prog.cellsOf t=z) (r:Rd t c I):∃a:α,I a∧CellsD W (c a) ((cs.drop (i * z)).take z):=by
 have:=hel i hi
 rw[List.getElem?_eq_getElem (by omega),hz] at this
 exact r H enc W n _ _ this
theorem cells_at {W:World} {a:Addr} {z:Nat} {ci:List Value} (h:W.cells? 0 a z=some ci):ci.length=z∧∀r,r < z→W.cell? (a.add r)=ci[r]?:=by
 unfold World.cells? at h
 rw[if_pos (Nat.zero_le _)] at h
 exact⟨by simpa using mapM_some_length h,fun r hr=>mapM_some_get h r r (by simp[hr])⟩
theorem spot_of {W:World} {a:Addr} {z q:Nat} {ci:List Value} (hz:0 < z) (h:W.cells? 0 (a.add (q * z)) z=some ci) (hq:q=0):a.spot=none:=by
 obtain⟨h1,h2⟩:=cells_at h
 have h3:=h2 0 hz
 have e:(a.add (q * z)).add 0=a:=by subst hq;simp[Addr.add]
 rw[e,List.getElem?_eq_getElem (by omega)] at h3
 exact World.cell?_spot h3
theorem rdSlice {t e z:Nat} {α:Type} {ty:Ty α} {I:α→Prop} (ht:Tryz.prog.underlying t=some (.slice e)) (hz:Tryz.prog.cellsOf e=z) (hpos:0 < z) (hlen:∀a,(ty.c a).length=z) (r:Rd e ty.c I) :
  Rd t (fun l:List α=>[.sl false z (l.map ty.c)]) (fun l=>∀a,a∈l→I a):=fun H enc W I7 cs x h=>by
 rcases DataW.trod_slice ht h with⟨rfl,-⟩|⟨a,len,cap,elems,rest,n,rfl,rfl,-,-,hlc,-,hel,hE,hR,-⟩
 ·exact⟨[],by simp,.one (.slNil false z)⟩
 rw[hz] at hE hR
 have build:∀m,m≤len→∃l:List α,l.length=m∧(∀a,a∈l→I a)∧∀i x,l[i]?=some x→∃ci,W.cells? 0 (a.add (i * z)) z=some ci∧CellsD W (ty.c x) ci:=by
  intro m
  induction m with
  | zero=>intro _;exact⟨[],rfl,by simp,by simp⟩
  | succ m ih=>
   intro hm
   obtain⟨l,l1,l2,l3⟩:=ih (by omega)
   have:=hE m (by omega)
   rw[List.getElem?_eq_getElem (by omega)] at this
   obtain⟨ci,hci,htr⟩:=Option.bind_eq_some_iff.1 this
   obtain⟨y,hy,hcd⟩:=r H enc W n ci _ htr
   refine⟨l++[y],by simp[l1],fun b hb=>?_,fun i x hx=>?_⟩
   ·rcases List.mem_append.1 hb with hb|hb
    ·exact l2 b hb
    ·rw[List.mem_singleton.1 hb];exact hy
   ·by_cases hi:i < l.length
    ·rw[List.getElem?_append_left hi] at hx;exact l3 i x hx
    ·rw[List.getElem?_append_right (by omega)] at hx
     have hi2:i - l.length=0:=by
      have:=(List.getElem?_eq_some_iff.1 hx).1
      simp at this;omega
     rw[hi2] at hx;simp at hx;subst hx
     have:i=m:=by omega
     subst this
     exact⟨ci,hci,hcd⟩
 obtain⟨l,hl,hI,hc⟩:=build len (Nat.le_refl _)
 refine⟨l,hI,.one ?_⟩
 by_cases hcap:cap=0
 ·have:l=[]:=List.length_eq_zero_iff.1 (by omega)
  subst this
  have h0:len=0:=by simpa using hl.symm
  subst h0;subst hcap
  exact .slNil false z (some a)
 have hspot:a.spot=none:=by
  by_cases h0:len=0
  ·obtain⟨r1,r2⟩:=hR rfl
   have:=r2 0 (by omega)
   rw[List.getElem?_eq_getElem (by omega)] at this
   obtain⟨ci,hci,_⟩:=Option.bind_eq_some_iff.1 this
   exact spot_of hpos (q:=len+0) hci (by omega)
  ·have:=hE 0 (by omega)
   rw[List.getElem?_eq_getElem (by omega)] at this
   obtain⟨ci,hci,_⟩:=Option.bind_eq_some_iff.1 this
   exact spot_of hpos hci rfl
 obtain⟨B,o,sp⟩:=a
 simp only at hspot
 subst hspot
 have hsz:∀q,q∈l.map ty.c→q.length=z:=fun q hq=>by
  obtain⟨y,_,rfl⟩:=List.mem_map.1 hq;exact hlen y
 have key:∀(i:Nat) (c:V),(l.map ty.c).flatten[i]?=some c→∃v,cellAt W B (o+i)=some v∧W3 (gh0 W).lim W c v:=fun i c hci=>by
  have e1:i=(i / z) * z+i % z:=by rw[Nat.mul_comm];exact(Nat.div_add_mod i z).symm
  have hm:=Nat.mod_lt i hpos
  rw[e1,J7 _ hsz _ _ hm,List.getElem?_map] at hci
  cases hx:l[i / z]? with
  | none=>rw[hx] at hci;simp at hci
  | some y=>
   rw[hx] at hci
   simp only[Option.map_some,Option.bind_some] at hci
   obtain⟨ci,k1,k2⟩:=hc _ _ hx
   obtain⟨k3,k4⟩:=cells_at k1
   have k5:=k4 (i % z) hm
   have hv:ci[i % z]?=some (ci[i % z]'(by omega)):=List.getElem?_eq_getElem _
   refine⟨_,?_,k2.2 _ _ _ hci hv⟩
   rw[hv] at k5
   rw[Addr.add_eq,Addr.add_eq] at k5
   unfold cellAt
   rw[show o+i=o+(i / z) * z+i % z by omega]
   exact k5
 have fin:=W3.sl (lim:=(gh0 W).lim) (w:=W) false z (l.map ty.c) B o cap (fun i=>(cellAt W B (o+i)).getD default) (by simp;omega) hsz
  (fun i c hci=>by obtain⟨v,v1,v2⟩:=key i c hci;rw[v1];exact⟨gh0_lim v1,rfl⟩) (fun i c hci=>by obtain⟨v,v1,v2⟩:=key i c hci;rw[v1];exact v2)
 rw[List.length_map,hl] at fin
 exact fin
noncomputable def fsOf (t:TypeId):Array Field:=match Tryz.prog.underlying t with|some (.struct f)=>f|_=>#[]
theorem open_agg {H:Type} {enc:TypeId×Value→H} {W:World} {t:TypeId} {α:Type} {c:α→List V} {I:α→Prop} (r:Rd t c I) {v:Value} {d:DataW H} {p:List MemPlace} (hv:∃cs,v=.agg cs)
  (h:DataW.Trod enc Tryz.prog W 0 (fun _=>true) true t v d p):∃a:α,I a∧Rep (gh0 W) W (ofL []) uTop (.agg (c a)) v:=by
 obtain⟨cs,rfl⟩:=hv
 obtain⟨I7,hf⟩:=h
 obtain⟨a,hi,hc⟩:=r H enc W I7 _ _ hf
 refine⟨a,hi,?_⟩
 have:=Rep.agg (γ:=gh0 W) (w:=W) (bs:=ofL []) (u:=uTop) (c a) cs.toList hc.1 (fun i x y hx hy=>.data (hc.2 i x y hx hy))
 simpa using this
theorem agg_struct {W:World} {base:Nat} {t:TypeId} {v:Value} {fs:Array Field} (ht:Tryz.prog.underlying t=some (.struct fs)) (h:Value.okWide Tryz.prog W .any base t v):∃cs,v=.agg cs:=by
 simp only[Value.okWide,ht] at h
 obtain⟨cs,h1,_⟩:=h
 exact⟨cs,h1⟩
theorem agg_array {W:World} {base n e:Nat} {t:TypeId} {v:Value} (ht:Tryz.prog.underlying t=some (.array n e)) (h:Value.okWide Tryz.prog W .any base t v):∃cs,v=.agg cs:=by
 simp only[Value.okWide,ht] at h
 obtain⟨cs,h1,_⟩:=h
 exact⟨cs,h1⟩
theorem laidOut:laidOutB Tryz.prog=true:=by kernel_rfl
theorem below_of_grow {w w':World} {γ':Gh} (h:Grow (gh0 w) w γ' w'):RowKit.Below w.heap.size w w':=
 ⟨h.os,h.tape,h.output,h.size,fun k hk=>(h.free k hk rfl).1⟩
theorem open_one {H:Type} {enc:TypeId×Value→H} {W:World} {t:TypeId} {α:Type} {c:α→List V} {I:α→Prop} (r:Rd t c I) {v:Value} {d:DataW H} {p:List MemPlace} (hv:v.cells=#[v])
  (h:DataW.Trod enc Tryz.prog W 0 (fun _=>true) true t v d p):∃a:α,I a∧∀x,c a=[x]→Rep (gh0 W) W (ofL []) uTop x v:=by
 obtain⟨I7,hf⟩:=h
 rw[hv] at hf
 obtain⟨a,hi,hc⟩:=r H enc W I7 _ _ hf
 refine⟨a,hi,fun x hx=>?_⟩
 rw[hx] at hc
 exact .data (hc.2 0 x v rfl rfl)
section
variable {H:Type} {enc:TypeId×Value→H} {P:Program} {w:World} {base:Nat} {spare:Nat→Bool} {held:Bool}
end
theorem w8_iff {n:Int} (h:(Lit.int .u8 n).wf=true):0≤n∧n≤255:=by
 simp[Lit.wf,IntKind.min,IntKind.max,IntKind.signed,IntKind.bits] at h;omega
end Go.Proofs.YtjpahkpfkohfkaaGreatDoor
namespace Go.Proofs.YtjpahkpfkohfkaaGreatDoor
open Go Go.EV
set_option maxRecDepth 100000
theorem u25:Tryz.prog.underlying 25=some (.struct (fsOf 25)):=by kernel_rfl
theorem z25:Tryz.prog.cellsOf 25=5:=by kernel_rfl
theorem u22:Tryz.prog.underlying 22=some (.slice 96):=by kernel_rfl
theorem z22:Tryz.prog.cellsOf 22=1:=by kernel_rfl
theorem u96:Tryz.prog.underlying 96=some (.struct (fsOf 96)):=by kernel_rfl
theorem z96:Tryz.prog.cellsOf 96=6:=by kernel_rfl
theorem u5:Tryz.prog.underlying 5=some (.int .u8):=by kernel_rfl
theorem z5:Tryz.prog.cellsOf 5=1:=by kernel_rfl
theorem u55:Tryz.prog.underlying 55=some (.int .u16):=by kernel_rfl
theorem z55:Tryz.prog.cellsOf 55=1:=by kernel_rfl
theorem ln6 {α:Type} {l:List α} (h:l.length=6):∃v0 v1 v2 v3 v4 v5,l=[v0,v1,v2,v3,v4,v5]:=by match l,h with|[v0,v1,v2,v3,v4,v5],_=>exact⟨v0,v1,v2,v3,v4,v5,rfl⟩
def c96 (x:SDraft):List V:=[.int .u8 x.fKind,.int .u8 x.fComponent,.int .u8 x.fAddr,.int .u8 x.fBase,.int .u8 x.fServer,.int .u16 x.fPreference]
def Ok96 (x:SDraft):Prop:=(Lit.int .u8 x.fKind).wf=true∧(Lit.int .u8 x.fComponent).wf=true∧(Lit.int .u8 x.fAddr).wf=true∧(Lit.int .u8 x.fBase).wf=true∧(Lit.int .u8 x.fServer).wf=true∧(Lit.int .u16 x.fPreference).wf=true
theorem rd96:Rd 96 c96 Ok96:=fun H enc W I7 cs x h=>by
 obtain⟨xs,m,rfl,-,hl,hn,hel⟩:=DataW.trod_struct u96 h
 rw[z96] at hl
 obtain⟨v0,v1,v2,v3,v4,v5,rfl⟩:=ln6 hl
 obtain⟨a0,i0,k0⟩:=fld hel hn 0 (t:=5) (o:=0) (by kernel_rfl) z5 (rdInt u5)
 obtain⟨a1,i1,k1⟩:=fld hel hn 1 (t:=5) (o:=1) (by kernel_rfl) z5 (rdInt u5)
 obtain⟨a2,i2,k2⟩:=fld hel hn 2 (t:=5) (o:=2) (by kernel_rfl) z5 (rdInt u5)
 obtain⟨a3,i3,k3⟩:=fld hel hn 3 (t:=5) (o:=3) (by kernel_rfl) z5 (rdInt u5)
 obtain⟨a4,i4,k4⟩:=fld hel hn 4 (t:=5) (o:=4) (by kernel_rfl) z5 (rdInt u5)
 obtain⟨a5,i5,k5⟩:=fld hel hn 5 (t:=55) (o:=5) (by kernel_rfl) z55 (rdInt u55)
 exact⟨⟨a0,a1,a2,a3,a4,a5⟩,⟨i0,i1,i2,i3,i4,i5⟩,k0.append (k1.append (k2.append (k3.append (k4.append k5))))⟩
def Ok22 (l:List SDraft):Prop:=∀a,a∈l→Ok96 a
theorem rd22:Rd 22 (fun l:List SDraft=>[.sl false 6 (l.map E7.c)]) Ok22:=rdSlice (ty:=E7) u22 z96 (by omega) (fun _=>rfl) rd96
theorem u4:Tryz.prog.underlying 4=some .bool:=by kernel_rfl
theorem z4:Tryz.prog.cellsOf 4=1:=by kernel_rfl
theorem u23:Tryz.prog.underlying 23=some (.slice 57):=by kernel_rfl
theorem z23:Tryz.prog.cellsOf 23=1:=by kernel_rfl
theorem u57:Tryz.prog.underlying 57=some (.struct (fsOf 57)):=by kernel_rfl
theorem z57:Tryz.prog.cellsOf 57=8:=by kernel_rfl
theorem ln8 {α:Type} {l:List α} (h:l.length=8):∃v0 v1 v2 v3 v4 v5 v6 v7,l=[v0,v1,v2,v3,v4,v5,v6,v7]:=by match l,h with|[v0,v1,v2,v3,v4,v5,v6,v7],_=>exact⟨v0,v1,v2,v3,v4,v5,v6,v7,rfl⟩
def c57 (x:R0):List V:=[.int .u8 x.fWhat,.int .u8 x.fFrom,.int .u8 x.fTo,.int .u8 x.fId,.int .u16 x.fAfter,.int .u8 x.fTie,.bool x.fControlling,.bool x.fUse]
def Ok57 (x:R0):Prop:=(Lit.int .u8 x.fWhat).wf=true∧(Lit.int .u8 x.fFrom).wf=true∧(Lit.int .u8 x.fTo).wf=true∧(Lit.int .u8 x.fId).wf=true∧(Lit.int .u16 x.fAfter).wf=true∧(Lit.int .u8 x.fTie).wf=true∧True∧True
theorem rd57:Rd 57 c57 Ok57:=fun H enc W I7 cs x h=>by
 obtain⟨xs,m,rfl,-,hl,hn,hel⟩:=DataW.trod_struct u57 h
 rw[z57] at hl
 obtain⟨v0,v1,v2,v3,v4,v5,v6,v7,rfl⟩:=ln8 hl
 obtain⟨a0,i0,k0⟩:=fld hel hn 0 (t:=5) (o:=0) (by kernel_rfl) z5 (rdInt u5)
 obtain⟨a1,i1,k1⟩:=fld hel hn 1 (t:=5) (o:=1) (by kernel_rfl) z5 (rdInt u5)
 obtain⟨a2,i2,k2⟩:=fld hel hn 2 (t:=5) (o:=2) (by kernel_rfl) z5 (rdInt u5)
 obtain⟨a3,i3,k3⟩:=fld hel hn 3 (t:=5) (o:=3) (by kernel_rfl) z5 (rdInt u5)
 obtain⟨a4,i4,k4⟩:=fld hel hn 4 (t:=55) (o:=4) (by kernel_rfl) z55 (rdInt u55)
 obtain⟨a5,i5,k5⟩:=fld hel hn 5 (t:=5) (o:=5) (by kernel_rfl) z5 (rdInt u5)
 obtain⟨a6,i6,k6⟩:=fld hel hn 6 (t:=4) (o:=6) (by kernel_rfl) z4 (rdBool u4)
 obtain⟨a7,i7,k7⟩:=fld hel hn 7 (t:=4) (o:=7) (by kernel_rfl) z4 (rdBool u4)
 exact⟨⟨a0,a1,a2,a3,a4,a5,a6,a7⟩,⟨i0,i1,i2,i3,i4,i5,i6,i7⟩,k0.append (k1.append (k2.append (k3.append (k4.append (k5.append (k6.append k7))))))⟩
def Ok23 (l:List R0):Prop:=∀a,a∈l→Ok57 a
theorem rd23:Rd 23 (fun l:List R0=>[.sl false 8 (l.map R7.c)]) Ok23:=rdSlice (ty:=R7) u23 z57 (by omega) (fun _=>rfl) rd57
theorem ln5 {α:Type} {l:List α} (h:l.length=5):∃v0 v1 v2 v3 v4,l=[v0,v1,v2,v3,v4]:=by match l,h with|[v0,v1,v2,v3,v4],_=>exact⟨v0,v1,v2,v3,v4,rfl⟩
def c25 (x:SDraft1):List V:=[.sl false 6 (List.map E7.c x.fLocals),.sl false 6 (List.map E7.c x.fRemotes),.bool x.fControlling,.int .u8 x.fTie,.sl false 8 (List.map R7.c x.fEvents)]
def Ok25 (x:SDraft1):Prop:=Ok22 x.fLocals∧Ok22 x.fRemotes∧True∧(Lit.int .u8 x.fTie).wf=true∧Ok23 x.fEvents
theorem rd25:Rd 25 c25 Ok25:=fun H enc W I7 cs x h=>by
 obtain⟨xs,m,rfl,-,hl,hn,hel⟩:=DataW.trod_struct u25 h
 rw[z25] at hl
 obtain⟨v0,v1,v2,v3,v4,rfl⟩:=ln5 hl
 obtain⟨a0,i0,k0⟩:=fld hel hn 0 (t:=22) (o:=0) (by kernel_rfl) z22 rd22
 obtain⟨a1,i1,k1⟩:=fld hel hn 1 (t:=22) (o:=1) (by kernel_rfl) z22 rd22
 obtain⟨a2,i2,k2⟩:=fld hel hn 2 (t:=4) (o:=2) (by kernel_rfl) z4 (rdBool u4)
 obtain⟨a3,i3,k3⟩:=fld hel hn 3 (t:=5) (o:=3) (by kernel_rfl) z5 (rdInt u5)
 obtain⟨a4,i4,k4⟩:=fld hel hn 4 (t:=23) (o:=4) (by kernel_rfl) z23 rd23
 exact⟨⟨a0,a1,a2,a3,a4⟩,⟨i0,i1,i2,i3,i4⟩,k0.append (k1.append (k2.append (k3.append k4)))⟩
theorem u61:Tryz.prog.underlying 61=some (.array 2 57):=by kernel_rfl
theorem z61:Tryz.prog.cellsOf 61=16:=by kernel_rfl
theorem ln16 {α:Type} {l:List α} (h:l.length=16):∃v0 v1 v2 v3 v4 v5 v6 v7 v8 v9 v10 v11 v12 v13 v14 v15,l=[v0,v1,v2,v3,v4,v5,v6,v7,v8,v9,v10,v11,v12,v13,v14,v15]:=by match l,h with|[v0,v1,v2,v3,v4,v5,v6,v7,v8,v9,v10,v11,v12,v13,v14,v15],_=>exact⟨v0,v1,v2,v3,v4,v5,v6,v7,v8,v9,v10,v11,v12,v13,v14,v15,rfl⟩
def c61 (x:S2Tannoyref11Event):List V:=[.int .u8 x.a0.fWhat,.int .u8 x.a0.fFrom,.int .u8 x.a0.fTo,.int .u8 x.a0.fId,.int .u16 x.a0.fAfter,.int .u8 x.a0.fTie,.bool x.a0.fControlling,.bool x.a0.fUse,.int .u8 x.a1.fWhat,.int .u8 x.a1.fFrom,.int .u8 x.a1.fTo,.int .u8 x.a1.fId,.int .u16 x.a1.fAfter,.int .u8 x.a1.fTie,.bool x.a1.fControlling,.bool x.a1.fUse]
def Ok61 (x:S2Tannoyref11Event):Prop:=Ok57 x.a0∧Ok57 x.a1
theorem rd61:Rd 61 c61 Ok61:=fun H enc W I7 cs x h=>by
 obtain⟨xs,m,rfl,-,hl,hn,hel⟩:=DataW.trod_array u61 h
 rw[z61] at hl
 obtain⟨v0,v1,v2,v3,v4,v5,v6,v7,v8,v9,v10,v11,v12,v13,v14,v15,rfl⟩:=ln16 hl
 obtain⟨a0,i0,k0⟩:=fldA hel hn 0 (by omega) z57 rd57
 obtain⟨a1,i1,k1⟩:=fldA hel hn 1 (by omega) z57 rd57
 exact⟨⟨a0,a1⟩,⟨i0,i1⟩,k0.append k1⟩
theorem u9:Tryz.prog.underlying 9=some .string:=by kernel_rfl
end Go.Proofs.YtjpahkpfkohfkaaGreatDoor
namespace Go.Proofs.YtjpahkpfkohfkaaGreatDoor
open Go Go.EV
set_option maxRecDepth 100000
theorem str_one {W:World} {base:Nat} {t:TypeId} {v:Value} (ht:Tryz.prog.underlying t=some .string) (h:Value.okWide Tryz.prog W .any base t v):v.cells=#[v]:=by
 obtain⟨s,rfl⟩:=WideShapes.okWide_string ht h
 rfl
theorem event_of {x:R0} (h:Ok57 x):EventOk x:=⟨w8_iff h.1,w8_iff h.2.1,w8_iff h.2.2.1,w8_iff h.2.2.2.1,w8_iff h.2.2.2.2.2.1⟩
theorem events_of {x:S2Tannoyref11Event} (h:Ok61 x):EventOk x.a0∧EventOk x.a1:=⟨event_of h.1,event_of h.2⟩
end Go.Proofs.YtjpahkpfkohfkaaGreatDoor
