/- Part X6. -/
import Derived.Test.YtjdieimefebnfaaGreatDoorX5
import Derived.MapKept
import Derived.Laws.MakeOwn
import Derived.Laws.Build
import Derived.Laws.Externs
import Derived.Laws.IdiomStrings
import Derived.Laws.AppendOwn
import Derived.Below
import Derived.RecoverIn
import Derived.Laws.Entries
import Derived.Lib.ByteType
import Derived.WideLaws
set_option linter.all false
namespace Go.EV
open Go
theorem U8.Qed{P:Program}{G:zi}{ops:Array Oper}{st:St}{Q:Exit->St->Prop}{i:Nat}{rest:List Nat}{o:Oper}{d:Nat}{t:TypeId}{x y:Operand}{b:TypeId}{own:Bool}{z:Nat}{rows:List (List V)}
  (hi:ops[i]?=some o) (hg:E4 ops st o=some true) (ho:o.op=.binOp .eql t x y b) (hd:o.dst=some d) (hdn:W2 st.n (some d)=true) (ht:T8 P t=true) (hx:st.ev G x=some (.sl own z rows)) (hy:st.ev G y=some .Qu)
  (h1:rows=[]->U8 P G ops rest (st.put (some d) (.bool true)) Q) (h2:U8 P G ops rest (st.put (some d) (.bool false)) Q):U8 P G ops (i :: rest) st Q:=λfx γ a w hs hdf=>by
 simp only[wpOpsIn];rw[hi];simp only;rw[if_pos (K2 hs hg)];have key:∀r:Bool,(execOp a.eval o).run P w=.ok (.value (.bool r)) w->U8 P G ops rest (st.put (some d) (.bool r)) Q->o.wpIn (RF fx.ro) 0 P a w (λa' w'=>wpOpsIn (RF fx.ro) 0 P ops (L7 G fx γ st w Q) rest a' w') (L7 G fx γ st w Q):=λr hr hT=>by
  have hw:∀{next:Act->World->Prop} {Q':Exit->Act->World->Prop},next (a.put o.dst (.bool r)) w->o.wp P a w next Q':=λh=>by
   unfold Oper.wp;rw[hr];exact h
  refine Lj (hw (X4 _ _ _)) (hw ?_);rw[hd];have:=hT fx γ (a.put (some d) (.bool r)) w (hs.put hdn (.data (.bool r))) (by rw[X4];exact hdf);exact H9 (λe a2 w2 hl=>hl.grow (st:=st) ⟨.refl γ w,Zf.refl hs.u⟩) rest _ w this
 have ev : execOp a.eval o = (do let v <- (do eqGuard .eql t x y (a.eval x) (a.eval y); binOp .eql t (a.eval x) (a.eval y)); pure (.value v)) := by simp only [execOp, ho]
 have yv:=(hs.ev hy).QI;obtain⟨e,hu⟩:∃e,P.underlying t=some (.slice e):=by grind [T8]
 rcases(hs.ev hx).HB with⟨a0,xv,hr⟩|⟨B,o',cap,vs,xv,-,-,-,-⟩
 ·cases a0 with
  | some a0=>
   refine key false ?_ h2;rw[ev,xv,yv,zX];have:=(D3 (P:=P) (w:=w) (t:=t) (x:=.slice (some a0) 0 0) (y:=.slice none 0 0) (r:=false) x y (λop=>by cases op<;>simp[eqGuard]) (λd=>by simp[Op.equalIn,zO hu]) rfl rfl).1;rw[this];rfl
  | none=>
  refine key true ?_ (h1 hr);rw[ev,xv,yv,zX];have:=(D3 (P:=P) (w:=w) (t:=t) (x:=.slice none 0 0) (y:=.slice none 0 0) (r:=true) x y (λop=>by cases op<;>simp[eqGuard]) (λd=>by simp[Op.equalIn,zO hu]) rfl rfl).1;rw[this];rfl
 ·refine key false ?_ h2;rw[ev,xv,yv,zX];have:=(D3 (P:=P) (w:=w) (t:=t) (x:=.slice (some ⟨B,o',none⟩) rows.length cap) (y:=.slice none 0 0) (r:=false) x y (λop=>by cases op<;>simp[eqGuard]) (λd=>by simp[Op.equalIn,zO hu]) rfl rfl).1;rw[this];rfl
theorem Lg{st:St}{n:Nat}{ts:List (Nat×V)}(hn:st.n=n)(_:∀b,1000000<=b->st.u b=true)(ht:∀p,p∈ts->st.t p.1=p.2/\okV Qw p.2=true):N7 st ((Ext.l .normal ts []).D n).st where
 n:=hn.symm
 t:=λi=>by
  show (match ts.find? (λp=>p.1==i) with|some p=>p.2|none=>.undef)=_\/_;cases hf:ts.find? (λp=>p.1==i) with
  | none=>exact .inl rfl
  | some p=>
   obtain⟨h1,h2⟩:=P9 hf;obtain⟨h3,h4⟩:=ht p h1;subst h2;refine .inr ⟨?_,N2 (u:=Qw) (λb hb=>?_) _ (by grind)⟩
   ·show (match ts.find? (λq=>q.1==p.1) with|some p=>p.2|none=>.undef)=_;grind
   ·rw[D.Qh1];exact MC (of_decide_eq_true hb)
 b:=λ_=>.inl rfl
 p:=λb hb=>by rw[D.Qh1];exact MC (Jg hb)
def Gl(ops:Array Oper):Option TypeId:=match ops[1]? with
 | some o=>match o.op,o.dst,o.guard with
  | .binOp .eql t (.tmp 3) (.const (.slice none 0 0)) _,some 4,none=>some t
  | _,_,_=>none
 | none=>none
theorem Gi{ops:Array Oper}{t:TypeId}(h:Gl ops=some t):∃(o:Oper) (tb:TypeId),ops[1]?=some o/\o.op=.binOp .eql t (.tmp 3) (.const (.slice none 0 0)) tb/\o.dst=some 4/\o.guard=none:=by
 grind [Option.some.injEq,Gl]
def Lc:Option Code->Array Oper
 | some (.seq (.region _ o _) _)=>o
 | _=>#[]
def Lb:Option Code->Array Oper
 | some (.seq _ (.seq (.seq (.region _ o _) _) _))=>o
 | _=>#[]
def Ef:Option Code->Code
 | some (.seq _ (.seq (.seq _ (.cond _ c _)) _))=>c
 | _=>.skip
def Ki:Option Code->Code
 | some (.seq _ (.seq _ c))=>c
 | _=>.skip
theorem RE{P:Program}{G:zi}{f:FuncId}{fn:Func}{yes rest:Code}{ops0 ops1:Array Oper}{t:TypeId}{z:Nat}{α:Type}{ty:Ty α}{l:List α}{kp:List Nat}{ρ:Type}{g:T P G ρ}{r:ρ}{hx:([].all λ(p:Nat×Qd)=>!([BT.of 7 ty z ([]++l)].any λx=>x.id==p.1))=true}
  (hm:P.follows .mixedOrders=true) (hM:z < J0) (hf:P.funcs[f]?=some fn) (hb:fn.body=some (.seq (.region 0 ops0 false) (.seq (.seq (.region 1 ops1 false) (.cond (.tmp 4) yes .skip)) rest)))
  (hn:8=max fn.ntmps 1) (hr:fn.results.toList=[.tmp 2]) (z0:ops0.size=1) (z1:ops1.size=2)
  (h0:stepG P G ops0 0 (U3 8 [.sl false z (l.map ty.c)] λ_=>none)=some ((U3 8 [.sl false z (l.map ty.c)] λ_=>none).put (some 2) .Qu))
  (h1:stepG P G ops1 0 ((U3 8 [.sl false z (l.map ty.c)] λ_=>none).put (some 2) .Qu)=some (((U3 8 [.sl false z (l.map ty.c)] λ_=>none).put (some 2) .Qu).put (some 3) (.sl false z (l.map ty.c))))
  (hq:Gl ops1=some t) (ht:T8 P t=true)
  (kY:Y3 P G [2] 8 yes (Ext.l .normal [(2,.Qu)] []) (.done ():T P G Unit) (λ_=>Ext.l .ret [(2,.Qu)] []))
  (kR:Y3 P G kp 8 rest (Ext.l .normal [(0,.sl false z (l.map ty.c)),(2,.Qu)] []) g (λ_=>Ext.of .ret [(2,.ref 7 0 ([]++l).length)] [] [BT.of 7 ty z ([]++l)] hx))
  (hE:(Ext.of .ret [(2,.ref 7 0 ([]++l).length)] [] [BT.of 7 ty z ([]++l)] hx).ok=true) (hrun:g.run=some r) :
  QR P G f [.sl false z (l.map ty.c)] (Qm []) (.ref 7 0 ([]++l).length) (Qm [(7,⟨z,true,([]++l).map ty.c⟩)]):=by
 obtain⟨o,tb,hi,ho,hd,hg⟩:=Gi hq;refine RR (n:=8) hf hb hn (by rfl) ?_;rw[hr];have e0:Qm []=(λ_=>none:zj):=rfl;rw[e0];refine TV.seq (TV.region ?_);rw[z0];refine U8.cons (ZZ h0) (U8.nil ?_);show TV P G _ _ _;refine TV.seq (TV.seq (TV.region ?_));rw[z1];refine U8.cons (ZZ h1) ?_;refine U8.Qed (rows:=l.map ty.c) (own:=false) (z:=z) hi (by unfold E4;rw[hg]) ho hd rfl ht rfl rfl (λhnil=>U8.nil ?_) (U8.nil ?_)
 ·
  have hl:l=[]:=List.map_eq_nil_iff.1 hnil;subst hl;show TV P G _ _ _;refine TV.cond (t:=true) rfl ?_;refine TV.ghost (QU.forget (Lg (n:=8) (ts:=[(2,.Qu)]) rfl (λb hb=>by simp[U3,St.put,St.QG,Qw,hb]) (λp hp=>?_))) ?_
  ·simp only[wG] at hp;subst hp;exact⟨rfl,rfl⟩
  refine TV.rel (kY.tv hm (r:=()) rfl rfl) λe s he=>?_;obtain⟨rfl,hs⟩:=he;refine Rel.ghost hs (Rel.ghost (QU.pF (d:=7) (t:=2) z hM rfl rfl) (Rel.of ?_));show Pl P _ _ _ _ _;refine⟨.inr rfl,rfl,λb k hk=>?_⟩;simp only[Qm,List.find?] at hk;split at hk
  ·rename_i x hx';split at hx'
   ·rename_i hb';simp only[zG] at hx' hk;subst hx';subst hk;have:(7:Nat)=b:=by grind
    subst this;rfl
   ·simp at hx'
  ·simp at hk
 ·show TV P G _ _ _;refine TV.cond (t:=false) rfl (TV.skip ?_);show TV P G _ _ _;refine TV.ghost (QU.forget (Lg (n:=8) (ts:=[(0,.sl false z (l.map ty.c)),(2,.Qu)]) rfl (λb hb=>by simp[U3,St.put,St.QG,Qw,hb]) (λp hp=>?_))) ?_
  ·simp only[zY,wj,or_false] at hp;rcases hp with rfl|rfl
   ·exact⟨rfl,rfl⟩
   ·exact⟨rfl,rfl⟩
  refine TV.rel (kR.tv hm hrun hE) λe s he=>?_;obtain⟨rfl,hs⟩:=he;refine Rel.ghost hs (Rel.of ?_);show Pl P _ _ _ _ _;refine⟨.inr rfl,rfl,λb k hk=>?_⟩;exact hk
def I4(agg:Bool)(l:List V):V:=match agg with
 | true=>.agg l
 | false=>l.headD .undef
def R5(P:Program)(t:TypeId)(xs ys:List V):Option Bool:=
 match P.underlying t with
 | some (.int _)=>match xs,ys with
  | [.int k a],[.int k' b]=>if k=k' then some (a==b) else none
  | _,_=>none
 | some .string=>match xs,ys with
  | [.str a],[.str b]=>some (decide (a=b))
  | _,_=>none
 | some (.struct _)=>Hu P t xs ys
 | some (.array _ _)=>Ms P t xs ys
 | _=>none
theorem Ll{P:Program}{t:TypeId}{k:IntKind}(hu:P.underlying t=some (.int k)){xs ys:List V}{q:Bool}(h:R5 P t xs ys=some q):∃k1 a b,xs=[.int k1 a]/\ys=[.int k1 b]/\q=(a==b):=by
 unfold R5 at h;grind
theorem La{P:Program}{t:TypeId}(hu:P.underlying t=some .string){xs ys:List V}{q:Bool}(h:R5 P t xs ys=some q):∃a b,xs=[.str a]/\ys=[.str b]/\q=decide (a=b):=by
 unfold R5 at h;grind
def M6(P:Program)(t:TypeId):Bool:=match P.underlying t with
 | some (.struct _)=>true
 | some (.array _ _)=>true
 | _=>false
theorem DG{P:Program}{t:TypeId}(h:M6 P t=true):(∃fs,P.underlying t=some (.struct fs))\/∃n e,P.underlying t=some (.array n e):=by
 grind [M6]
theorem By{P:Program}{t:TypeId}{xs ys:List V}{q:Bool}(h:R5 P t xs ys=some q):(∃k,P.underlying t=some (.int k))\/P.underlying t=some .string\/M6 P t=true:=by
 unfold R5 at h;grind [M6]
theorem Ox{P:Program}{γ:Gh}{w:World}{bs:zj}{u:zl}{t:TypeId}{xs ys:List V}{r:Bool}(h:Hu P t xs ys=some r)
  {x y:Value} (hx:Qz γ w bs u (.agg xs) x) (hy:Qz γ w bs u (.agg ys) y):(Op.equal t x y).run P w=.ok r w:=by
 unfold Hu at h;split at h
 ·rename_i fs hu;split at h
  ·rename_i hc;simp only[zL,wC] at hc;obtain⟨⟨hf,hp⟩,hg⟩:=hc;obtain⟨vx,rfl,lx,cx⟩:=hx.QD;obtain⟨vy,rfl,ly,cy⟩:=hy.QD;have hfo:P.fieldsOf t=fs:=by simp[Program.fieldsOf,hu]
   show (Op.equalIn 10000 t (.agg vx.toArray) (.agg vy.toArray)).run P w=.ok r w;rw[show (10000:Nat)=9999+1 from rfl,run_equalIn_struct w 9999 t _ _ (by rw[hfo];exact hu) hp,hfo];refine UL (γ:=γ) (bs:=bs) (u:=u) 100 9999 _ _ fs.toList 0 xs ys r (by omega) hf h ?_ ?_
   ·intro i c hc;obtain⟨hlt,_⟩:=wF.1 hc;have hv:vx[i]?=some (vx[i]'(by omega)):=(by grind);grind
   ·intro i c hc;obtain⟨hlt,_⟩:=wF.1 hc;have hv:vy[i]?=some (vy[i]'(by omega)):=(by grind);grind
  ·simp at h
 ·simp at h
theorem Od{P:Program}{γ:Gh}{w:World}{bs:zj}{u:zl}{t:TypeId}{xs ys:List V}{r:Bool}(ha:M6 P t=true)(h:R5 P t xs ys=some r)
  {x y:Value} (hx:Qz γ w bs u (.agg xs) x) (hy:Qz γ w bs u (.agg ys) y):(Op.equal t x y).run P w=.ok r w:=by
 unfold R5 at h;grind [DG,Ox,KY]
theorem JA{P:Program}{γ:Gh}{w:World}{bs:zj}{u:zl}(em:Bool) :
  ∀(n e:Nat) (xs:Array Value) (fs:List Field) (j:Nat) (cs:List V),n<=e->K8 P n fs j cs=true->(∀(i:Nat) (c:V),cs[i]?=some c->∃v,xs[j+i]?=some v/\Qz γ w bs u c v)->
   (forIn fs PUnit.unit (λf _ => if f.name ≠ "_" then (do
     let c <-part f.type xs f.offset
     Instr.checkKey em e f.type c
     pure (ForInStep.yield PUnit.unit)) else pure (ForInStep.yield PUnit.unit)):Sem PUnit).run P w=.ok PUnit.unit w
 | 0,_,_,_,_,_,_,hf,_=>by simp[K8] at hf
 | n+1,0,_,_,_,_,hn,_,_=>by omega
 | n+1,e+1,xs,[],j,cs,hn,hf,hx=>by simp
 | n+1,e+1,xs,f :: fs,j,cs,hn,hf,hx=>by
  simp only[K8,zL,beq_iff_eq,bne_iff_ne,ne_eq] at hf;obtain⟨⟨ho,hname⟩,hk⟩:=hf;have shift:∀(m:Nat) (i:Nat) (c:V),(cs.drop m)[i]?=some c->∃v,xs[j+m+i]?=some v/\Qz γ w bs u c v:=(by grind);have fin:∀(m:Nat) (x:Value),K8 P n fs (j+m) (cs.drop m)=true->(part f.type xs f.offset).run P w=.ok x w->(Instr.checkKey em (e+1) f.type x).run P w=.ok () w->
    (forIn (f :: fs) PUnit.unit (λf _ => if f.name ≠ "_" then (do
     let c <-part f.type xs f.offset
     Instr.checkKey em (e+1) f.type c
     pure (ForInStep.yield PUnit.unit)) else pure (ForInStep.yield PUnit.unit)):Sem PUnit).run P w=.ok PUnit.unit w:=by
   intro m x h1 h2 h3;have ih:=JA em n (e+1) xs fs (j+m) (cs.drop m) (by omega) h1 (shift m);simp_all
  have part1:∀{d:TypeDesc} (z:Value),P.underlying f.type=some d->(∀q,d≠.struct q)->(∀p q,d≠.array p q)->xs[j]?=some z->(part f.type xs f.offset).run P w=.ok z w:=by
   intro d z hu h1 h2 hz;cases d<;>first|exact absurd rfl (h1 _)|exact absurd rfl (h2 _ _)|simp[part,W9 hu,ho,hz]
  split at hk
  ·rename_i gs hu;split at hk
   rotate_left
   ·simp at hk
   rename_i i hi;simp only[zL,wC,zM] at hk;obtain⟨⟨⟨_,hlen⟩,hin⟩,hrest⟩:=hk;have px:(part f.type xs f.offset).run P w=.ok (.agg (xs.extract j (j+i.size))) w:=by simp[part,W9 hu,sizeOf,typeInfo,hi,ho]
   refine fin i.size _ hrest px ?_;have inner:=JA (γ:=γ) (w:=w) (bs:=bs) (u:=u) em n e (xs.extract j (j+i.size)) gs.toList 0 (cs.take i.size) (by omega) hin (by grind);rw[Instr.checkKey];simp_all [zX,zO,zZ,Array.forIn_toList,wI]
  ·rename_i ik hu;split at hk
   rotate_left
   ·simp at hk
   rename_i k a cs;obtain⟨x,h0,hxr⟩:=hx 0 _ rfl;have:=hxr.Qf;subst this;exact fin 1 _ hk (part1 _ hu (by simp) (by simp) h0) (by simp[Instr.checkKey,zO hu])
  ·rename_i hu;split at hk
   rotate_left
   ·simp at hk
   obtain⟨x,h0,hxr⟩:=hx 0 _ rfl;exact fin 1 _ hk (part1 _ hu (by simp) (by simp) h0) (by simp[Instr.checkKey,zO hu])
  ·rename_i hu;split at hk
   rotate_left
   ·simp at hk
   obtain⟨x,h0,hxr⟩:=hx 0 _ rfl;exact fin 1 _ hk (part1 _ hu (by simp) (by simp) h0) (by simp[Instr.checkKey,zO hu])
  ·simp at hk
section
variable {P:Program} {γ:Gh} {w:World} {bs:zj} {u:zl}
theorem Oi{t:TypeId}{xs:List V}(h:(R5 P t xs xs).isSome=true){v:Value}(hr:Qz γ w bs u (I4 (M6 P t) xs) v)(em:Bool):(Instr.checkKey em 10000 t v).run P w=.ok () w:=by
 obtain⟨q,h⟩:=Option.isSome_iff_exists.1 h;unfold R5 at h;split at h
 ·rename_i k hu;have ha:M6 P t=false:=by simp[M6,hu]
  rw[ha] at hr;split at h
  ·have:=Qz.Qf (hr:Qz γ w bs u (.int _ _) v);subst this;exact(λn=>by simp[Instr.checkKey,zO hu]:∀n,(Instr.checkKey em (n+1) t _).run P w=.ok () w) 9999
  ·simp at h
 ·rename_i hu;have ha:M6 P t=false:=by simp[M6,hu]
  rw[ha] at hr;split at h
  ·have:=Qz.QE (hr:Qz γ w bs u (.str _) v);subst this;exact(λn=>by simp[Instr.checkKey,zO hu]:∀n,(Instr.checkKey em (n+1) t _).run P w=.ok () w) 9999
  ·simp at h
 ·rename_i fs hu;have ha:M6 P t=true:=by simp[M6,hu]
  rw[ha] at hr;obtain⟨vs,rfl,lx,cx⟩:=(hr:Qz γ w bs u (.agg xs) v).QD;unfold Hu at h;rw[hu] at h;simp only at h;split at h
  ·rename_i hc;simp only[zL,wC] at hc;rw[show (10000:Nat)=9999+1 from rfl,Instr.checkKey];simp only[zX,zO hu,zZ];rw[<-Array.forIn_toList];have key:=JA (γ:=γ) (w:=w) (bs:=bs) (u:=u) em 100 9999 vs.toArray fs.toList 0 xs (by omega) hc.1.1 λi c hc=>by
    have hlt:=(wF.1 hc).1;have hv:vs[i]?=some (vs[i]'(by omega)):=(by grind);grind
   simp_all
  ·simp at h
 ·rename_i n e hu;have ha:M6 P t=true:=by simp[M6,hu]
  rw[ha] at hr;obtain⟨vs,rfl,lx,cx⟩:=(hr:Qz γ w bs u (.agg xs) v).QD;unfold Ms at h;rw[hu] at h;simp only at h;split at h
  ·rename_i hc;simp only[zL,wC,zM] at hc;obtain⟨⟨⟨⟨hn,hf⟩,h1⟩,hi⟩,hg⟩:=hc;obtain⟨i,hi⟩:=Option.isSome_iff_exists.1 hi;rw[show (10000:Nat)=9998+1+1 from rfl,Instr.checkKey];simp only[zX,zO hu,zZ];simp only[Std.Legacy.Range.forIn_eq_forIn_range',Std.Legacy.Range.size,Nat.sub_zero,Nat.add_one_sub_one,Nat.div_one];have key:=Wy (P:=P) (w:=w) em 9998 e vs.toArray hi h1 xs 0 hf (by simp[lx]);grind [Result.andThen_ok,Sem.run_pure]
  ·simp at h
 ·simp at h
def YW:List Bool->List MapEntry->Nat->Option (Nat×Value)
 | q :: qs,e :: es,i=>match q with
  | true=>some (i,e.val)
  | false=>YW qs es (i+1)
 | _,_,_=>none
theorem DR{α:Type}(p:α->Bool):∀(l:List α) (es:List MapEntry) (i:Nat),es.length=l.length->
  YW (l.map p) es i=match l.findIdx? p with|some j=>(es[j]?).map λe=>(i+j,e.val)|none=>none
 | [],[],i,_=>rfl
 | [],e :: es,i,h=>by simp at h
 | x :: l,[],i,h=>by simp at h
 | x :: l,e :: es,i,h=>by
  simp only[wE,YW,List.findIdx?_cons];cases hp:p x with
  | true=>simp
  | false=>
   simp only[Bool.false_eq_true,if_false];rw[DR p l es (i+1) (by simpa using h)];grind
theorem Ft{t:TypeId}{xs:List V}{kv:Value}(hk:Qz γ w bs u (I4 (M6 P t) xs) kv)(es:List MapEntry)(qs:List Bool)
  (hl:qs.length=es.length) (h:∀(j:Nat) (e:MapEntry),es[j]?=some e->∃q ys,qs[j]?=some q/\R5 P t xs ys=some q/\Qz γ w bs u (I4 (M6 P t) ys) e.key) (hs:(R5 P t xs xs).isSome=true) :
  (Instr.findKey t kv es).run P w=.ok (YW qs es 0) w:=by
 obtain⟨q0,hs⟩:=Option.isSome_iff_exists.1 hs;have now:∀d,P.underlying t=some d->(∀(j:Nat) (e:MapEntry),es[j]?=some e->∃q,qs[j]?=some q/\Instr.sameNow d kv e.key=some q)->(Instr.findKey t kv es).run P w=.ok (YW qs es 0) w:=λd hu hq=>by
  refine MapKept.run_findKey hu ?_;have gen:∀(es:List MapEntry) (qs:List Bool) (i:Nat),qs.length=es.length->(∀(j:Nat) (e:MapEntry),es[j]?=some e->∃q,qs[j]?=some q/\Instr.sameNow d kv e.key=some q)->Instr.findNow d kv es i=some (YW qs es i):=by
   intro es;induction es with
   | nil=>intro qs i hl _;cases qs with|nil=>rfl|cons=>simp at hl
   | cons e es ih=>
    intro qs i hl hq;cases qs with
    | nil=>simp at hl
    | cons q qs=>
     obtain⟨q',h1,h2⟩:=hq 0 e rfl;simp only[qj,zG] at h1;subst h1;simp only[Instr.findNow,h2,YW];cases q with
     | true=>rfl
     | false=>exact ih qs (i+1) (by simpa using hl) λj e' he=>by simpa using hq (j+1) e' (by simpa using he)
  grind
 rcases By hs with⟨k,hu⟩|hu|ha
 ·have ha:M6 P t=false:=by simp[M6,hu]
  rw[ha] at hk;obtain⟨k1,a,_,rfl,_⟩:=Ll hu hs;have:=Qz.Qf (hk:Qz γ w bs u (.int k1 a) kv);subst this;refine now _ hu λj e he=>?_;obtain⟨q,ys,h1,h2,h3⟩:=h j e he;refine⟨q,h1,?_⟩;obtain⟨k2,a2,b2,e1,rfl,rfl⟩:=Ll hu h2;simp only[List.cons.injEq,V.int.injEq,and_true] at e1;obtain⟨rfl,rfl⟩:=e1;rw[ha] at h3;rw[Qz.Qf (h3:Qz γ w bs u (.int k1 b2) e.key)];simp[Instr.sameNow]
 ·have ha:M6 P t=false:=by simp[M6,hu]
  rw[ha] at hk;obtain⟨a,_,rfl,_⟩:=La hu hs;have:=Qz.QE (hk:Qz γ w bs u (.str a) kv);subst this;refine now _ hu λj e he=>?_;obtain⟨q,ys,h1,h2,h3⟩:=h j e he;refine⟨q,h1,?_⟩;obtain⟨a2,b2,e1,rfl,rfl⟩:=La hu h2;simp only[List.cons.injEq,V.str.injEq,and_true] at e1;subst e1;rw[ha] at h3;rw[Qz.QE (h3:Qz γ w bs u (.str b2) e.key)];simp only[Instr.sameNow,zG];exact Bool.eq_iff_iff.2 (by rw[MapKept.bytes_beq];simp)
 ·rw[ha] at hk;have e1:(Instr.findKey t kv es).run P w=(Instr.findAsking t kv es).run P w:=by
   rcases DG ha with⟨fs,hu⟩|⟨n,e,hu⟩
   ·cases es with
    | nil=>simp[Instr.findKey,zO hu,Instr.findNow,Instr.findAsking]
    | cons e es=>simp[Instr.findKey,zO hu,Instr.findNow,Instr.sameNow]
   ·cases es with
    | nil=>simp[Instr.findKey,zO hu,Instr.findNow,Instr.findAsking]
    | cons e es=>simp[Instr.findKey,zO hu,Instr.findNow,Instr.sameNow]
  rw[e1];have gen:∀(es:List MapEntry) (qs:List Bool) (i:Nat),qs.length=es.length->(∀(j:Nat) (e:MapEntry),es[j]?=some e->∃q,qs[j]?=some q/\(Op.equal t kv e.key).run P w=.ok q w)->(Instr.findAsking t kv es i).run P w=.ok (YW qs es i) w:=by
   intro es;induction es with
   | nil=>intro qs i hl _;cases qs with|nil=>rfl|cons=>simp at hl
   | cons e es ih=>
    intro qs i hl hq;cases qs with
    | nil=>simp at hl
    | cons q qs=>
     obtain⟨q',h1,h2⟩:=hq 0 e rfl;simp only[qj,zG] at h1;subst h1;simp only[Instr.findAsking,zX,h2,zZ,YW];cases q with
     | true=>simp
     | false=>simpa using ih qs (i+1) (by simpa using hl) λj e' he=>by simpa using hq (j+1) e' (by simpa using he)
  refine gen es qs 0 hl λj e he=>?_;obtain⟨q,ys,h1,h2,h3⟩:=h j e he;refine⟨q,h1,?_⟩;rw[ha] at h3;exact Od ha h2 hk h3
end
theorem Qs.Qzl{G:zi}{γ:Gh}{st:St}{tmps:Array Value}{w:World}(h:Qs G γ st tmps w){d z:Nat}(hM:J0<=z)(hu:st.u d=false) :
  Qs G (γ.add d w.heap.size) (st.Qj d ⟨z,true,[]⟩) tmps (w.alloc (.map #[] 0))/\Qe γ w (γ.add d w.heap.size) (w.alloc (.map #[] 0))/\
   G7 γ st.b st.u (γ.add d w.heap.size) (st.Qj d ⟨z,true,[]⟩).b (st.Qj d ⟨z,true,[]⟩).u:=by
 have hh:(w.alloc (.map #[] 0)).heap=w.heap.push (.map #[] 0):=rfl;have g:=Qe.push (γ:=γ) (w1:=w.alloc (.map #[] 0)) hh ⟨rfl,rfl,rfl⟩ d;have bl:G7 γ st.b st.u (γ.add d w.heap.size) (st.Qj d ⟨z,true,[]⟩).b (st.Qj d ⟨z,true,[]⟩).u:=h.IN hu λb hb=>by simp only[Gh.add];rw[if_neg hb]
 refine⟨⟨h.n,λi=>(h.t i).mono g bl,λb k hk=>?_,λb k hk=>?_,h.g.grow g,λB x hx=>?_⟩,g,bl⟩
 ·simp only[St.Qj] at hk;by_cases hb:b=d
  ·subst hb;rw[if_pos rfl] at hk;simp only[zG] at hk;subst hk;refine .inr (.inl ⟨hM,w.heap.size,#[],0,by simp[Gh.add],by simp[Gh.add],by rw[hh];simp,rfl,λr hr=>by simp at hr,⟨λe he=>by simp at he,by simp,λe he=>by simp at he⟩,λi c hc=>by simp at hc⟩)
  ·rw[if_neg hb] at hk;have hlt:∀B x,γ.own B=some x->B < w.heap.size/\B≠w.heap.size:=λB x hx=>by have:=h.o B x hx;omega
   rcases h.b b k hk with⟨v1,v2⟩|hm|⟨hM2,B,o,cs',e',h1,h2,h3,h4,h5,h6,h7,h8⟩
   ·exact .inl ⟨by simp_all [if_neg,Gh.add],v2⟩
   ·exact .inr (.inl (hm.same (by simp only[Gh.add];rw[if_neg hb]) (λB _ hB=>⟨by simp_all [if_neg,Gh.add],(by grind)⟩) λc v hr=>hr.mono g bl))
   ·have hne:=(hlt B _ h2).2;refine .inr (.inr ⟨hM2,B,o,cs',e',by simp_all [if_neg,Gh.add],by simp_all [if_neg,Gh.add],h3.of_eq (by grind),h4,h5,λi c hc=>?_,
     by simp_all [if_neg,Gh.add],by simp_all [if_neg,Gh.add]⟩)
    obtain⟨v,a1,a2,a3,a4⟩:=h6 i c hc;refine⟨v,a1,a2.mono g bl,a3,?_⟩;replace a4:=a4.grow g (λB hB=>by
     simp_all [if_neg,zQ,Gh.add])
    unfold D6 at a4 ⊢;split at a4
    ·rcases a4 with a4|a4
     ·exact .inl a4
     simp_all [if_neg,Gh.add]
    ·trivial
 ·simp only[St.Qj] at hk ⊢;by_cases hb:b=d
  ·subst hb;simp
  ·rw[if_neg hb] at hk;rw[if_neg hb];exact h.u b k hk
 ·simp only[Gh.add] at hx;rw[hh];simp only[Array.size_push];split at hx
  ·omega
  ·have:=h.o B x hx;omega
theorem Qe.SQ{γ:Gh}{w:World}{B clock clock':Nat}{es es':Array MapEntry}{x:M3}(hheap:w.heap[B]?=some (.map es clock))(hown:γ.own B=some x):Qe γ w γ (w.putObj B (.map es' clock')) where
 os:=rfl
 tape:=rfl
 output:=rfl
 size:=by simp
 Pf:=(by grind [Hw,World.putObj_heap_other,cellAt,World.cell?])
 Qr:=λ_ _=>zQ _
 free:=λB' _ ho=>⟨(by grind [World.putObj_heap_other]),ho,rfl⟩
 room:=λB' cs e fz hc=>⟨cs,fz,by
  grind [World.putObj_heap_other],rfl,.inl rfl⟩
theorem Qs.SQ{G:zi}{γ:Gh}{st:St}{tmps:Array Value}{w:World}(h:Qs G γ st tmps w){b:Nat}{k:Qd}(hk:st.b b=some k){B clock clock':Nat}{es es':Array MapEntry}{rows':List (List V)}
  (hM:J0<=k.size) (hloc:γ.loc b=some (B,0)) (hown:γ.own B=some (.Zs b)) (hheap:w.heap[B]?=some (.map es clock)) (hn:es'.size=rows'.length)
  (hz:∀r,r∈rows'->r.length=mwd k.size) (hes:Po k.size es'/\pA es' clock')
  (hc:∀(i:Nat) (c:V),rows'.flatten[i]?=some c->∃v,(es'.toList.flatMap (R7 k.size))[i]?=some v/\Qz γ w st.b st.u c v/\v.oneCell'=true) :
  Qs G γ (st.Qj b ⟨k.size,k.Ql,rows'⟩) tmps (w.putObj B (.map es' clock'))/\Qe γ w γ (w.putObj B (.map es' clock'))/\G7 γ st.b st.u γ (st.Qj b ⟨k.size,k.Ql,rows'⟩).b (st.Qj b ⟨k.size,k.Ql,rows'⟩).u:=by
 have g:Qe γ w γ (w.putObj B (.map es' clock')):=Qe.SQ hheap hown;have hB:B < w.heap.size:=h.o B _ hown;have bl:G7 γ st.b st.u γ (st.Qj b ⟨k.size,k.Ql,rows'⟩).b (st.Qj b ⟨k.size,k.Ql,rows'⟩).u:=by
  refine⟨(by grind [St.Qj]),λb' hb hn=>?_,λb' k' hk'=>?_⟩
  ·have:b'≠b:=(by grind);simp_all [if_neg,St.Qj]
  ·by_cases hb:b'=b
   ·subst hb;rw[hk] at hk';simp only[zG] at hk';subst hk';exact⟨by simp[St.Qj],.inr ⟨⟨k.size,k.Ql,rows'⟩,by simp[St.Qj],rfl,λhs=>absurd hs (Nat.not_lt_of_le hM),rfl⟩⟩
   ·exact⟨by simp only[St.Qj];rw[if_neg hb];exact h.u b' k' hk',.inr ⟨k',by simp_all [if_neg,St.Qj],rfl,λ_=>rfl,rfl⟩⟩
 refine⟨⟨h.n,λi=>(h.t i).mono g bl,λb' k' hk'=>?_,λb' k' hk'=>?_,h.g.grow g,λB' x hx=>by simpa using h.o B' x hx⟩,g,bl⟩
 ·simp only[St.Qj] at hk';by_cases hb:b'=b
  ·subst hb;rw[if_pos rfl] at hk';simp only[zG] at hk';subst hk';refine .inr (.inl ⟨hM,B,es',clock',hloc,hown,World.putObj_heap_same hB,hn,hz,hes,λi c hi=>?_⟩);obtain⟨v,h1,h2,h3⟩:=hc i c hi;exact⟨v,h1,h2.mono g bl,h3⟩
  ·rw[if_neg hb] at hk';have hne:∀B2,γ.own B2=some (.Zs b')->B2≠B:=(by grind);rcases h.b b' k' hk' with⟨v1,v2⟩|hm|⟨hM2,B2,o2,cs2,e2,h1,h2,h3,h4,h5,h6,h7,h8⟩
   ·exact .inl ⟨v1,v2⟩
   ·exact .inr (.inl (hm.same rfl (by grind [World.putObj_heap_other]) λc v hr=>hr.mono g bl))
   refine .inr (.inr ⟨hM2,B2,o2,cs2,e2,h1,h2,h3.of_eq (World.putObj_heap_other (hne B2 h2)),h4,h5,λi c hc=>?_,h7,h8⟩);obtain⟨v,a1,a2,a3,a4⟩:=h6 i c hc;exact⟨v,a1,a2.mono g bl,a3,a4.grow g⟩
 ·simp only[St.Qj] at hk' ⊢;by_cases hb:b'=b
  ·subst hb;simp
  ·rw[if_neg hb] at hk';rw[if_neg hb];exact h.u b' k' hk'
theorem SN{z:Nat}{es:Array MapEntry}(h:Po z es){e:MapEntry}(he:e∈es):(R7 z e).length=mwd z:=by
 obtain⟨h1,_,h3,_⟩:=h e he;simp[R7,h1,h3,mwd]
theorem Wb{z:Nat}{es:Array MapEntry}(h:Po z es)(i j:Nat)(hj:j < mwd z):(es.toList.flatMap (R7 z))[i * mwd z+j]?=(es[i]?).bind λe=>(R7 z e)[j]?:=by
 rw[List.flatMap_def];have gen:∀(rows:List (List Value)),(∀r,r∈rows->r.length=mwd z)->∀i,rows.flatten[i * mwd z+j]?=(rows[i]?).bind (·[j]?):=by
  intro rows;induction rows with
  | nil=>grind
  | cons r rows ih=>
   intro hr i;have hl:=hr r (by simp);cases i with
   | zero=>grind
   | succ i=>
    grind
 rw[gen _ (λr hr=>by obtain⟨e,he,rfl⟩:=zP.1 hr;grind [SN])];grind
theorem WD.row{γ:Gh}{w:World}{bs:zj}{u:zl}{z:Nat}{es:Array MapEntry}{rows:List (List V)}(hlen:es.size=rows.length)(hz:∀r,r∈rows->r.length=mwd z)(hes:Po z es)
  (hc:∀(i:Nat) (c:V),rows.flatten[i]?=some c->∃v,(es.toList.flatMap (R7 z))[i]?=some v/\Qz γ w bs u c v/\v.oneCell'=true) {i:Nat} {r:List V} (hr:rows[i]?=some r) :
  ∃e,es[i]?=some e/\Qz γ w bs u (I4 (mX z) (r.take (Xi z))) e.key/\Qz γ w bs u (I4 (GP z) (r.drop (Xi z))) e.val:=by
 have hi:i < es.size:=by grind
 have he:es[i]?=some es[i]:=(by grind)
 have hrl:=hz r (wd hr);obtain⟨k1,k2,k3,k4⟩:=hes es[i] (Array.getElem_mem hi);have cell:∀(j:Nat) (c:V),r[j]?=some c->∃v,(R7 z es[i])[j]?=some v/\Qz γ w bs u c v:=λj c hj=>by
  have hjl:j < mwd z:=by grind
  obtain⟨v,v1,v2,_⟩:=hc (i * mwd z+j) c (by grind [H2]);grind [Wb]
 have pack:∀(a:Bool) (l:List V) (v:Value),NO a (X7 a v)=v->(X7 a v).length=l.length->(∀(j:Nat) (c:V),l[j]?=some c->∃x,(X7 a v)[j]?=some x/\Qz γ w bs u c x)->Qz γ w bs u (I4 a l) v:=λa l v hp hl hx=>by
  cases a with
  | true=>
   have hv:v=.agg (X7 true v).toArray:=hp.symm;rw[hv];refine .agg l _ hl λj c x hj hxj=>?_;grind
  | false=>
   cases l with
   | nil=>simp[X7] at hl
   | cons c l=>
    obtain⟨y,y1,y2⟩:=hx 0 c rfl;simp only[X7,qj,zG] at y1;subst y1;exact y2
 refine⟨es[i],he,pack _ _ _ k2 (by grind [List.length_take,mwd]) (λj c hj=>?_),pack _ _ _ k4 (by grind [List.length_drop,mwd]) (λj c hj=>?_)⟩
 ·grind [List.getElem?_append_left,R7]
 grind [List.getElem?_append_right,Nat.add_sub_cancel_left,R7]
def Iu{α β:Type}(l:List α)(p:α->Bool)(f:α->β)(z:β):β:=match l.findIdx? p with
 | some j=>match l[j]? with
  | some x=>f x
  | none=>z
 | none=>z
def HM(P:Program)(t:TypeId):Option V:=match P.info? t with
 | some i=>match i.zero with
  | some (.agg a)=>(a.toList.mapM KJ).map .agg
  | some v=>KJ v
  | none=>none
 | none=>none
theorem Fc{P:Program}{γ:Gh}{w:World}{bs:zj}{u:zl}{t:TypeId}{c:V}(h:HM P t=some c):∃v,(zeroValue t).run P w=.ok v w/\Qz γ w bs u c v:=by
 unfold HM at h;split at h
 ·rename_i i hi;split at h
  ·rename_i a hz;obtain⟨l,h1,rfl⟩:=zJ.1 h;have:=Mr (γ:=γ) (w:=w) (bs:=bs) (u:=u) h1;refine⟨.agg a,by simp[zeroValue,typeInfo,hi,hz],?_⟩;have e:(.agg a:Value)=.agg a.toList.toArray:=by simp
   rw[e];exact .agg l _ (by have:=this.1;grind) λj c v hc hv=>this.2 j c v hc (by simpa using hv)
  ·rename_i v _ hz;exact⟨v,by simp[zeroValue,typeInfo,hi,hz],.data (Dy h)⟩
  ·simp at h
 ·simp at h
section
variable {P:Program} {G:zi}
def Qh.makeMap(t:TypeId)(d z:Nat)(hz:J0<=z):Qh P G Unit where
 op:=.makeMap t none
 dst:=some d
 ZN:=[]
 Zp:=[]
 o:=some ()
 ws:=λ_=>[.b d (some ⟨z,true,[]⟩),.t d (.mp d)]
 dt:=[]
 JN:=(by grind)
 ok:=λ_ _ x st hop hdst _ _ hd=>M7 λγ a w hs=>by
  obtain⟨h1,h2⟩:=hd d rfl;have key:=hs.Qzl hz h2;refine⟨.map (some w.heap.size),w.alloc (.map #[] 0),γ.add d w.heap.size,by simp[execOp,hop,Instr.makeMap],key.2.1,key.2.2.Ue,?_⟩;have:=key.1.put (a:=a) (dst:=some d) (c:=.mp d) (v:=.map (some w.heap.size)) (by simpa[W2,St.Qj] using h1) (.mp d w.heap.size ⟨z,true,[]⟩ (by simp[St.Qj]) (by simp[Gh.add]) hz);rw[hdst];exact this
theorem Ay{γ:Gh}{w:World}{bs:zj}{u:zl}{a:Bool}{l:List V}{v:Value}(h:Qz γ w bs u (I4 a l) v)(h1:a=false->l.length=1) :
  (X7 a v).length=l.length/\NO a (X7 a v)=v/\∀(j:Nat) (c:V),l[j]?=some c->∃x,(X7 a v)[j]?=some x/\Qz γ w bs u c x:=by
 cases a with
 | true=>
  obtain⟨vs,rfl,e1,e2⟩:=(h:Qz γ w bs u (.agg l) v).QD;refine⟨by simpa[X7] using e1,by simp[NO,X7],λj c hj=>?_⟩;have hlt:j < vs.length:=by grind
  have hx:vs[j]?=some vs[j]:=(by grind);grind [X7]
 | false=>
  have:=h1 rfl;match l,this,h with
  | [c],_,h=>
   refine⟨rfl,rfl,λj c' hj=>?_⟩;cases j with
   | zero=>simp at hj;subst hj;exact⟨v,rfl,h⟩
   | succ j=>simp at hj
theorem An{z:Nat}{es:Array MapEntry}{rows:List (List V)}{R:V->Value->Prop}(hes:Po z es)(hlen:es.size=rows.length)(hz:∀r,r∈rows->r.length=mwd z) :
  (∀(i:Nat) (c:V),rows.flatten[i]?=some c->∃v,(es.toList.flatMap (R7 z))[i]?=some v/\R c v)↔
   ∀(q:Nat) (r:List V) (e:MapEntry),rows[q]?=some r->es[q]?=some e->∀(j:Nat) (c:V),r[j]?=some c->∃v,(R7 z e)[j]?=some v/\R c v:=by
 constructor
 ·intro h q r e hr he j c hj;have hjl:j < mwd z:=by grind
  obtain⟨v,v1,v2⟩:=h (q * mwd z+j) c (by grind [H2]);grind [Wb]
 ·intro h i c hc;have hpos:0 < mwd z:=by
   grind [Nat.eq_zero_or_pos,List.flatten_eq_nil_iff,List.length_eq_zero_iff,mwd,trans]
  have e:i=(i / mwd z) * mwd z+i % mwd z:=by grind [Nat.mul_comm,Nat.div_add_mod,mwd]
  have hm:=Nat.mod_lt i hpos;rw[e,H2 rows hz _ _ hm] at hc;obtain⟨r,hr,hc⟩:=wq.1 hc;have hq:i / mwd z < es.size:=by grind
  have he:es[i / mwd z]?=some es[i / mwd z]:=(by grind);grind [Wb]
end
def Qh.Uf{P:Program}{G:zi}{ty:Ty Int}{t e:TypeId}{k:IntKind}(ol oc:Operand)(d n:Nat)(by_:Nat)(ht:P.underlying t=some (.slice e):=by kernel_rfl)
    (hi:(P.info? e).map (λi=>(i.size,i.bytes))=some (1,by_):=by kernel_rfl) (hz:(P.info? e).bind TypeInfo.zero=some (.int k 0):=by kernel_rfl) (hb:by_ * n<=281474976710656/\n<=9223372036854775807:=by decide) (hc:∀x,ty.c x=[.int k x]:=by intro _;rfl):Qh P G Unit where
  op:=.makeSlice t ol oc
  dst:=some d
  ZN:=[(ol,.int .i64 (n:Int)),(oc,.int .i64 (n:Int))]
  Zp:=[]
  o:=some ()
  ws:=λ_=>[.b d (some ⟨1,true,(List.replicate n (0:Int)).map ty.c⟩),.t d (.ref d 0 n)]
  dt:=[d]
  JN:=λ_ i k h _=>by
    simp only[zY,Wr.b.injEq,zG,reduceCtorEq,wj,or_false] at h;rw[h.2];exact ty.data _
  ok:=λ_ _ x st hop hdst hvs _ hd=>M7 λγ a w hs=>by
    obtain⟨h1,h2⟩:=hd d rfl;obtain⟨i,hi1,hi2⟩:=zJ.1 hi;simp only[zT] at hi2;obtain⟨s1,s2⟩:=hi2;have hz':i.zero=some (.int k 0):=by grind
    have e1:a.eval ol=.int .i64 (n:Int):=(hvs (ol,.int .i64 (n:Int)) (by simp) γ a w hs).Qf;have e2:a.eval oc=.int .i64 (n:Int):=(hvs (oc,.int .i64 (n:Int)) (by simp) γ a w hs).Qf;have hrun:=run_make (P:=P) w t e i (.int k 0) ht hi1 hz' .i64 .i64 (n:Int) (n:Int) (by omega) (by omega) (by rw[s2];have:=hb.1;omega) (by omega);have hrows:(List.replicate n (0:Int)).map ty.c=List.replicate n [V.int k 0]:=by simp_all
    have hcell:∀j (c:V),((List.replicate n (0:Int)).map ty.c).flatten[j]?=some c->j < n/\c=.int k 0:=λj c hj=>by
      simp_all [List.replicate_succ,List.flatten_cons,wF,qn,List.getElem_replicate,List.replicate]
    have sz:(madeCells (Value.int k 0).cells ((n:Int).toNat * i.size)).size=n:=by rw[size_madeCells,s1];simp
    have key:=hs.Iq (d:=d) (size:=1) (rows:=(List.replicate n (0:Int)).map ty.c) (cs:=madeCells (Value.int k 0).cells ((n:Int).toNat * i.size)) (e:=e) (w1:={ w with heap:=w.heap.push (.cells (madeCells (Value.int k 0).cells ((n:Int).toNat * i.size)) e) }) (by decide) h2 rfl ⟨rfl,rfl,rfl⟩
      (by grind) (by rw[sz];simp) (λj c hj=>by
        obtain⟨j1,rfl⟩:=hcell j c hj;refine⟨.int k 0,?_,.data (.int k 0),rfl,rfl⟩;unfold madeCells;rw[Array.getElem?_map];have hlt:j < (n:Int).toNat * i.size:=by grind
        have:(Array.range ((n:Int).toNat * i.size))[j]?=some j:=by grind
        rw[this];have hcs:(Value.int k 0).cells=#[.int k 0]:=rfl;grind)
    refine⟨.slice (some ⟨w.heap.size,0,none⟩) n n,_,γ.add d w.heap.size,?_,key.2.1,key.2.2.Ue,?_⟩
    · have e3 : (execOp a.eval x) = (do let v <- Instr.makeSlice t (a.eval ol) (a.eval oc); pure (.value v) : Sem Next) := by unfold execOp; rw [hop]
      simp_all
    · rw[hdst];have hb':=key.1.put (a:=a) (dst:=some d) (c:=.ref d 0 n) (v:=.slice (some ⟨w.heap.size,0,none⟩) n n) (by simpa[W2,St.Qj] using h1) (by
        have:=Qz.ref (γ:=γ.add d w.heap.size) (w:={ w with heap:=w.heap.push (.cells (madeCells (Value.int k 0).cells ((n:Int).toNat * i.size)) e) }) (bs:=(st.Qj d ⟨1,true,(List.replicate n (0:Int)).map ty.c⟩).b) (u:=(st.Qj d ⟨1,true,(List.replicate n (0:Int)).map ty.c⟩).u)
          d 0 n w.heap.size 0 n ⟨1,true,(List.replicate n (0:Int)).map ty.c⟩ (by simp[St.Qj]) (by simp[Gh.add]) (by simp) (zQ _) ⟨madeCells (Value.int k 0).cells ((n:Int).toNat * i.size),e,(0,0),Array.getElem?_push_size,by rw[sz];simp⟩ (by show 1 < J0;decide) (by simp)
        grind)
      exact hb'
def Qh.sF{P:Program}{G:zi}{α:Type}{ty:Ty α}{t e:TypeId}{zv:Value}{zc:V}(a0:α)(ol oc:Operand)(d:Nat)(n m:Int)(by_:Nat)(ht:P.underlying t=some (.slice e))
    (hi:(P.info? e).map (λi=>(i.size,i.bytes))=some (1,by_)) (hz:(P.info? e).bind TypeInfo.zero=some zv) (hc:ty.c a0=[zc]) (hzc:zv.cells=#[zv]/\zv.oneCell'=true/\zc.QK=false) (hrep:∀Qr w,K9 Qr w zc zv) (kl:IntKind:=.i64) (kc:IntKind:=.i64):Qh P G Unit where
  op:=.makeSlice t ol oc
  dst:=some d
  ZN:=[(ol,.int kl n),(oc,.int kc m)]
  Zp:=[]
  o:=bif decide (0<=n)&&decide (n<=m)&&decide (by_ * m.toNat<=281474976710656)&&decide (m<=9223372036854775807) then some () else none
  ws:=λ_=>[.b d (some ⟨1,true,(List.replicate n.toNat a0).map ty.c⟩),.t d (.ref d 0 n.toNat)]
  dt:=[d]
  JN:=λ_ i k h _=>by
    simp only[zY,Wr.b.injEq,zG,reduceCtorEq,wj,or_false] at h;rw[h.2];exact ty.data _
  ok:=λr ho x st hop hdst hvs hbs hd=>M7 λγ a w hs=>by
    have hc3:(decide (0<=n)&&decide (n<=m)&&decide (by_ * m.toNat<=281474976710656)&&decide (m<=9223372036854775807))=true:=by
      grind
    simp only[zL,zM] at hc3;obtain⟨⟨⟨c0,c1⟩,c2⟩,c3⟩:=hc3;obtain⟨N,rfl⟩:=Int.eq_ofNat_of_zero_le c0;obtain⟨M,rfl⟩:=Int.eq_ofNat_of_zero_le (Int.le_trans c0 c1);simp only[zW] at *;have hNM:N<=M:=by omega
    obtain⟨h1,h2⟩:=hd d rfl;obtain⟨i,hi1,hi2⟩:=zJ.1 hi;simp only[zT] at hi2;obtain⟨s1,s2⟩:=hi2;have hz':i.zero=some zv:=by grind
    have e1:a.eval ol=.int kl (N:Int):=(hvs (ol,.int kl (N:Int)) (by simp) γ a w hs).Qf;have e2:a.eval oc=.int kc (M:Int):=(hvs (oc,.int kc (M:Int)) (by simp) γ a w hs).Qf;have hrun:=run_make (P:=P) w t e i zv ht hi1 hz' kl kc (N:Int) (M:Int) (by omega) (by omega) (by rw[s2];omega) (by omega);simp only[zW] at hrun;have hrows:(List.replicate N a0).map ty.c=List.replicate N [zc]:=by simp_all
    have hcell:∀j (c:V),((List.replicate N a0).map ty.c).flatten[j]?=some c->j < N/\c=zc:=λj c hj=>by
      simp_all [List.replicate_succ,List.flatten_cons,wF,qn,List.getElem_replicate,List.replicate]
    have sz:(madeCells zv.cells (M * i.size)).size=M:=by rw[size_madeCells,s1];simp
    have key:=hs.Iq (d:=d) (size:=1) (rows:=(List.replicate N a0).map ty.c) (cs:=madeCells zv.cells (M * i.size)) (e:=e) (w1:={ w with heap:=w.heap.push (.cells (madeCells zv.cells (M * i.size)) e) }) (by decide) h2 rfl ⟨rfl,rfl,rfl⟩
      (by grind) (by grind) (λj c hj=>by
        obtain⟨j1,rfl⟩:=hcell j c hj;refine⟨zv,?_,.data (hrep _ _),hzc.2.1,hzc.2.2⟩;grind [madeCells])
    refine⟨.slice (some ⟨w.heap.size,0,none⟩) N M,_,γ.add d w.heap.size,?_,key.2.1,key.2.2.Ue,?_⟩
    · have e3 : (execOp a.eval x) = (do let v <- Instr.makeSlice t (a.eval ol) (a.eval oc); pure (.value v) : Sem Next) := by unfold execOp; rw [hop]
      simp_all
    · rw[hdst];have hb':=key.1.put (a:=a) (dst:=some d) (c:=.ref d 0 N) (v:=.slice (some ⟨w.heap.size,0,none⟩) N M) (by simpa[W2,St.Qj] using h1) (by
        have:=Qz.ref (γ:=γ.add d w.heap.size) (w:={ w with heap:=w.heap.push (.cells (madeCells zv.cells (M * i.size)) e) }) (bs:=(st.Qj d ⟨1,true,(List.replicate N a0).map ty.c⟩).b) (u:=(st.Qj d ⟨1,true,(List.replicate N a0).map ty.c⟩).u)
          d 0 N w.heap.size 0 M ⟨1,true,(List.replicate N a0).map ty.c⟩ (by simp[St.Qj]) (by simp[Gh.add]) (by simp) hNM ⟨madeCells zv.cells (M * i.size),e,(0,0),Array.getElem?_push_size,by rw[sz];simp⟩ (by show 1 < J0;decide) (by grind)
        grind)
      exact hb'
theorem OC{ty:Ty Int}(hc:∀x,ty.c x=[.int .u8 x]):∀l:List Int,Ar (l.map ty.c)=some l
 | []=>rfl
 | x :: l=>by
  simp only[wE,Ar,hc,Qqk,OC hc l]
def Qh.YP{P:Program}{G:zi}{ty:Ty Int}{s t e:TypeId}(ox:Operand)(d b:Nat)(l:List Int)(n:Nat)(hs:P.underlying s=some (.slice e):=by kernel_rfl)(ht:P.underlying t=some .string:=by kernel_rfl)(he:P.underlying e=some (.int .u8):=by kernel_rfl)(hn:l.length=n)(hc:∀x,ty.c x=[.int .u8 x]:=by intro _;rfl):Qh P G Unit where
 op:=.convert s t ox
 dst:=some d
 ZN:=[(ox,.ref b 0 n)]
 Zp:=[(b,⟨1,true,l.map ty.c⟩)]
 o:=some ()
 ws:=λ_=>[.t d (.str (strOfNums l))]
 dt:=[]
 JN:=(by grind)
 ok:=λ_ _ x st hop hdst hvs hb hd=>M7 λγ a w hs'=>by
  have hx:=hvs (ox,.ref b 0 n) (by simp) γ a w hs';have hk:=hb (b,⟨1,true,l.map ty.c⟩) (by simp);have hcv:DS P st.b s t (.ref b 0 n)=some (.str (strOfNums l)):=by
   simp only[DS,hs,ht,he,hk];rw[if_pos ⟨trivial,by simp[hn]⟩,List.drop_zero,<-hn,<-wO (f:=ty.c),List.take_length,OC hc];rfl
  obtain⟨v,h1,h2⟩:=OB hs' hcv hx;refine⟨v,w,γ,?_,.refl γ w,.refl hs'.u,?_⟩
  ·have e3 : (execOp a.eval x) = (do let v <- convert s t (a.eval ox); pure (.value v) : Sem Next) := by unfold execOp; rw [hop]
   simp_all
  ·rw[hdst];exact hs'.put (a:=a) (dst:=some d) (by simpa[W2] using(hd d rfl).1) h2
theorem Hl:∀l:List V,(l.map λc=>[c]).flatten=l
 | []=>rfl
 | c :: l=>by simp[Hl l]
theorem Mw{α:Type}{ty:Ty α}(h1:∀x,(ty.c x).length=1):∀l:List α,((l.map ty.c).flatten.map λc=>[c])=l.map ty.c
 | []=>rfl
 | x :: l=>by
  obtain⟨c,hc⟩:=List.length_eq_one_iff.1 (h1 x);simp only[wE,List.flatten_cons,wW,hc,List.map_nil];rw[Mw h1 l];rfl
theorem PN{α:Type}{ty:Ty α}(h1:∀x,(ty.c x).length=1)(l:List α):(l.map ty.c).flatten.length=l.length:=by
 induction l with
 | nil=>rfl
 | cons x l ih=>grind
theorem Qs.AV{G:zi}{γ:Gh}{st:St}{a:Act}{w:World}(h:Qs G γ st a.tmps w){d:Nat}{cells:List V}{vs:Array Value}{e:TypeId}(hu:st.u d=false)(hd:d < st.n)
  (hr:U4 γ w st.b st.u cells vs) (hc:∀c,c∈cells->c.Zq=true/\c.QK=false) :
  ∃γ',Qe γ w γ' { w with heap:=w.heap.push (.cells vs e) }/\Zf γ st.b st.u γ' (st.Qj d ⟨1,true,cells.map λc=>[c]⟩).b (st.Qj d ⟨1,true,cells.map λc=>[c]⟩).u/\
   Qs G γ' ((st.Qj d ⟨1,true,cells.map λc=>[c]⟩).QG d (.ptr d 0 0)) (a.put (some d) (.pointer (some ⟨w.heap.size,0,none⟩))).tmps { w with heap:=w.heap.push (.cells vs e) }:=by
 have hM:(1:Nat) < J0:=by decide
 have key:=h.Iq (d:=d) (size:=1) (rows:=cells.map λc=>[c]) (cs:=vs) (e:=e) (w1:={ w with heap:=w.heap.push (.cells vs e) }) hM hu rfl ⟨rfl,rfl,rfl⟩ (by grind) (by simp[hr.1]) (λi c hi=>by
  rw[Hl] at hi;have hlt:i < vs.size:=by rw[hr.1];grind
  have hv:vs[i]?=some vs[i]:=(by grind);obtain⟨c1,c2⟩:=hc c (wd hi);exact⟨vs[i],hv,hr.2 i c _ hi hv,(hr.2 i c _ hi hv).ZW c1,c2⟩)
 refine⟨_,key.2.1,key.2.2.Ue,?_⟩;have hp:=key.1.put (a:=a) (dst:=some d) (c:=.ptr d 0 0) (v:=.pointer (some ⟨w.heap.size,0,none⟩)) (by simpa[W2,St.Qj] using hd) (by
  have:=Qz.ptr (γ:=γ.add d w.heap.size) (w:={ w with heap:=w.heap.push (.cells vs e) }) (u:=(st.Qj d ⟨1,true,cells.map λc=>[c]⟩).u) (bs:=(st.Qj d ⟨1,true,cells.map λc=>[c]⟩).b) d 0 0 w.heap.size 0 ⟨1,true,cells.map λc=>[c]⟩ (by simp[St.Qj]) (by simp[Gh.add]) hM;grind)
 exact hp
section
variable {P:Program} {G:zi} {α:Type} {ty:Ty α}
def Qh.MZ(e:TypeId)(d:Nat)(l:List α)(h1:∀x,(ty.c x).length=1:=by intro _;rfl)(hz:zeroV P e=some (l.map ty.c).flatten:=by kernel_rfl):Qh P G Unit where
 op:=.alloc e
 dst:=some d
 ZN:=[]
 Zp:=[]
 o:=some ()
 ws:=λ_=>[.b d (some ⟨1,true,l.map ty.c⟩),.t d (.ptr d 0 0)]
 dt:=[d]
 JN:=λ_ i k h _=>by
  simp only[zY,Wr.b.injEq,zG,reduceCtorEq,wj,or_false] at h;rw[h.2];exact ty.data _
 ok:=λ_ _ x st hop hdst _ _ hd=>M7 λγ a w hs=>by
  obtain⟨hn,hu⟩:=hd d rfl;obtain⟨z,hz1,hz2⟩:=Uh (P:=P) (γ:=γ) (w:=w) (bs:=st.b) (u:=st.u) hz;obtain⟨γ',g,pn,hs'⟩:=hs.AV (e:=e) hu hn hz2 (MM hz);rw[Mw h1] at pn hs';refine⟨_,_,γ',?_,g,pn,by rw[hdst];exact hs'⟩;simp[execOp,hop,Instr.alloc,hz1,newVar,newRow]
def Qh.Dv(e:TypeId)(ox:Operand)(d:Nat)(l:List α)(h1:∀x,(ty.c x).length=1:=by intro _;rfl)(hb:RB (.agg (l.map ty.c).flatten)=some (l.map ty.c).flatten:=by kernel_rfl):Qh P G Unit where
 op:=.box e ox
 dst:=some d
 ZN:=[(ox,.agg (l.map ty.c).flatten)]
 Zp:=[]
 o:=some ()
 ws:=λ_=>[.b d (some ⟨1,true,l.map ty.c⟩),.t d (.ptr d 0 0)]
 dt:=[d]
 JN:=λ_ i k h _=>by
  simp only[zY,Wr.b.injEq,zG,reduceCtorEq,wj,or_false] at h;rw[h.2];exact ty.data _
 ok:=λ_ _ x st hop hdst hvs _ hd=>M7 λγ a w hs=>by
  obtain⟨hn,hu⟩:=hd d rfl;have hx:=hvs (ox,.agg (l.map ty.c).flatten) (by simp) γ a w hs;obtain⟨k1,k2⟩:=UH hb hx;obtain⟨γ',g,pn,hs'⟩:=hs.AV (e:=e) hu hn k1 k2;rw[Mw h1] at pn hs';refine⟨_,_,γ',?_,g,pn,by rw[hdst];exact hs'⟩;simp[execOp,hop,Instr.box,newVar,newRow]
def Qh.Yi(t:TypeId)(ox oi:Operand)(d b:Nat)(k:Qd)(r:Nat)(kd:IntKind)(n:Int)(len:Nat){e:TypeId}(ht:P.underlying t=some (.array len e):=by kernel_rfl)(he:(P.info? e).map (·.size)=some k.size:=by kernel_rfl):Qh P G Unit where
  op:=.indexAddr t ox oi
  dst:=some d
  ZN:=[(ox,.ptr b r 0),(oi,.int kd n)]
  Zp:=[(b,k)]
  o:=bif decide (0<=n)&&decide (n < (len:Int)) then some () else none
  ws:=λ_=>[.t d (.ptr b (r+n.toNat) 0)]
  dt:=[]
  JN:=(by grind)
  ok:=λ_ ho x st hop hdst hvs hb hd=>by
    have hn:0<=n/\n < (len:Int):=by
      grind
    obtain⟨hdn,hu⟩:=hd d rfl;have key:I9 P G x st (st.put (some d) (.ptr b (r+n.toNat) 0)):=by
      rw[<-hdst];refine E3 (by grind [W2]) λγ a w hs=>?_;have hx:=hvs (ox,.ptr b r 0) (by simp) γ a w hs;have hi:=hvs (oi,.int kd n) (by simp) γ a w hs;have hk:=hb (b,k) (by simp);obtain⟨B,o,hv,hl⟩:=hx.Zh hk;have hvi:=hi.Qf;obtain⟨ej,hej,hsz⟩:=zJ.1 he;refine⟨.pointer (some ⟨B,o+(r * k.size+0)+n.toNat * ej.size,none⟩),?_,?_⟩
      · grind [Yf,Sem.run_bind,Result.andThen_ok,Sem.run_pure,execOp]
      · have:=Qz.ptr (γ:=γ) (w:=w) (u:=st.u) b (r+n.toNat) 0 B o k hk hl (hx.Za hk);grind
    exact key
def Qh.DF(t:TypeId)(ox:Operand)(d b:Nat)(k:Qd)(c:V)(hM:k.size < J0:=by show 1 < J0;decide)(h:N5 P t k.rows.flatten=some c:=by kernel_rfl):Qh P G Unit where
  op:=.load t ox
  dst:=some d
  ZN:=[(ox,.ptr b 0 0)]
  Zp:=[(b,k)]
  o:=some ()
  ws:=λ_=>[.t d c]
  dt:=[]
  JN:=(by grind)
  ok:=λ_ _ x st hop hdst hvs hb hd=>by
    obtain⟨hdn,hu⟩:=hd d rfl;have key:I9 P G x st (st.put (some d) c):=by
      rw[<-hdst];refine E3 (by grind [W2]) λγ a w hs=>?_;have hx:=hvs (ox,.ptr b 0 0) (by simp) γ a w hs;have hk:=hb (b,k) (by simp);obtain⟨B,o,hv,hl⟩:=hx.Zh hk;have hcs:R4 γ w st.b st.u B o k.rows.flatten:=by
        rcases hs.b b k hk with⟨v1,_⟩|hm|⟨_,B2,o2,cs2,e2,h1,h2,h3,h4,h5,h6,h7,h8⟩
        · grind
        · exact(hm.small hM).elim
        rw[hl] at h1;simp only[zG,zT] at h1;obtain⟨rfl,rfl⟩:=h1;intro j c' hc';obtain⟨v,q1,q2,_⟩:=h6 j c' hc';exact⟨v,by rw[h3.cellAt];exact q1,q2⟩
      obtain⟨y,hy,hd'⟩:=YV h hcs;simp_all [execOp,Instr.loadAt,Instr.sureAddr]
    exact key
def Qh.Mz(t:TypeId)(ox ov:Operand)(b:Nat)(k:Qd)(c:V)(l:List α)(h1:∀x,(ty.c x).length=1:=by intro _;rfl)(hM:k.size < J0:=by show 1 < J0;decide)(hz:k.size=1:=by rfl)(hex:k.Ql=true:=by rfl)(hn:k.rows.length=l.length:=by rfl)(hb:RB c=some (l.map ty.c).flatten:=by kernel_rfl)
    (ht:(P.info? t).map (·.size)=some l.length:=by kernel_rfl):Qh P G Unit where
  op:=.store t ox ov
  dst:=none
  ZN:=[(ox,.ptr b 0 0),(ov,c)]
  Zp:=[(b,k)]
  o:=some ()
  ws:=λ_=>[.b b (some ⟨k.size,k.Ql,l.map ty.c⟩)]
  dt:=[]
  JN:=(by grind)
  ok:=λ_ _ x st hop hdst hvs hbk _=>Dl λγ a w hsim=>by
    have hx:=hvs (ox,.ptr b 0 0) (by simp) γ a w hsim;have hy:=hvs (ov,c) (by simp) γ a w hsim;have hk:=hbk (b,k) (by simp);obtain⟨ti,hti,hsz⟩:=zJ.1 ht;obtain⟨B,o',hv,hl⟩:=hx.Zh hk;obtain⟨hcr,hcell⟩:=UH hb hy;have hcl:((l.map ty.c).flatten).length=l.length:=PN h1 l;rcases hsim.b b k hk with⟨v1,_⟩|hm|⟨_,B2,o2,cs2,e2,g1,g2,g3,g4,g5,g6,g7,g8⟩
    · grind
    · exact(hm.small hM).elim
    rw[hl] at g1;simp only[zG,zT] at g1;obtain⟨rfl,rfl⟩:=g1;have hvl:(a.eval ov).cells.toList.length=l.length:=by have:=hcr.1;grind
    have hcap:o'+l.length<=cs2.size:=by grind
    have hone:∀v,v∈(a.eval ov).cells.toList->v.oneCell'=true:=λv hv=>by
      obtain⟨j,hj,rfl⟩:=List.getElem_of_mem hv;have hjc:j < ((l.map ty.c).flatten).length:=by grind
      have:=hcr.2 j _ _ (wA hjc) (by rw[wB (by simpa using hj)]);exact this.ZW (by grind)
    have hrun:=G9 (P:=P) (B:=B) (o:=o'+(0 * k.size+0)) (e:=e2) (a.eval ov).cells.toList 0 w cs2 g3 hone (by grind);obtain⟨r1,r2⟩:=P2 (a.eval ov).cells.toList (o'+(0 * k.size+0)+0) cs2 (by rw[hvl];omega);have key:=hsim.Ak (cs':=E9 cs2 (o'+(0 * k.size+0)+0) (a.eval ov).cells.toList) (rows':=l.map ty.c) hk hM hl g2 g3 r1 (g7 hex)
      (by grind)
      (by simp[hn]) g5 (λidx c' hc'=>by
        have hidx:idx < l.length:=by grind
        rw[r2,if_pos (by grind)];have hj:idx < (a.eval ov).cells.toList.length:=by grind
        rw[show o'+idx - (o'+(0 * k.size+0)+0)=idx by omega];refine⟨_,wA hj,?_,(by grind),.QN (hcell c' (wd hc')).2⟩;exact hcr.2 idx c' _ hc' (by rw[wB (by simpa using hj)];simp))
    refine⟨_,γ,?_,key.2.1,key.2.2.Ue,by rw[hdst];exact key.1⟩;have hsize:¬((a.eval ov).cells.size≠ti.size):=by rw[hcr.1,hcl,hsz];simp
    simp only[execOp,hop,Instr.storeAt,hv,Instr.sureAddr,storeVar,sizeOf,typeInfo,hti,zX,run_program,wI,zZ,Sem.run_ite,hsize,if_false,hrun]
def XL:V->Option Value
 | .int k n=>some (.int k n)
 | .bool b=>some (.bool b)
 | .str s=>some (.string s)
 | .Zi=>some (.pointer none)
 | .Zu x=>some x
 | _=>none
def oU:V->Option Value
 | .agg cs=>(M4 XL cs).map λl=>.agg l.toArray
 | c=>XL c
theorem DB{γ:Gh}{w:World}{bs:zj}{u:zl}{c:V}{v x:Value}(h:XL c=some v)(hr:Qz γ w bs u c x):x=v:=by
 cases c<;>simp[XL] at h
 case int=>subst h;exact hr.Qf
 case bool=>subst h;exact hr.QF
 case str=>subst h;exact hr.QE
 case Zi=>subst h;cases hr with|data h=>cases h;rfl
 case Zu=>subst h;exact hr.UB
theorem yA{γ:Gh}{w:World}{bs:zj}{u:zl}{c:V}{v x:Value}(h:oU c=some v)(hr:Qz γ w bs u c x):x=v:=by
 cases c with
 | agg cs=>
  simp only[oU,zJ] at h;obtain⟨l,hl,rfl⟩:=h;obtain⟨vs,rfl,h1,h2⟩:=hr.QD;congr 1;congr 1;refine List.ext_getElem? λi=>?_;have hlen:=Jy hl;by_cases hi:i < vs.length
  ·have hv:vs[i]?=some vs[i]:=wA hi;have hli:i < l.length:=by omega
   have hlv:l[i]?=some l[i]:=(by grind);obtain⟨c0,k1,k2⟩:=F3 hl i _ hlv;grind [DB]
  grind
 | _=>grind [DB,oU]
def Qh.Zu(t:TypeId)(ox:Operand)(d:Nat)(c:V)(v:Value)(hv:oU c=some v)(ht:P.concrete t=true):Qh P G Unit where
 op:=.makeInterface t ox
 dst:=some d
 ZN:=[(ox,c)]
 Zp:=[]
 o:=some ()
 ws:=λ_=>[.t d (.Zu (.iface t v))]
 dt:=[]
 JN:=(by grind)
 ok:=λ_ _ x st hop hdst hvs _ hd=>by
  obtain⟨hdn,hu⟩:=hd d rfl;have key:I9 P G x st (st.put (some d) (.Zu (.iface t v))):=by
   rw[<-hdst];refine E3 (by grind [W2]) λγ a w hs=>?_;have hx:=yA hv (hvs (ox,c) (by simp) γ a w hs);exact⟨.iface t v,by simp_all [run_makeInterface,execOp],.data (.Zu _ rfl)⟩
  exact key
def Qh.asserted(ox:Operand)(xt t:TypeId)(d:Nat)(x:Value)(yes:Bool)(c z:V)(hr:∀w:World,∃v,(Instr.typeAssert x xt t true).run P w=.ok (.tuple #[v,.bool yes]) w/\∀γ bs u,Qz γ w bs u (if yes then c else z) v):Qh P G Unit where
 op:=.typeAssert ox xt t true
 dst:=some d
 ZN:=[(ox,.Zu x)]
 Zp:=[]
 o:=some ()
 ws:=λ_=>[.t d (.Qc [if yes then c else z,.bool yes])]
 dt:=[]
 JN:=(by grind)
 ok:=λ_ _ y st hop hdst hvs _ hd=>by
  obtain⟨hdn,hu⟩:=hd d rfl;have key:I9 P G y st (st.put (some d) (.Qc [if yes then c else z,.bool yes])):=by
   rw[<-hdst];refine E3 (by grind [W2]) λγ a w hs=>?_;have hx:=(hvs (ox,.Zu x) (by simp) γ a w hs).UB;obtain⟨v,h1,h2⟩:=hr w;refine⟨.tuple #[v,.bool yes],by simp[execOp,hop,hx,h1],.Qc _ [v,.bool yes] rfl λi c' v' hc hv=>?_⟩;match i,hc,hv with
   | 0,hc,hv=>grind
   | 1,hc,hv=>simp at hc hv;subst hc;subst hv;exact .data (.bool _)
   | n+2,hc,hv=>simp at hc
  exact key
end
def vec(f:zl):List Bool:=[f 0,f 1,f 2,f 3,f 4,f 5,f 6,f 7,f 8,f 9,f 10,f 11,f 12,f 13,f 14,f 15,f 16,f 17,f 18,f 19,f 20,f 21,f 22,f 23,f 24,f 25,f 26,f 27,f 28,f 29,f 30,f 31]
def K6(f:zl):List V:=(vec f).map V.bool
def Nd(f:zl)(n:Nat)(v:Bool):Nat->Bool:=λi=>bif i==n then v else f i
theorem LP(f:zl)(i:Nat):(vec f)[i]?=if i < 32 then some (f i) else none:=by
 have e:vec f=(List.range 32).map f:=rfl;grind
theorem oJ(f:zl)(n:Nat)(v:Bool):(vec f).set n v=vec (Nd f n v):=by
 refine List.ext_getElem? λi=>?_;rw[List.getElem?_set,LP,LP];have hl:(vec f).length=32:=rfl;rw[hl];unfold Nd;by_cases h:n=i
 ·subst h;simp
 grind
def Ji.Sv(i:Nat)(t:Ty Bool)(f:zl)(j:Nat)(y:Bool):Ji:=
 ⟨[.b i (some ⟨1,true,((vec f).map t.c).set j (t.c y)⟩)],[.b i (some ⟨1,true,(vec (Nd f j y)).map t.c⟩)],by rw[<-oJ,List.map_set],[i],λb k h _=>by
  simp only[wG,Wr.b.injEq,zG] at h;obtain⟨_,rfl⟩:=h;exact t.data _⟩
section
variable {P:Program} {G:zi}
def Qh.Qd1(f:FuncId){fn:Func}(ox oy oc:Operand)(ts:Array TypeId)(d:Nat)(x y c:Int)(hf:P.funcs[f]?=some fn)(hname:(fn.name== "runtime.NumGoroutine")=false)(hb:fn.body.isNone=true)(hn:Extern.findNext fn=none)
    (he:Extern.find fn=some add64Entry):Qh P G Unit where
  op:=.call { callee:=.value (.func f),args:=#[ox,oy,oc],argTypes:=ts }
  dst:=some d
  ZN:=[(ox,.int .u64 x),(oy,.int .u64 y),(oc,.int .u64 c)]
  Zp:=[]
  o:=bif decide (0<=x)&&decide (0<=y)&&decide (0<=c)&&decide (c<=1) then some () else none
  ws:=λ_=>[.t d (.Qc [.int .u64 ((x+y+c) % 18446744073709551616),.int .u64 ((x+y+c) / 18446744073709551616)])]
  dt:=[]
  JN:=(by grind)
  ok:=λ_ ho q st hop hdst hvs _ hd=>by
    have hc:0<=x/\0<=y/\0<=c/\c<=1:=by
      grind
    obtain⟨hdn,hu⟩:=hd d rfl;have key:I9 P G q st (st.put (some d) (.Qc [.int .u64 ((x+y+c) % 18446744073709551616),.int .u64 ((x+y+c) / 18446744073709551616)])):=by
      rw[<-hdst];refine E3 (by grind [W2]) λγ a w hs=>?_;have e1:=(hvs (ox,.int .u64 x) (by simp) γ a w hs).Qf;have e2:=(hvs (oy,.int .u64 y) (by simp) γ a w hs).Qf;have e3:=(hvs (oc,.int .u64 c) (by simp) γ a w hs).Qf;refine⟨.tuple #[.int .u64 ((x+y+c) % 18446744073709551616),.int .u64 ((x+y+c) / 18446744073709551616)],?_,.Qc _ _ rfl λi c v hc hv=>?_⟩
      · have e : (execOp a.eval q) = (do let d <- resolve a.eval { callee := .value (.func f), args := #[ox, oy, oc], argTypes := ts } q.type; invoke d.target d.args) := by
          unfold execOp;rw[hop]
        have hr:=run_callFunc_extern hf hname hb hn he #[.int .u64 x,.int .u64 y,.int .u64 c] w;rw[run_add64 x y c hc.1 hc.2.1 hc.2.2.1 hc.2.2.2] at hr;rw[e];have ef:a.eval (.func f)=.func (.func f) #[] #[]:=rfl;grind [resolve,Deferred.ofValue,invoke,Result.andThen]
      · rcases i with _|_|i
        · simp at hc hv;subst hc;subst hv;exact .data (.int _ _)
        · simp at hc hv;subst hc;subst hv;exact .data (.int _ _)
        · simp at hc
    exact key
end
theorem Ty.Qzo{α:Type}{ty:Ty α}(hs:∀y,ty.c y=ty.d y)(y:α){c:V}(hc:c∈ty.c y):c.QK=false:=by
 rw[hs y,<-ty.st y] at hc;obtain⟨c0,_,rfl⟩:=zP.1 hc;exact YD c0
def P4{α:Type}(l:List α)(p:Nat)(r:List α):List α:=l.take p++r++l.drop (p+r.length)
theorem DI{α:Type}(l:List α)(p:Nat)(r:List α)(h:p+r.length<=l.length):(P4 l p r).length=l.length:=by
 simp[P4];omega
theorem hH{α:Type}(l:List α)(p:Nat)(r:List α)(h:p+r.length<=l.length)(q:Nat):(P4 l p r)[q]?=if p<=q/\q < p+r.length then r[q - p]? else l[q]?:=by
 unfold P4;have e1:(l.take p).length=p:=by simp;omega
 grind
theorem Qs.lG{G:zi}{γ:Gh}{st:St}{tmps:Array Value}{w:World}(h:Qs G γ st tmps w){α:Type}{ty:Ty α}{l r:List α}{b z p B o:Nat}{cs:Array Value}{e:TypeId}{news:List Value}
  (hk:st.b b=some ⟨z,true,l.map ty.c⟩) (hM:z < J0) (hs:∀y,ty.c y=ty.d y) (hloc:γ.loc b=some (B,o)) (hown:γ.own B=some (.Zs b)) (hheap:D5 w B cs e)
  (h4:∀r,r∈l.map ty.c->r.length=z) (h5:o+(l.map ty.c).length * z<=cs.size)
  (h6:∀(i:Nat) (c:V),(l.map ty.c).flatten[i]?=some c->∃v,cs[o+i]?=some v/\Qz γ w st.b st.u c v/\v.oneCell'=true/\D6 γ w (.nest b (i / z) (i % z)) c v) (hlim:γ.Qr B=0)
  (hp:p+r.length<=l.length) (hn:news.length=r.length * z) (hrz:∀q,q∈r.map ty.c->q.length=z)
  (hnew:∀(i:Nat) (c:V),(r.map ty.c).flatten[i]?=some c->∃v,news[i]?=some v/\Qz γ w st.b st.u c v/\v.oneCell'=true) :
  Qs G γ (st.Qj b ⟨z,true,(P4 l p r).map ty.c⟩) tmps (World.Qv w B (E9 cs (o+p * z) news) e)/\Qe γ w γ (World.Qv w B (E9 cs (o+p * z) news) e)/\
   G7 γ st.b st.u γ (st.Qj b ⟨z,true,(P4 l p r).map ty.c⟩).b (st.Qj b ⟨z,true,(P4 l p r).map ty.c⟩).u:=by
 have hl:(l.map ty.c).length=l.length:=by simp
 rw[hl] at h5;have hle:(p+r.length) * z<=l.length * z:=wT _ hp;rw[wK] at hle;obtain⟨r1,r2⟩:=P2 news (o+p * z) cs (by rw[hn];omega);have hz':∀q,q∈(P4 l p r).map ty.c->q.length=z:=λq hq=>by
  obtain⟨y,hy,rfl⟩:=zP.1 hq;unfold P4 at hy;grind
 refine h.Ak (k:=⟨z,true,l.map ty.c⟩) hk hM hloc hown hheap r1 hlim hz' (by simp[DI l p r hp]) (by grind) λi c hc=>?_;have hpos:0 < z:=by
  rcases qk z with h0|h0
  ·have:((P4 l p r).map ty.c).flatten=[]:=by
    grind [List.flatten_eq_nil_iff,List.length_eq_zero_iff,trans]
   grind
  ·exact h0
 have ei:i=(i / z) * z+i % z:=by grind [Nat.mul_comm,Nat.div_add_mod]
 have hm:=Nat.mod_lt i hpos;have hc':=hc;rw[ei,H2 _ hz' _ _ hm,wm,hH l p r hp] at hc';rw[r2,hn];by_cases hq:p<=i / z/\i / z < p+r.length
 ·rw[if_pos hq] at hc';have a1:p * z<=i / z * z:=wT _ hq.1;have a2:(i / z+1) * z<=(p+r.length) * z:=wT _ hq.2;rw[wK,wK] at a2;rw[if_pos (by omega)];have e2:o+i - (o+p * z)=(i / z - p) * z+i % z:=by
   rw[Nat.sub_mul];omega
  have hcr:(r.map ty.c).flatten[(i / z - p) * z+i % z]?=some c:=by grind [H2]
  obtain⟨v,v1,v2,v3⟩:=hnew _ c hcr;obtain⟨q,hq1,hq2⟩:=wU.1 (wd hcr);obtain⟨y,_,rfl⟩:=zP.1 hq1;exact⟨v,by grind,v2,v3,.QN (Ty.Qzo hs y hq2)⟩
 ·rw[if_neg hq] at hc';have hno:¬(o+p * z<=o+i/\o+i < o+p * z+r.length * z):=(by grind [Nat.le_div_iff_mul_le,Nat.div_lt_iff_lt_mul,Nat.add_mul]);rw[if_neg hno];have hcl:(l.map ty.c).flatten[i]?=some c:=by grind [H2]
  grind
section
variable {P:Program} {G:zi}
end
def Q2(s:ze):List Int:=s.data.toList.map λb=>(b.toNat:Int)
theorem J4(s:ze):(Q2 s).length=s.size:=by
 unfold Q2;simp_all
theorem DM{ty:Ty Int}(hc:∀x,ty.c x=[.int .u8 x])(l:List Int):(l.map ty.c).flatten=l.map (V.int .u8):=by
 induction l with
 | nil=>rfl
 | cons x l ih=>grind
section
variable {P:Program} {G:zi} {ty:Ty Int}
theorem Oa{w:World}{dT sT t elem:TypeId}{B o n cap:Nat}{s:ze}{cs:Array Value}{e:TypeId}(hu:P.underlying dT=some (.slice elem))(hs:(P.info? elem).map (·.size)=some 1)
  (hg:D5 w B cs e) (hle:s.size<=n) (hfit:o+s.size<=cs.size) :
  (Builtin.copy_ #[dT,sT] t #[.slice (some ⟨B,o,none⟩) n cap,.string s]).run P w=.ok (.int .i64 s.size) (World.Qv w B (E9 cs o ((Q2 s).map (Value.int .u8))) e):=by
 have hl:((Q2 s).map (Value.int .u8)).length=s.size:=by rw[wO,J4]
 have hone:∀v,v∈(Q2 s).map (Value.int .u8)->v.oneCell'=true:=λv hv=>by obtain⟨b,_,rfl⟩:=zP.1 hv;rfl
 have hst:=G9 (P:=P) (B:=B) (o:=o) (e:=e) ((Q2 s).map (Value.int .u8)) 0 w cs hg hone (by grind);simp only[Nat.add_zero] at hst;have hmin:Nat.min s.size n=s.size:=Nat.min_eq_left hle;have htk:List.take s.size (List.map (λb:UInt8=>Value.int IntKind.u8 (b.toNat:Int)) s.data.toList)=(Q2 s).map (Value.int .u8):=by
  simp_all [List.take_of_length_le,wO,Array.length_toList,zQ,Q2]
 cases hq:P.info? elem with
 | none=>grind
 | some i=>
  simp_all [zO,Builtin.copy_,Builtin.lenOf,Builtin.firstCells,sizeOf,typeInfo,Result.andThen,goInt]
def Qh.xD{dT sT elem:TypeId}(ox os:Operand)(d b n:Nat)(l:List Int)(s:ze)(hu:P.underlying dT=some (.slice elem):=by kernel_rfl)(hs:(P.info? elem).map (·.size)=some 1:=by kernel_rfl)(hn:l.length=n:=by simp)(hc:∀x,ty.c x=[.int .u8 x]:=by intro _;rfl)
    (hd:∀y,ty.c y=ty.d y:=by intro _;rfl):Qh P G Unit where
  op:=.call { callee:=.builtin .copy,args:=#[ox,os],argTypes:=#[dT,sT] }
  dst:=some d
  ZN:=[(ox,.ref b 0 n),(os,.str s)]
  Zp:=[(b,⟨1,true,l.map ty.c⟩)]
  o:=bif decide (s.size<=n)&&decide (0 < n) then some () else none
  ws:=λ_=>[.b b (some ⟨1,true,(P4 l 0 (Q2 s)).map ty.c⟩),.t d (.int .i64 (s.size:Int))]
  dt:=[b]
  JN:=λ_ q k hm _=>by
    simp only[zY,wj,or_false,Wr.b.injEq,zG,reduceCtorEq] at hm;obtain⟨_,rfl⟩:=hm;exact ty.data _
  ok:=λ_ ho x st hop hdst hvs hb hdd=>M7 λγ a w hsim=>by
    have hcc:s.size<=n/\0 < n:=by
      grind
    obtain⟨hle,hpos⟩:=hcc;have hbb:st.b b=some ⟨1,true,l.map ty.c⟩:=hb (b,⟨1,true,l.map ty.c⟩) (by simp);have rx:Qz γ w st.b st.u (.ref b 0 n) (a.eval ox):=hvs (ox,.ref b 0 n) (by simp) γ a w hsim;have ry:a.eval os=.string s:=(hvs (os,.str s) (by simp) γ a w hsim).QE;obtain⟨hdn,_⟩:=hdd d rfl;have hll:(l.map ty.c).length=n:=by grind
    have hfl:=DM hc;rcases rx.ZO hbb with⟨B,o,cap,hv,hl,hil,hcap,hroom,hM,hcp⟩|⟨B,_,_,h0,_⟩|⟨_,_,h0,_⟩
    · rcases hsim.b b _ hbb with⟨v1,_⟩|hm|⟨_,B',o',cs,e',h1,h2,h3,h4,h5,h6,h7,h8⟩
      · grind
      · exact(hm.small hM).elim
      rw[hl] at h1;simp only[zG,zT] at h1;obtain⟨rfl,rfl⟩:=h1;simp only at hM h4 h5 h6 h7 hv;have h5':o+n<=cs.size:=by grind
      have ol:=J4 s;have ev:a.eval ox=.slice (some ⟨B,o,none⟩) n cap:=by simpa using hv
      have hrun:=Oa (P:=P) (w:=w) (dT:=dT) (sT:=sT) (t:=x.type) (B:=B) (o:=o) (s:=s) (n:=n) (cap:=cap) hu hs h3 hle (by omega);have key:=hsim.lG (r:=Q2 s) (p:=0) (z:=1) (news:=(Q2 s).map (Value.int .u8)) hbb hM hd hl h2 h3 h4 h5 h6 (h7 trivial) (by grind) (by simp) (by grind) (λi c hi=>by
        rw[hfl,wm] at hi;obtain⟨y,hy,rfl⟩:=zJ.1 hi;exact⟨.int .u8 y,by grind,.data (.int _ _),rfl⟩)
      simp only[Nat.zero_mul,Nat.add_zero] at key;have pre : execOp a.eval x = (do let v <- Builtin.copy_ #[dT, sT] x.type #[a.eval ox, a.eval os]; pure (.value v)) := by
        have h1:execOp a.eval x=builtin .copy #[dT,sT] x.type (#[ox,os].map fun|.const _=>true|_=>false) (#[ox,os].map a.eval):=by
          show (execOp a.eval x)=_;unfold execOp;rw[hop];rfl
        rw[h1];simp[builtin]
      refine⟨.int .i64 s.size,_,γ,by simp_all,key.2.1,key.2.2.Ue,?_⟩;have hp:=key.1.put (a:=a) (dst:=some d) (c:=.int .i64 (s.size:Int)) (v:=.int .i64 s.size) (by grind [W2,St.Qj]) (.data (.int _ _));rw[hdst];exact hp
    · grind
    grind
def Qh.octets{s t e:TypeId}(ox:Operand)(d:Nat)(x0:ze)(hs:P.underlying s=some .string:=by kernel_rfl)(ht:P.underlying t=some (.slice e):=by kernel_rfl)(he:P.underlying e=some (.int .u8):=by kernel_rfl)
    (hi:(P.info? e).map (·.size)=some 1:=by kernel_rfl) (hc:∀x,ty.c x=[.int .u8 x]:=by intro _;rfl):Qh P G Unit where
  op:=.convert s t ox
  dst:=some d
  ZN:=[(ox,.str x0)]
  Zp:=[]
  o:=some ()
  ws:=λ_=>[.b d (some ⟨1,true,(Q2 x0).map ty.c⟩),.t d (.ref d 0 (Q2 x0).length)]
  dt:=[d]
  JN:=λ_ i k h _=>by
    simp only[zY,Wr.b.injEq,zG,reduceCtorEq,wj,or_false] at h;rw[h.2];exact ty.data _
  ok:=λ_ _ x st hop hdst hvs _ hd=>M7 λγ a w hsim=>by
    obtain⟨hdn,hu⟩:=hd d rfl;have ex:a.eval ox=.string x0:=(hvs (ox,.str x0) (by simp) γ a w hsim).QE;have hfl:=DM hc (Q2 x0);have hol:=J4 x0;have hrun:=run_bytes_of_string (P:=P) w s t e x0 hs ht he;have hge:x0.size<=grownCap w x0.size 0 e:=grownCap_ge w x0.size 0 e;obtain⟨N,hN⟩:∃N,N=grownCap w x0.size 0 e:=⟨_,rfl⟩;rw[<-hN] at hrun hge;obtain⟨cs,hcs⟩:∃cs,cs=bytesRow x0 N:=⟨_,rfl⟩;rw[<-hcs] at hrun;have hsz:cs.size=N:=by
      rw[hcs];unfold bytesRow;rw[Array.size_append,Array.size_map,Array.size_replicate];have:x0.data.size=x0.size:=rfl;omega
    have hget:∀j,j < x0.size->cs[j]?=((Q2 x0).map (Value.int .u8))[j]?:=(by grind [Array.getElem?_append_left,List.map_map,bytesRow,Q2])
    have key:=hsim.CU (d:=d) (size:=1) (rows:=(Q2 x0).map ty.c) (cs:=cs) (e:=e) (fz:=(cs.size,cs.size+1)) (w1:=w.drew.alloc (.cells cs e (cs.size,cs.size+1))) (by decide) hu rfl (by grind) ⟨rfl,rfl,rfl⟩
      (by grind) (by grind) (λj c hj=>by
        rw[hfl,wm] at hj;obtain⟨y,hy,rfl⟩:=zJ.1 hj;have hlt:j < x0.size:=by grind
        exact⟨.int .u8 y,by grind,.data (.int _ _),rfl,rfl⟩)
    refine⟨.slice (some ⟨w.heap.size,0,none⟩) x0.size N,_,γ.add d w.heap.size,?_,key.2.1,key.2.2.Ue,?_⟩
    · have e3 : (execOp a.eval x) = (do let v <- convert s t (a.eval ox); pure (.value v) : Sem Next) := by unfold execOp; rw [hop]
      simp_all
    · rw[hdst];have hb':=key.1.put (a:=a) (dst:=some d) (c:=.ref d 0 (Q2 x0).length) (v:=.slice (some ⟨w.heap.size,0,none⟩) x0.size N) (by grind [W2,St.Qj]) (by
        have:=Qz.ref (γ:=γ.add d w.heap.size) (w:=w.drew.alloc (.cells cs e (cs.size,cs.size+1))) (bs:=(st.Qj d ⟨1,true,(Q2 x0).map ty.c⟩).b) (u:=(st.Qj d ⟨1,true,(Q2 x0).map ty.c⟩).u)
          d 0 (Q2 x0).length w.heap.size 0 N ⟨1,true,(Q2 x0).map ty.c⟩ (by simp[St.Qj]) (by simp[Gh.add]) (by simp) (by grind) ⟨cs,e,(cs.size,cs.size+1),Array.getElem?_push_size,by rw[hsz];simp⟩ (by show 1 < J0;decide) (by grind)
        grind)
      exact hb'
end
def Y7(f:Nat->Int):List Int:=[f 0,f 1,f 2,f 3,f 4,f 5,f 6,f 7,f 8,f 9,f 10,f 11,f 12,f 13,f 14,f 15]
def V4(f:Nat->Int):List V:=(Y7 f).map (V.int .i64)
def U6(f:Nat->Int)(n:Nat)(v:Int):Nat->Int:=λi=>bif i==n then v else f i
theorem MX(f:Nat->Int)(i:Nat):(Y7 f)[i]?=if i < 16 then some (f i) else none:=by
 have e:Y7 f=(List.range 16).map f:=rfl;grind
theorem yE(f:Nat->Int)(n:Nat)(v:Int):(Y7 f).set n v=Y7 (U6 f n v):=by
 refine List.ext_getElem? λi=>?_;rw[List.getElem?_set,MX,MX];have hl:(Y7 f).length=16:=rfl;rw[hl];unfold U6;by_cases h:n=i
 ·subst h;simp
 grind
def Ji.Ol(i:Nat)(t:Ty Int)(f:Nat->Int)(j:Nat)(y:Int):Ji:=
 ⟨[.b i (some ⟨1,true,((Y7 f).map t.c).set j (t.c y)⟩)],[.b i (some ⟨1,true,(Y7 (U6 f j y)).map t.c⟩)],by rw[<-yE,List.map_set],[i],λb k h _=>by
  simp only[wG,Wr.b.injEq,zG] at h;obtain⟨_,rfl⟩:=h;exact t.data _⟩
def I1(f:Nat->Int):List Int:=[f 0,f 1,f 2,f 3,f 4,f 5,f 6,f 7,f 8,f 9,f 10,f 11,f 12,f 13,f 14,f 15,f 16,f 17,f 18,f 19,f 20,f 21,f 22,f 23,f 24,f 25,f 26,f 27,f 28,f 29,f 30,f 31]
def yX(f:Nat->Int):List V:=(I1 f).map (V.int .u8)
def Ze(s:ze):Nat->Int:=λi=>QQ s (i:Int)
theorem YR(f:Nat->Int)(i:Nat):(I1 f)[i]?=if i < 32 then some (f i) else none:=by
 have e:I1 f=(List.range 32).map f:=rfl;grind
theorem yD(f:Nat->Int)(n:Nat)(v:Int):(I1 f).set n v=I1 (U6 f n v):=by
 refine List.ext_getElem? λi=>?_;rw[List.getElem?_set,YR,YR];have hl:(I1 f).length=32:=rfl;rw[hl];unfold U6;by_cases h:n=i
 ·subst h;simp
 grind
def Ji.Qhl(i:Nat)(t:Ty Int)(f:Nat->Int)(j:Nat)(y:Int):Ji:=
 ⟨[.b i (some ⟨1,true,((I1 f).map t.c).set j (t.c y)⟩)],[.b i (some ⟨1,true,(I1 (U6 f j y)).map t.c⟩)],by rw[<-yD,List.map_set],[i],λb k h _=>by
  simp only[wG,Wr.b.injEq,zG] at h;obtain⟨_,rfl⟩:=h;exact t.data _⟩
def Qh.bO{P:Program}{G:zi}(t:TypeId)(ox:Operand)(d b:Nat)(k:Qd)(n len:Nat){e:TypeId}(ht:P.underlying t=some (.array n e):=by kernel_rfl):Qh P G Unit where
  op:=.sliceToArrayPointer t ox
  dst:=some d
  ZN:=[(ox,.ref b 0 len)]
  Zp:=[(b,k)]
  o:=bif decide (n<=len)&&decide (0 < n) then some () else none
  ws:=λ_=>[.t d (.ptr b 0 0)]
  dt:=[]
  JN:=(by grind)
  ok:=λ_ ho x st hop hdst hvs hb hd=>by
    have hn:n<=len/\0 < n:=by
      grind
    obtain⟨hdn,hu⟩:=hd d rfl;have key:I9 P G x st (st.put (some d) (.ptr b 0 0)):=by
      rw[<-hdst];refine E3 (by grind [W2]) λγ a w hs=>?_;have hx:=hvs (ox,.ref b 0 len) (by simp) γ a w hs;have hk:=hb (b,k) (by simp);rcases hx.ZO hk with⟨B,o,cap,hv,hl,_,_,_,hM,_⟩|⟨_,_,h0,_⟩|⟨_,h0,_⟩
      rotate_left
      · omega
      · omega
      refine⟨.pointer (some ⟨B,o+0 * k.size,none⟩),?_,?_⟩
      · have hlt:¬len < n:=by omega
        simp[execOp,hop,hv,Instr.arrayAt,zO ht,hlt]
      · have:=Qz.ptr (γ:=γ) (w:=w) (u:=st.u) b 0 0 B o k hk hl hM;grind
    exact key
def Qh.Qep{P:Program}{G:zi}(t:TypeId)(ox:Operand)(d b:Nat)(k:Qd)(n:Nat){e:TypeId}(ht:P.underlying t=some (.array n e):=by kernel_rfl)(he:(P.info? e).map (·.size)=some k.size:=by kernel_rfl)(hk0:k.rows.length=n:=by kernel_rfl)(hM:k.size < J0:=by show 1 < J0;decide):Qh P G Unit where
  op:=.slice t ox none none none
  dst:=some d
  ZN:=[(ox,.ptr b 0 0)]
  Zp:=[(b,k)]
  o:=some ()
  ws:=λ_=>[.t d (.ref b 0 n)]
  dt:=[]
  JN:=(by grind)
  ok:=λ_ _ x st hop hdst hvs hb hd=>by
    obtain⟨hdn,hu⟩:=hd d rfl;have key:I9 P G x st (st.put (some d) (.ref b 0 n)):=by
      rw[<-hdst];refine E3 (by grind [W2]) λγ a w hs=>?_;have hx:=hvs (ox,.ptr b 0 0) (by simp) γ a w hs;have hk:=hb (b,k) (by simp);obtain⟨B,o,hv,hl⟩:=hx.Zh hk;have hat:Tp γ w st.b st.u b k:=by
        rcases hs.b b k hk with⟨h0,_⟩|hm|ha
        · grind
        · exact(hm.small hM).elim
        · exact ha
      obtain⟨_,B',o',cs,e',g1,g2,g3,g4,g5,g6,_,_⟩:=hat;rw[hl] at g1;simp only[zG,zT] at g1;obtain⟨rfl,rfl⟩:=g1;obtain⟨ej,hej,hsz⟩:=zJ.1 he;have ha:P.arrayLen t=n:=by simp[Program.arrayLen,ht]
      have hel:P.elem t=e:=by simp[Program.elem,ht]
      refine⟨.slice (some ⟨B,o+(0 * k.size+0),none⟩) n n,?_,?_⟩
      · simp_all [run_sliceAt_array_all,ok,Option.map_none,zX,zZ,wI,sizeOf,typeInfo,execOp,slicedAt,Addr.add]
      · have:=Qz.ref (γ:=γ) (w:=w) (bs:=st.b) (u:=st.u) b 0 n B o n k hk hl (by omega) (zQ _) (g3.room (by grind)) hM (by omega);grind
    exact key
def Qh.Qdu{P:Program}{G:zi}(f:FuncId){fn:Func}(ox oy oc:Operand)(ts:Array TypeId)(d:Nat)(x y c:Int)(hf:P.funcs[f]?=some fn)(hname:(fn.name== "runtime.NumGoroutine")=false)(hb:fn.body.isNone=true)(hn:Extern.findNext fn=none)
  (he:Extern.find fn=some add64Entry):Qh P G (Int×Int) where
 op:=.call { callee:=.value (.func f),args:=#[ox,oy,oc],argTypes:=ts }
 dst:=some d
 ZN:=[(ox,.int .u64 x),(oy,.int .u64 y),(oc,.int .u64 c)]
 Zp:=[]
 o:=bif decide (0<=x)&&decide (0<=y)&&decide (0<=c)&&decide (c<=1) then some ((x+y+c) % 18446744073709551616,(x+y+c) / 18446744073709551616) else none
 ws:=λr=>[.t d (.Qc [.int .u64 r.1,.int .u64 r.2])]
 dt:=[]
 JN:=(by grind)
 ok:=λr ho q st=>by
  cases h:decide (0<=x)&&decide (0<=y)&&decide (0<=c)&&decide (c<=1) with
  | false=>grind
  | true=>
   rw[h] at ho;obtain rfl:=wu ho;exact(Qh.Qd1 (P:=P) (G:=G) f ox oy oc ts d x y c hf hname hb hn he).ok () (by show (bif _ then _ else _)=_;rw[h];rfl) q st
def Qh.Qao{P:Program}{G:zi}(f:FuncId){fn:Func}(os oc:Operand)(ts:Array TypeId)(d:Nat)(s:ze)(c:Int)(hf:P.funcs[f]?=some fn)(hname:(fn.name== "runtime.NumGoroutine")=false)(hb:fn.body.isNone=true)(hn:Extern.findNext fn=none)
    (he:Extern.find fn=some Extern.BytealgIndexByte.indexByte):Qh P G Unit where
  op:=.call { callee:=.value (.func f),args:=#[os,oc],argTypes:=ts }
  dst:=some d
  ZN:=[(os,.str s),(oc,.int .u8 c)]
  Zp:=[]
  o:=some ()
  ws:=λ_=>[.t d (.int .i64 (firstIdx s c.toNat.toUInt8))]
  dt:=[]
  JN:=(by grind)
  ok:=λ_ _ q st hop hdst hvs _ hd=>by
    obtain⟨hdn,hu⟩:=hd d rfl;have key:I9 P G q st (st.put (some d) (.int .i64 (firstIdx s c.toNat.toUInt8))):=by
      rw[<-hdst];refine E3 (by grind [W2]) λγ a w hs=>?_;have e1:=(hvs (os,.str s) (by simp) γ a w hs).QE;have e2:=(hvs (oc,.int .u8 c) (by simp) γ a w hs).Qf;refine⟨.int .i64 (firstIdx s c.toNat.toUInt8),?_,.data (.int _ _)⟩;have e : (execOp a.eval q) = (do let d <- resolve a.eval { callee := .value (.func f), args := #[os, oc], argTypes := ts } q.type; invoke d.target d.args) := by
        unfold execOp;rw[hop]
      have hr:=run_callFunc_extern hf hname hb hn he #[.string s,.int .u8 c] w;rw[run_indexByte_string s c] at hr;rw[e];have ef:a.eval (.func f)=.func (.func f) #[] #[]:=rfl;grind [resolve,Deferred.ofValue,invoke,Result.andThen]
    exact key
section
variable {P:Program} {G:zi}
theorem Sc{g:Operand}{L:YL}{bs:zj}{f:FuncId}{fi:Func}{c:Code}{first caps:List V}{R Rp:Exit->(zj)->Prop}{Q:Exit->St->Prop}
  (hg:(E6 L.n L.t bs).ev G g=some (.fn f first caps)) (ht:∀i,okV X8 (L.t i)=true) (hf:P.funcs[f]?=some fi) (hb:fi.body=some c) (hname:(fi.name== "runtime.NumGoroutine")=false) (hres:fi.results=#[])
  (hi:LK P G c (max fi.ntmps (first.length+1+caps.length)) (λl=>first++.QP l :: caps) bs L R Rp)
  (hR:∀e b',R e b'->(e=.normal\/e=.ret\/∃id,e=.exit id)/\Q e (E6 L.n L.t b')) (hp:∀e b',Rp e b'->Q e (E6 L.n L.t b')):TV P G (.rangeFunc g L.ps L.assign L.body) (E6 L.n L.t bs) Q:=λfx γ a w hs hx=>by
 refine wpIn_rangeFunc λfn _=>?_;obtain⟨fs,cv,hv,l1,l2,p1,p2⟩:=(hs.ev hg).Hq;obtain⟨l,D,Ds,w1,hrun,hnd,hL,gw,hown,hlo,hdf⟩:=VF (P:=P) (L:=L) fn hs hx;have env:Env G L γ w bs l D Ds w1.heap.size a.tmps (I2 fn a.tmps L.ps L.assign L.body D .normal) γ bs Qw w1:=
  ⟨hs,gw.1,Zf.refl hs.u,hL,hown,(by grind),hdf⟩
 have hbody':¬fi.body=none:=by rw[hb];simp
 have hname':¬fi.name= "runtime.NumGoroutine":=by grind
 refine⟨l,Ds.map YQ,w1,{ target:=.fn (.func f) cv.toArray,args:=fs.toArray++#[Value.func (Fn.yield l) #[] #[]] },w1,f,fs.toArray++#[Value.func (Fn.yield l) #[] #[]]++cv.toArray,w1,hrun,?_,λ_ _=>trivial,?_,(by grind [RF,Fence.wide]),?_⟩
 ·simp_all [resolve,rangeCall,Deferred.ofValue,Act.eval]
 ·simp_all [invoke,callFunc]
 ·refine RL ((callsIn_wide (n:=0)).1 (callsIn_of_wp_marks hf hb trivial ?_));have key:=hi fn γ w bs l D Ds w1.heap.size a.tmps γ
   { tmps:=(fs.toArray++#[Value.func (Fn.yield l) #[] #[]]++cv.toArray)++Array.replicate (fi.ntmps - (fs.toArray++#[Value.func (Fn.yield l) #[] #[]]++cv.toArray).size) undef,defers:=[] } w1 env ?_ rfl
  ·refine wpIn_mono key λe a' w' h=>?_;obtain⟨e2,b',γ',ni,ti,tm,h3,h4,h5,Es,k1,k2,k3⟩:=h;have inv:∀E w'',E∈Es->(Env G L γ w bs l D Ds w1.heap.size a.tmps (I2 fn a.tmps L.ps L.assign L.body D e2) γ' b' Qw w''/\Qs G γ' (E6 ni ti b') tm w'')->w''.heap[E]?=some (.deferred (some []))->
     Env G L γ w bs l D Ds w1.heap.size a.tmps (I2 fn a.tmps L.ps L.assign L.body D e2) γ' b' Qw (w''.putObj E (.deferred none))/\Qs G γ' (E6 ni ti b') tm (w''.putObj E (.deferred none)):=λE w'' hE hI hd=>
    ⟨hI.1.put hd rfl (by grind) (by grind) (by grind),(Y4.put hd rfl).Nc hI.2⟩
   have lift:∀{r w3},Env G L γ w bs l D Ds w1.heap.size a.tmps r γ' b' Qw w3->Qs G γ' (E6 ni ti b') tm w3->∀e3 a3,a3.tmps=a.tmps->a3.defers=Ds.map YQ++a.defers->Q e3 (E6 L.n L.t b')->L7 G fx γ (E6 L.n L.t bs) w Q e3 a3 w3:=λ{r w3} h6 h5 e3 a3 e1 e2 hq=>
    ⟨E6 L.n L.t b',γ',by rw[e1];exact h6.jA.resume ht h6.grow h6.Ue h5,⟨h6.grow,h6.Ue⟩,⟨Ds,λh=>by rw[hx.2.1] at h;simp at h,by rw[e2,hx.1],hnd,λE hE=>by
     obtain⟨d1,d2,d3,_⟩:=h6.dfr E hE;grind⟩,hq⟩
   rcases h3 with⟨h1,h3⟩|⟨⟨ch,rfl⟩,h3⟩
   rotate_left
   ·show LeavesInM (RF none) 0 P fi a'.tmps _ a'.defers (.panicking ch) w';rw[k1,<-wS (Es.map YQ)];refine G0 (by simp) (λw''=>Env G L γ w bs l D Ds w1.heap.size a.tmps (I2 fn a.tmps L.ps L.assign L.body D e2) γ' b' Qw w''/\Qs G γ' (E6 ni ti b') tm w'')
     (λw'' hI=>?_) Es w' ⟨h4,h5⟩ k2 (λE hE=>(k3 E hE).2.1) inv
    exact lift hI.1 hI.2 _ { a with defers:=Ds.map YQ++a.defers } rfl rfl (hp _ _ h3)
   have fin:LeavesInM (RF none) 0 P fi a'.tmps (rangePost (RF fx.ro) 0 P l (L7 G fx γ (E6 L.n L.t bs) w Q) { a with defers:=Ds.map YQ++a.defers }) a'.defers .returning w':=by
    rw[k1];refine YU (λw''=>Env G L γ w bs l D Ds w1.heap.size a.tmps (I2 fn a.tmps L.ps L.assign L.body D e2) γ' b' Qw w''/\Qs G γ' (E6 ni ti b') tm w'') (λw'' hI=>?_) Es w' ⟨h4,h5⟩ k2 (λE hE=>(k3 E hE).2.1) inv;obtain⟨h4,h5⟩:=hI;refine⟨.tuple #[],by rw[Ac,hres,zX];simp_all,?_⟩;refine⟨_,_,run_endLoop h4.loop (by grind [I2]),?_⟩;have h6:=h4.record { I2 fn a.tmps L.ps L.assign L.body D e2 with state:=.exhausted };have l6:=lift h6 ((Y4.put h4.loop rfl).Nc h5);obtain⟨q1,q2⟩:=hR e2 b' h3;rcases q1 with rfl|rfl|⟨id,rfl⟩
    ·exact l6 .normal _ rfl rfl q2
    ·exact wpIn_ret (l6 .ret _ rfl rfl q2)
    ·exact wpIn_exit (by grind)
   rcases h1 with rfl|rfl
   ·exact fin
   ·exact fin
  ·refine gw.2.Nc ⟨by show _=max fi.ntmps (first.length+1+caps.length);simp;omega,λi=>?_,hs.b,hs.u,hs.g,hs.o⟩;have hvals:∀j x,(first++.QP l :: caps)[j]?=some x->∃y,(fs++Value.func (Fn.yield l) #[] #[] :: cv)[j]?=some y/\Qz γ w bs Qw x y:=λj x hx=>by
    rcases qa j first.length with hj|hj
    ·rw[wD hj] at hx;have hj':j < fs.length:=by omega
     refine⟨fs[j],by rw[wD hj'];grind,p1 j x _ hx (by grind)⟩
    ·rw[wJ hj] at hx;rw[wJ (by omega)];rw[l1];cases hk:j - first.length with
     | zero=>
      rw[hk] at hx;simp only[qj,zG] at hx;subst hx;exact⟨_,rfl,.data (.QP _)⟩
     | succ k=>
      rw[hk] at hx;simp only[List.getElem?_cons_succ] at hx ⊢;have hk2:=(wF.1 hx).1;exact⟨cv[k]'(by omega),wA (by omega),p2 k x _ hx (wA (by omega))⟩
   have e:((fs.toArray++#[Value.func (Fn.yield l) #[] #[]]++cv.toArray)++Array.replicate (fi.ntmps - (fs.toArray++#[Value.func (Fn.yield l) #[] #[]]++cv.toArray).size) undef).getD i undef=((fs++Value.func (Fn.yield l) #[] #[] :: cv)++List.replicate (fi.ntmps - (fs.length+1+cv.length)) undef).getD i undef:=by
    rw[wL,wP];congr 1;rw[<-Array.getElem?_toList];have hn:fi.ntmps - (fs.toArray++#[Value.func (Fn.yield l) #[] #[]]++cv.toArray).size=fi.ntmps - (fs.length+1+cv.length):=by
     simp only[Array.size_append,List.size_toArray,wV,List.length_nil]
    rw[hn];simp only[Array.toList_append,Array.toList_replicate,List.append_assoc,List.singleton_append]
   show Qz _ _ _ _ _ (Array.getD _ i undef);rw[e];show Qz _ _ _ _ ((first++.QP l :: caps).getD i .undef) _;cases hx:(first++.QP l :: caps)[i]? with
   | none=>rw[wP,hx];exact .undef _
   | some x=>
    obtain⟨y,hy,hr⟩:=hvals i x hx;have hi':=(wF.1 hy).1;rw[wP,wP,hx,wD hi',hy];exact hr
theorem J3.KS{L:YL}{l:Nat}{s:YS}{Q:Exit->YS->Prop}{ops:Array Oper}{i:Nat}{is:List Nat}{o:Oper}{x:Operand}{xs:Array Operand}{ts:Array TypeId}{cs:List V}{R:Exit->(zj)->Prop}(hi:ops[i]?=some o)(hgd:E4 ops s.st o=some true)
  (ho:o.op=.call { callee:=.value x,args:=xs,argTypes:=ts }) (hx:s.st.ev G x=some (.QP l)) (hcs:rO (s.st.ev G) xs.toList=some cs) (hdst:W2 s.st.n o.dst=true)
  (hsu:s.st.u=Qw) (hsx:s.x=.normal) (hti:∀i,okV X8 (s.st.t i)=true) (ht:∀i,okV X8 (L.t i)=true) (hpn:∀p,p∈L.ps.toList->p < L.n) (hps:cs.length=L.ps.size) (hr:JT P G L.n L.t L.ps.toList L.assign L.body s.st.b cs R)
  (hR:∀e b',R e b'->e=.normal\/e=.ret\/∃id,e=.exit id)
  (hn:∀e b',R e b'->J3 P G L l ops is ⟨e,(E6 s.st.n s.st.t b').put o.dst (.bool (Ju e).isNone)⟩ Q):J3 P G L l ops (i :: is) s Q:=λfn γ0 w0 b0 D Ds sz te γ a w he hs hd=>by
 obtain⟨sx,⟨ni,ti,b,u⟩⟩:=s;simp only at hsu hsx;subst hsu;subst hsx;simp only[wpOpsIn,hi];have hw:Region.wanted o (yielded ops a.tmps)=true:=K2 hs hgd;rw[if_pos hw];have pu:∀(e:Exit) (b':zj),((E6 ni ti b').put o.dst (.bool (Ju e).isNone)).b=b'/\((E6 ni ti b').put o.dst (.bool (Ju e).isNone)).u=Qw:=λe b'=>by
  cases o.dst<;>exact⟨rfl,rfl⟩
 exact qS ho hx hcs hs hti ht hpn he hps hr hR hd λe b' γ' w' h1 h2 h3 h4 _=>hn e b' h1 fn γ0 w0 b0 D Ds sz te γ' _ w' (by grind) (h3.put hdst (.data (.bool _))) (by rw[X4];exact h4)
end
theorem TV.Qqi{P:Program}{G:zi}{g:Operand}{ps:Array Tmp}{assign body:Code}{st:St}{f:FuncId}{fi:Func}{c:Code}{first caps:List V}{R Rp:Exit->(zj)->Prop}{Q:Exit->St->Prop}
  (hg:st.shift.ev G g=some (.fn f first caps)) (hf:P.funcs[f]?=some fi) (hb:fi.body=some c) (hname:(fi.name== "runtime.NumGoroutine")=false) (hres:fi.results=#[]) (hu:∀b k,st.b b=some k->st.u b=true) (hpn:∀i,okV X8 (W3 sh (st.t i))=true)
  (hi:LK P G c (max fi.ntmps (first.length+1+caps.length)) (λl=>first++.QP l :: caps) (QZ st.b) ⟨st.n,λi=>W3 sh (st.t i),ps,assign,body⟩ R Rp)
  (hR:∀e b',R e b'->(e=.normal\/e=.ret\/∃id,e=.exit id)/\∃b0,b'=QZ b0/\(⟨st.n,st.t,b0,st.u⟩:St).known/\Q e ⟨st.n,st.t,b0,st.u⟩) (hp:∀e b',Rp e b'->∃b0,b'=QZ b0/\(⟨st.n,st.t,b0,st.u⟩:St).known/\Q e ⟨st.n,st.t,b0,st.u⟩):TV P G (.rangeFunc g ps assign body) st Q:=λfx γ a w hs hx=>by
 have hx':UE fx γ.shift a.defers w:=⟨hx.1,hx.2.1,λl hl=>⟨(hx.2.2 l hl).1,by simp only[Gh.shift,(hx.2.2 l hl).2];rfl⟩⟩
 have key:CW fx.ro P (.rangeFunc g ps assign body) (L7 G fx γ.shift st.shift w (λe s=>∃s':St,s=s'.shift/\s'.u=st.u/\s'.known/\Q e s')) a w  :=Sc (first:=first) (L:=⟨st.n,λi=>W3 sh (st.t i),ps,assign,body⟩) (bs:=QZ st.b) (Q:=λe s=>∃s':St,s=s'.shift/\s'.u=st.u/\s'.known/\Q e s') hg hpn hf hb hname hres hi (λe b' h=>by
   obtain⟨h1,b0,rfl,h2,h3⟩:=hR e b' h;exact⟨h1,⟨st.n,st.t,b0,st.u⟩,rfl,rfl,h2,h3⟩) (λe b' h=>by
   obtain⟨b0,rfl,h2,h3⟩:=hp e b' h;exact⟨⟨st.n,st.t,b0,st.u⟩,rfl,rfl,h2,h3⟩) fx γ.shift a w hs.shift hx'
 grind [wpIn_mono,L7.Qo]
theorem TV.AY{P:Program}{G:zi}{g:Operand}{ps:Array Tmp}{assign body:Code}{st:St}{f:FuncId}{fi:Func}{c:Code}{first caps:List V}{R:Exit->(zj)->Prop}{Q:Exit->St->Prop}
  (hg:st.shift.ev G g=some (.fn f first caps)) (hf:P.funcs[f]?=some fi) (hb:fi.body=some c) (hname:(fi.name== "runtime.NumGoroutine")=false) (hres:fi.results=#[]) (hu:∀b k,st.b b=some k->st.u b=true) (hpn:∀i,okV X8 (W3 sh (st.t i))=true)
  (hi:UM P G c (max fi.ntmps (first.length+1+caps.length)) (λl=>first++.QP l :: caps) (QZ st.b) ⟨st.n,λi=>W3 sh (st.t i),ps,assign,body⟩ R)
  (hR:∀e b',R e b'->(e=.normal\/e=.ret\/∃id,e=.exit id)/\∃b0,b'=QZ b0/\(⟨st.n,st.t,b0,st.u⟩:St).known/\Q e ⟨st.n,st.t,b0,st.u⟩):TV P G (.rangeFunc g ps assign body) st Q:=TV.Qqi hg hf hb hname hres hu hpn hi hR λ_ _ h=>h.elim
theorem gS{l:List (Nat×Qd)}(h:(l.map (·.1)).Nodup){p:Nat×Qd}(hp:p∈l):Qm l p.1=some p.2:=by
 induction l with
 | nil=>simp at hp
 | cons q l ih=>
  rw[AS];grind
theorem QU.mob{G:zi}{lits rest:List (Nat×Qd)}{kd:Qd}{d m n:Nat}(hdm:d≠m)(hpm:X8 m=false)(hm:Qw m=true)(hnd:((lits++(d,kd) :: rest).map (·.1)).Nodup)(hkd:J9 kd.rows)(hrd:∀p,p∈rest->J9 p.2.rows)
  (hl:(lits.all λp=>p.1 != m&&Qw p.1&&(p.2.rows.all λr=>r.all (okV λi=>(((lits++(d,kd) :: rest).map (·.1)).contains i || Qw i)&&i != m))&&((p.2.Qb (M1 d m)).rows.all λr=>r.all (okV Qw)))=true)
  (hr:(rest.all λp=>p.1 != m&&Qw p.1)=true) :
  QU G (D2 n [] (lits++(d,kd) :: rest) ((lits++(d,kd) :: rest).map (·.1))) (E6 n (λ_=>.undef) (Qm ((lits.map λp=>(p.1,p.2.Qb (M1 d m)))++(m,kd) :: rest))):=by
 let bs:=lits++(d,kd) :: rest
 let u1:Nat->Bool:=λi=>(((lits++(d,kd) :: rest).map (·.1)).contains i || Qw i)&&i != m
 let st1:St:=⟨n,λ_=>.undef,Qm bs,u1⟩
 have hbo:∀b k,st1.b b=some k->(b,k)∈bs:=(by grind [P7,Qm])
 have hne:∀p,p∈bs->p.1≠m:=(by grind)
 have f1:N7 (D2 n [] bs (bs.map (·.1))) st1:=⟨rfl,λi=>.inl rfl,λb=>.inr ⟨rfl,λk hk=>by
  have hmem:=hbo b k hk;refine⟨?_,λr hr' c hc=>?_⟩
  ·grind
  ·rcases ww.1 hmem with h|h
   ·grind
   ·rcases zY.1 h with h|h
    ·cases h;exact R1 (hkd r hr' c hc) _
    ·exact R1 (hrd _ h r hr' c hc) _⟩,(by grind [HA,Qw])⟩
 have hu1:st1.u m=false:=by grind
 refine QU.trans (QU.forget f1) (QU.trans (QU.ZB hdm hu1) (QU.forget ⟨rfl,λi=>.inl rfl,λb=>?_,λb hb=>HA hb⟩));show Qm _ b=none\/_;cases hf:Qm ((lits.map λp=>(p.1,p.2.Qb (M1 d m)))++(m,kd) :: rest) b with
 | none=>exact .inl rfl
 | some k=>
  have hmem:=P7 hf;have look:∀p,p∈bs->st1.b p.1=some p.2:=λp hp=>gS hnd hp;rcases ww.1 hmem with h|h
  ·obtain⟨p,hp,e⟩:=zP.1 h;simp only[zT] at e;obtain⟨rfl,rfl⟩:=e;have hpm':=hne p (qg _ hp);have hpd:p.1≠d:=(by grind);have hall:=zN.1 hl p hp;simp only[zL] at hall;refine .inr ⟨?_,λk hk=>?_⟩
   ·show Qm _ p.1=(if p.1=m then (st1.b d).map (Qd.Qb (M1 d m)) else if p.1=d then none else (st1.b p.1).map (Qd.Qb (M1 d m)));grind
   ·have hk':(if p.1=m then (st1.b d).map (Qd.Qb (M1 d m)) else if p.1=d then none else (st1.b p.1).map (Qd.Qb (M1 d m)))=some k:=hk;rw[if_neg hpm',if_neg hpd,look p (qg _ hp)] at hk';simp only[wQ,zG] at hk';subst hk';exact⟨hall.1.1.2,λr hr' c hc=>zN.1 (zN.1 hall.2 r hr') c hc⟩
  ·rcases zY.1 h with h|h
   ·cases h;refine .inr ⟨?_,λk' hk=>?_⟩
    ·show Qm _ m=(if m=m then (st1.b d).map (Qd.Qb (M1 d m)) else if m=d then none else (st1.b m).map (Qd.Qb (M1 d m)));rw[hf,if_pos rfl,look (d,kd) (by simp[bs])];simp only[wQ,hkd.Qb]
    ·have hk':(if m=m then (st1.b d).map (Qd.Qb (M1 d m)) else if m=d then none else (st1.b m).map (Qd.Qb (M1 d m)))=some k':=hk;rw[if_pos rfl,look (d,kd) (by simp[bs])] at hk';simp only[wQ,hkd.Qb,zG] at hk';subst hk';exact⟨hm,λr hr' c hc=>R1 (hkd r hr' c hc) _⟩
   ·have hin:(b,k)∈bs:=(by grind)
    have hpm':b≠m:=hne _ hin;have hpd:b≠d:=(by grind)
    have hall:=zN.1 hr _ h;simp only[zL] at hall;have hk3:(k:Qd).Qb (M1 d m)=k:=(hrd _ h).Qb _;refine .inr ⟨?_,λk' hk=>?_⟩
    ·show Qm _ b=(if b=m then (st1.b d).map (Qd.Qb (M1 d m)) else if b=d then none else (st1.b b).map (Qd.Qb (M1 d m)));grind
    ·have hk':(if b=m then (st1.b d).map (Qd.Qb (M1 d m)) else if b=d then none else (st1.b b).map (Qd.Qb (M1 d m)))=some k':=hk;rw[if_neg hpm',if_neg hpd,look (b,k) hin] at hk';simp only[wQ,hk3,zG] at hk';subst hk';exact⟨hall.2,λr hr' c hc=>R1 (hrd _ h r hr' c hc) _⟩
def cL:Code->Code
 | .seq x _=>x
 | _=>.skip
def cR:Code->Code
 | .seq _ y=>y
 | _=>.skip
def cB:Code->Code
 | .block _ y=>y
 | .loop y=>y
 | .scope y=>y
 | _=>.skip
def MS:Code->Code
 | .rangeFunc _ _ a _=>a
 | _=>.skip
def I3:Code->Code
 | .rangeFunc _ _ _ b=>b
 | _=>.skip
def Oo:Code->Array Oper
 | .region _ o _=>o
 | _=>#[]
theorem ZH{σ ε:Type}(f:σ->Option (σ⊕ε))(m:Nat)(x:σ):I0 f (m+1) x=(match f x with|none=>none|some (.inl z)=>I0 f m z|some (.inr e)=>some e):=by
 grind [I0]
theorem QU.same{G:zi}(st:St):QU G st st:=λγ _ w hs=>⟨γ,hs,.refl γ w,.refl hs.u⟩
theorem Ys{l:List (Nat×Qd)}{b:Nat}{k:Qd}(h:Qm l b=some k):∃q,q∈l/\q.1=b/\q.2=k:=by
 grind [List.mem_of_find?_eq_some,Option.some.inj,Qm]
section
variable {P:Program} {G:zi}
end
theorem Qe.below{γ:Gh}{w w':World}(b:RowKit.Below w.heap.size w w'):Qe γ w γ w' where
 os:=b.os
 tape:=b.tape
 output:=b.output
 size:=b.size
 Pf:=λB o v _ h=>by
  have hb:=UU h;unfold cellAt World.cell? at h ⊢;rw[b.block B hb];exact h
 Qr:=λ_ _=>zQ _
 free:=λB hB h=>⟨b.block B hB,h,rfl⟩
 room:=λB cs e fz h=>by
  refine⟨cs,fz,?_,rfl,.inl rfl⟩;rw[b.block B (by
   grind)]
  exact h
theorem Hk{P:Program}{G:zi}{f:FuncId}{args:List V}{res:V}{v:Value}
  (h:∀(γ:Gh) (w:World) as,U4 γ w (Qm []) Qw args as->Calls P f as w λe w'=>e=.returned v/\RowKit.Below w.heap.size w w')
  (hres:∀(γ:Gh) (w:World) bs u,Qz γ w bs u res v):QR P G f args (Qm []) res (Qm []):=λγ w as _ hown hc _=>by
 refine(h γ w as hc).mono λe w' hh=>?_;obtain⟨rfl,b⟩:=hh;refine⟨v,γ,rfl,Qe.below b,?_,hres _ _ _ _,(by grind [Qm]),λB x hB=>wZ (hown B x hB) b.size⟩;exact λb _=>(by grind)
theorem RN{P:Program}{G:zi}{f:FuncId}{args:List V}{vs:Array Value}{res:V}{v:Value}
  (hargs:∀(γ:Gh) (w:World) as,U4 γ w (Qm []) Qw args as->as=vs) (h:∀w,Calls P f vs w λe w'=>e=.returned v/\RowKit.Below w.heap.size w w')
  (hres:∀(γ:Gh) (w:World) bs u,Qz γ w bs u res v):QR P G f args (Qm []) res (Qm []):=
 Hk (λγ w as hc=>by obtain rfl:=hargs γ w as hc;exact h w) hres
theorem Py{γ:Gh}{w:World}{x y:V}{as}(h:U4 γ w (Qm []) Qw [x,y] as):∃a b,as=#[a,b]/\Qz γ w (Qm []) Qw x a/\Qz γ w (Qm []) Qw y b:=by
 obtain⟨h1,h2⟩:=h;match as,h1 with
 | ⟨[a,b]⟩,_=>exact⟨a,b,rfl,h2 0 x a rfl rfl,h2 1 y b rfl rfl⟩
theorem aM{s:ze}(γ:Gh)(w:World) as (h:U4 γ w (Qm []) Qw [.str s] as):as=#[.string s]:=by
 obtain⟨h1,h2⟩:=h;have h0:0 < as.size:=by grind
 have:=(h2 0 (.str s) as[0] rfl (by grind)).QE;grind
def LM(P:Program)(G:zi)(f:FuncId)(args:List V)(ins:zj)(u u':FrameMode)(outs:zj):Prop:=
 ∀(γ:Gh) (w:World) (as:Array Value),Ha G γ w->(∀B x,γ.own B=some x->B < w.heap.size)->U4 γ w ins Qw args as->
  (∀b k,ins b=some k->Qw b=true/\X3 γ w ins Qw b k)->
  CallsDIn (RF none) 0 P f as u w λe u2 w'=>u2=u'/\∃v γ',e=.returned v/\Qe γ w γ' w'/\Zf γ ins Qw γ' outs (λ_=>true)/\
   (∀b k,outs b=some k->X3 γ' w' outs (λ_=>true) b k)/\(∀B x,γ'.own B=some x->B < w'.heap.size)
theorem Qz.Cm{γ γ':Gh}{w w':World}{bs bs':zj}{u u':zl}{b i o:Nat}{v:Value}{k:Qd}(h:Qz γ w bs u (.ptr b i o) v)(hk:bs b=some k)(hb:X8 b=true)(p:Zf γ bs u γ' bs' u') :
  Qz γ' w' bs' u' (.ptr b i o) v:=by
 obtain⟨B,off,rfl,hl⟩:=h.Zh hk;have hM:=h.Za hk;obtain⟨h1,h2⟩:=(p b hb).2.2 k hk;rcases h2 with h2|⟨k',q1,q2,_,q4⟩
 ·exact .QH b i o _ h2 h1 rfl
 ·have:=Qz.ptr (γ:=γ') (w:=w') (u:=u') b i o B off k' q1 (q4.trans hl) (by grind);grind
theorem Xq{γ γ':Gh}{ins outs:zj}(p:Zf γ ins Qw γ' outs (λ_=>true))(h1:∀b k,ins b=some k->X8 b=true)(h2:∀b k,outs b=some k->X8 b=true):G7 γ ins Qw γ' outs (λ_=>true):=by
 refine⟨λ_ _=>rfl,λb hb hn=>?_,λb k hk=>(p b (h1 b k hk)).2.2 k hk⟩;cases ho:outs b with
 | none=>rfl
 | some k=>have:=(p b (h2 b k ho)).2.1 hb hn;grind
theorem Qe.Qo{γ γ1:Gh}{w w':World}(h:Qe γ.shift w γ1 w'):Qe γ w γ1.Qo w':=by
 have none1:∀B,γ1.own B=none->γ1.Qo.own B=none:=(by grind [Gh.Qo]);refine⟨h.os,h.tape,h.output,h.size,h.Pf,h.Qr,λB hB hn=>?_,h.room⟩;obtain⟨a1,a2,a3⟩:=h.free B hB (by grind [Gh.shift]);exact⟨a1,none1 B a2,a3⟩
section
variable {P:Program} {G:zi}
def iE(P:Program)(G:zi)(Qg:Exit->St->Prop):List Code->St->Prop
 | [],st=>Rel P G Qg .normal st
 | a :: as,st=>TV P G a st (Qx P G Qg (as.map Kf.seq))
theorem Tg{Qg:Exit->St->Prop}{e:Exit}{st:St}(he:e≠.normal):∀{as:List Code},Qx P G Qg (as.map Kf.seq) e st->Qg e st
 | [],h=>h
 | a :: as,h=>by
  simp only[wE,Qx] at h;cases e with
  | normal=>grind
  | _=>exact Tg he (as:=as) h
theorem II{Qg:Exit->St->Prop}{rest:Code}{IC:Exit->Act->World->Prop}:∀(As:List Code) (st:St),iE P G Qg As st->∀(fx:Fx) (γ:Gh) (a:Act) (w:World),Qs G γ st a.tmps w->UE fx γ a.defers w->
  (∀e a' w',L7 G fx γ st w Qg e a' w'->(e=.normal->CW fx.ro P rest IC a' w')/\(e≠.normal->IC e a' w'))->CW fx.ro P (As.foldr Code.seq rest) IC a w
 | [],st,h,fx,γ,a,w,hs,hd,K=>(K .normal a w (h fx γ a w hs hd.1)).1 rfl
 | c :: as,st,h,fx,γ,a,w,hs,hd,K=>by
  refine wpIn_seq (wpIn_mono (h fx γ a w hs hd) λe a' w' hl=>?_);by_cases he:e=.normal
  ·subst he;show CW fx.ro P (as.foldr Code.seq rest) IC a' w';obtain⟨st',γ',h1,h2,h3,h4⟩:=hl;refine II as st' ?_ ⟨fx.ro,a'.defers,fx.mx⟩ γ' a' w' h1 (hd.step h2.1) λe2 a2 w2 hl2=>K e2 a2 w2 (hl2.Lf h2 h3);cases as with
   | nil=>exact Rel.of (P:=P) h4
   | cons b bs=>exact h4
  ·have hp:=(K e a' w' (by
    obtain⟨st',γ',h1,h2,h3,h4⟩:=hl;exact⟨st',γ',h1,h2,h3,Tg he h4⟩)).2 he
   cases e with
   | normal=>grind
   | _=>exact hp
def Left(u:FrameMode)(ex:Exit):Prop:=(ex=.ret/\u=.returning)\/(ex=.normal/\u=.returning)\/∃ch,ex=.panic ch/\u=.panicking ch
theorem RP{f g:FuncId}{fn:Func}{As:List Code}{rest:Code}{rid t n:Nat}{o0 o1:Oper}{args caps:List V}{ins insD outsD:zj}{S0 S1 S2:St}{ex:Exit}{u u':FrameMode}{res:V}
  (hf:P.funcs[f]?=some fn) (hb:fn.body=some (As.foldr Code.seq (.seq (.region rid #[o0,o1] false) rest))) (hn:n=max fn.ntmps args.length)
  (hA:iE P G (λe s=>e=.normal/\QU G s S0) As (U3 n args ins)) (hsh:QU G S0.shift S1)
  (h0:I9 P G o0 S1 (S1.put (some t) (.fn g [] caps))) (hg0:E4 #[o0,o1] S1 o0=some true)
  (h1:o1.op=.defer { callee:=.value (.tmp t),args:=#[],argTypes:=#[] }) (h1d:o1.dst=none) (hg1:E4 #[o0,o1] (S1.put (some t) (.fn g [] caps)) o1=some true)
  (hB:TV P G rest (S1.put (some t) (.fn g [] caps)) (λe s=>e=ex/\QU G s S2)) (hex:Left u ex)
  (hcap:∀c,c∈caps->∃b k,c=.ptr b 0 0/\X8 b=true/\S1.b b=some k) (ht:t < S1.n)
  (hS2:S2.b=insD/\S2.u=Qw) (hpin:(∀b k,insD b=some k->X8 b=true)/\∀b k,outsD b=some k->X8 b=true)
  {fg:Func} (hfg:P.funcs[g]?=some fg) (hfgb:fg.body.isSome=true) (hfgn:(fg.name== "runtime.NumGoroutine")=false)
  (hD:LM P G g caps insD u u' outsD) (hu':settle u'=.returning)
  (hres:F1 P ⟨S2.n,S2.t,outsD,λ_=>true⟩ fn.results.toList=some res) (hflat:∀(γ:Gh) (w:World) v,Qz γ w outsD (λ_=>true) res v->Qz γ.Qo w Ot (λ_=>true) res v) :
  QR P G f args ins res Ot:=by
 intro γ w as hg ho ha hbl;have hsz:as.size=args.length:=ha.1;have hs:Qs G γ (U3 n args ins) (as++Array.replicate (fn.ntmps - as.size) undef) w:=by
  refine⟨by grind [Array.size_append,Array.size_replicate,U3],λi=>?_,λb k hk=>(hbl b k hk).2,λb k hk=>(hbl b k hk).1,hg,ho⟩;show Qz γ w ins Qw (args.getD i .undef) _;by_cases hi:i < args.length
  ·have e1:args.getD i .undef=args[i]:=by grind
   have e2:(as++Array.replicate (fn.ntmps - as.size) undef).getD i undef=as[i]'(by omega):=by
    simp_all [wL,Array.getElem?_append_left,wB]
   rw[e1,e2];exact ha.2 i _ _ (by grind) (by grind)
  ·have e1:args.getD i .undef=.undef:=by grind
   rw[e1];exact .undef _
 refine(callsIn_wide (n:=0)).1 (callsIn_of_wp_marks hf hb trivial ?_);refine II As _ hA ⟨none,[],true⟩ γ ⟨_,[]⟩ w hs ⟨rfl,rfl,λ_ h=>by simp at h⟩ λe a1 w1 hl=>⟨λhe=>?_,λhe=>?_⟩
 rotate_left
 ·obtain⟨_,_,_,_,_,q,_⟩:=hl;grind
 subst he;obtain⟨s1,γ0,k1,⟨g1,p1⟩,⟨Ds,_,m1,m2,m3⟩,_,gs⟩:=hl;obtain⟨γ1,k2,g2,_⟩:=gs γ0 a1.tmps w1 k1;obtain⟨γ1',k2',g2',_⟩:=hsh γ1.shift a1.tmps w1 k2.shift;simp only[wS] at m1;refine wpIn_seq (wpIn_region ?_);have hr:List.range (#[o0,o1]:Array Oper).size=[0,1]:=rfl;rw[hr];simp only[wpOpsIn,show (#[o0,o1]:Array Oper)[0]?=some o0 from rfl,show (#[o0,o1]:Array Oper)[1]?=some o1 from rfl];rw[if_pos (K2 k2' hg0)];refine Lj (h0 ⟨none,a1.defers,false⟩ γ1' a1 w1 k2' rfl _ _ (by grind)) (h0 ⟨none,a1.defers,true⟩ γ1' a1 w1 k2' rfl _ _ λa2 w2 γ2 k3 g3 p3 d3=>?_);rw[if_pos (K2 k3 hg1)];have hv:Qz γ2 w2 (S1.put (some t) (.fn g [] caps)).b (S1.put (some t) (.fn g [] caps)).u (.fn g [] caps) (a2.eval (.tmp t)):=by
  have:=k3.t t;have e:(S1.put (some t) (.fn g [] caps)).t t=.fn g [] caps:=by simp[St.put,St.QG]
  rw[e] at this;exact this
 obtain⟨fs,cv,hval,hf0,hcl,_,hcv⟩:=hv.Hq;have hfs:fs=[]:=(by grind);subst hfs;let d:Deferred:={ target:=.fn (.func g) cv.toArray,args:=#[] };refine⟨λ_ _=>trivial,?_⟩;have hrun:(execOp a2.eval o1).run P w2=.ok (.defer d) w2:=by
  grind [Sem.run_bind,Sem.run_pure,Result.andThen_ok,execOp,resolve,pure,Deferred.ofValue]
 show o1.uponIn (RF none) 0 P a2 _ _ ((o1.semAt none a2.eval).run P w2);rw[Oper.semAt_none,hrun];show rest.wpIn (RF none) 0 P _ ({ a2 with defers:=d :: a2.defers }.put o1.dst undef) w2;rw[h1d];show rest.wpIn (RF none) 0 P _ ({ a2 with defers:=d :: a2.defers }:Act) w2;refine wpIn_mono (hB ⟨none,d :: a2.defers,true⟩ γ2 { a2 with defers:=d :: a2.defers } w2 k3 (UE.free _ _)) λe a4 w4 hl=>?_;obtain⟨s4,γ3,k4,⟨g4,p4⟩,⟨Ds4,_,n1,n2,n3⟩,rfl,gs4⟩:=hl;obtain⟨γ4,k5,g5,p5⟩:=gs4 γ3 a4.tmps w4 k4;have key:LeavesInM (RF none) 0 P fn a4.tmps (λe w'=>∃v γ',e=.returned v/\Qe γ w γ' w'/\Zf γ ins Qw γ' Ot (λ_=>true)/\Qz γ' w' Ot (λ_=>true) res v/\
   (∀b k,Ot b=some k->X3 γ' w' Ot (λ_=>true) b k)/\(∀B x,γ'.own B=some x->B < w'.heap.size)) a4.defers u w4:=by
  rw[n1];have hur:u≠.run:=by
   rcases hex with⟨_,h⟩|⟨_,h⟩|⟨_,_,h⟩<;>rw[h]<;>simp
  refine G0 hur (λw5=>Qs G γ4 S2 a4.tmps w5/\Qe γ2 w2 γ4 w5) (λw5 hI=>?_) Ds4 w4 ⟨k5,g4.trans g5⟩ n2 (λD hD=>(n3 D hD).2.1) λD w5 hD hI hd=>
   ⟨(Y4.put hd rfl).Nc hI.1,hI.2.put hd rfl (n3 D hD).1⟩
  obtain⟨i1,i2⟩:=hI;have hinv:(invoke d.target d.args).run P w5=.ok (.enter g cv.toArray) w5:=by
   show (callFunc g (#[]++cv.toArray)).run P w5=_;have hname':¬fg.name= "runtime.NumGoroutine":=by grind
   have hbody':¬fg.body=none:=(by grind);simp_all [callFunc]
  refine⟨hur,.inr ⟨(by grind [RF,Fence.wide]),.func g,cv.toArray,g,cv.toArray,rfl,hinv,λ_ _=>trivial,?_⟩⟩;have ptot:=p4.trans p5;rw[hS2.1,hS2.2] at ptot;have hcells:U4 γ4 w5 insD Qw caps cv.toArray:=⟨by grind,λi c v hc hvv=>by
   obtain⟨b,k,rfl,c2,c3⟩:=hcap c (wd hc);have hrep:=hcv i _ v hc (by simpa using hvv);exact(Qz.Cm (w':=w5) hrep (k:=k) c3 c2 ptot)⟩
  have hblk:∀b k,insD b=some k->Qw b=true/\X3 γ4 w5 insD Qw b k:=λb k hk=>by
   refine⟨HA (hpin.1 b k hk),?_⟩;have:=i1.b b k (by grind);grind
  refine(hD γ4 w5 cv.toArray i1.g i1.o hcells hblk).mono λe u2 w6 hR=>?_;obtain⟨rfl,v6,γ5,rfl,g6,p6,b6,o6⟩:=hR;show LeavesInM (RF none) 0 P fn a4.tmps _ a2.defers (settle u2) w6;rw[hu',show a2.defers=Ds.map YQ from d3.trans m1];have gall:Qe γ0 w1 γ5.Qo w6:=g2.trans (g2'.trans (g3.trans (i2.trans g6))).Qo;have ble:=Xq p6 hpin.1 hpin.2;have hsim:Qs G γ5 ⟨S2.n,S2.t,outsD,λ_=>true⟩ a4.tmps w6:=by
   refine⟨i1.n,λi=>?_,λb k hk=>b6 b k hk,λ_ _ _=>rfl,i1.g.grow g6,o6⟩;have:=i1.t i;rw[hS2.1,hS2.2] at this;exact this.mono g6 ble
  refine YU (λw7=>Qs G γ5 ⟨S2.n,S2.t,outsD,λ_=>true⟩ a4.tmps w7/\Qe γ w γ5.Qo w7) (λw7 hI=>?_) Ds w6 ⟨hsim,g1.trans gall⟩ m2 (λD hD=>?_) λD w7 hD hI hd=>
   ⟨(Y4.put hd rfl).Nc hI.1,hI.2.put hd rfl (m3 D hD).1⟩
  ·obtain⟨j1,j2⟩:=hI;obtain⟨v,hv,hrep⟩:=C6 (P:=P) j1 hres;exact⟨v,hv,v,γ5.Qo,rfl,j2,λb _=>⟨λ_=>rfl,λ_ _=>rfl,λ_ _=>⟨rfl,.inl rfl⟩⟩,hflat _ _ _ hrep,(by grind [Ot]),λB x hx=>by
    simp only[Gh.Qo] at hx;obtain⟨y,hy,_⟩:=wq.1 hx;exact j1.o B y hy⟩
  ·obtain⟨_,q1,q2⟩:=m3 D hD;exact(gall.free D (wN.1 q1).1 q2).1.trans q1
 rcases hex with⟨rfl,h⟩|⟨rfl,h⟩|⟨ch,rfl,h⟩
 ·subst h;exact key
 ·subst h;exact key
 ·subst h;exact key
theorem Wo(I:World->Prop):∀(Ds:List Nat) (fr:Frame) (cs:List Frame) (w:World),fr.mode≠.run->fr.defers=Ds.map YQ->I w->Ds.Nodup->(∀D,D∈Ds->w.heap[D]?=some (.deferred (some [])))->
  (∀D w,D∈Ds->I w->w.heap[D]?=some (.deferred (some []))->I (w.putObj D (.deferred none)))->
  ∃w',I w'/\StepsIn (Machine.fenced P (RF none)) P (lone fr cs w) (lone { fr with defers:=[] } cs w')
 | [],fr,cs,w,_,hd,hI,_,_,_=>by
  refine⟨w,hI,?_⟩;have:{ fr with defers:=[] }=fr:=by cases fr;grind
  rw[this];exact .refl _
 | D :: Ds,fr,cs,w,hm,hd,hI,hn,hh,hp=>by
  have hn':=List.nodup_cons.1 hn;have h1:=step_collected (cs:=cs) hm (d:=YQ D) (ds:=Ds.map YQ) (by simpa using hd) rfl (run_takeDeferred (P:=P) (hh D (by simp)));obtain⟨w',k1,k2⟩:=Wo I Ds { fr with defers:=[]++Ds.map YQ } cs (w.putObj D (.deferred none)) hm (by simp) (by grind) hn'.2 (by grind [World.putObj_heap_other]) (by grind);exact⟨w',k1,.head (RF.fenced _ _ _) h1 k2⟩
def WE(u:FrameMode)(rv:Value)(u':FrameMode):Prop:=
 (u=.returning/\rv=.nilIface/\u'=.returning)\/∃v older,u=.panicking ({ v:=v,recovered:=false } :: older)/\rv=v/\u'=.panicking ({ v:=v,recovered:=true } :: older)
theorem BQ{f:FuncId}{fn:Func}{rest:Code}{rid t1 t2 n:Nat}{o0 o1:Oper}{args:List V}{ins outs:zj}{u u':FrameMode}{rv:Value}
  (hf:P.funcs[f]?=some fn) (hb:fn.body=some (.seq (.region rid #[o0,o1] false) rest)) (hn:n=max fn.ntmps args.length)
  (h0:o0.op=.call { callee:=.builtin .recover,args:=#[],argTypes:=#[] }) (h0d:o0.dst=some t1) (h0g:o0.guard=none)
  (h1:o1.op=.assign (.tmp t1)) (h1d:o1.dst=some t2) (h1g:o1.guard=none) (ht1:t1 < n) (ht2:t2 < n)
  (hi:Wn rv=true) (hr:WE u rv u') (hres:fn.results=#[])
  (hB:TV P G rest (((U3 n args ins).put (some t1) (.Zu rv)).put (some t2) (.Zu rv)) (λe s=>(e=.normal\/e=.ret)/\∃s2,QU G s s2/\∀b k,outs b=some k->s2.b b=some k)) :
  LM P G f args ins u u' outs:=by
 intro γ w as hg ho ha hbl;have hsz:as.size=args.length:=ha.1;have hs:Qs G γ (U3 n args ins) (as++Array.replicate (fn.ntmps - as.size) undef) w:=by
  refine⟨by grind [Array.size_append,Array.size_replicate,U3],λi=>?_,λb k hk=>(hbl b k hk).2,λb k hk=>(hbl b k hk).1,hg,ho⟩;show Qz γ w ins Qw (args.getD i .undef) _;by_cases hi:i < args.length
  ·have e1:args.getD i .undef=args[i]:=by grind
   have e2:(as++Array.replicate (fn.ntmps - as.size) undef).getD i undef=as[i]'(by omega):=by
    simp_all [wL,Array.getElem?_append_left,wB]
   rw[e1,e2];exact ha.2 i _ _ (by grind) (by grind)
  ·have e1:args.getD i .undef=.undef:=by grind
   rw[e1];exact .undef _
 refine⟨trivial,λc₀ cs hu hroom=>?_⟩;let a0:Act:=⟨as++Array.replicate (fn.ntmps - as.size) undef,[]⟩;let a1:Act:=a0.put (some t1) rv;let a2:Act:=a1.put (some t2) rv;let b:Frame:={ (default:Frame) with fn:=f,kind:=.deferred,roundOf:=none };have henter:Frame.enter P f as .deferred=b.atR a0 [.code (.seq (.region rid #[o0,o1] false) rest)]:=by
  grind [Frame.enter,Frame.atR]
 have hs1:Qs G γ ((U3 n args ins).put (some t1) (.Zu rv)) a1.tmps w:=hs.put (dst:=some t1) (by grind [W2,U3]) (.data (.Zu rv hi));have hs2:Qs G γ (((U3 n args ins).put (some t1) (.Zu rv)).put (some t2) (.Zu rv)) a2.tmps w:=hs1.put (dst:=some t2) (by grind [W2,U3,St.put,St.QG]) (.data (.Zu rv hi));have e0:(execOp a0.eval o0).run P w=.ok .recover w:=by
  unfold execOp;rw[h0];rfl
 have ev1:a1.eval (.tmp t1)=rv:=by
  show a1.tmps.getD t1 undef=rv;have hlt:t1 < a0.tmps.size:=by
   grind
  show (a0.tmps.setIfInBounds t1 rv).getD t1 undef=rv;simp_all
 have e1:(execOp a1.eval o1).run P w=.ok (.value rv) w:=by
  grind [Sem.run_pure,execOp]
 have w0:∀a:Act,Region.wanted o0 (yielded #[o0,o1] a.tmps)=true:=(by grind [Region.wanted])
 have w1:∀a:Act,Region.wanted o1 (yielded #[o0,o1] a.tmps)=true:=(by grind [Region.wanted])
 let c1:Frame:={ c₀ with mode:=u' }
 have hw:Code.wpSIn (RF none) 0 P (.seq (.region rid #[o0,o1] false) rest) (λe a' cs' w'=>cs'=c1 :: cs/\L7 G ⟨none,[],true⟩ γ (((U3 n args ins).put (some t1) (.Zu rv)).put (some t2) (.Zu rv)) w (λe s=>(e=.normal\/e=.ret)/\∃s2,QU G s s2/\∀b k,outs b=some k->s2.b b=some k) e a' w') a0 (c₀ :: cs) w:=by
  refine wpSIn_seq (wpSIn_region ?_);show wpOpsSIn (RF none) 0 P #[o0,o1] _ [0,1] a0 (c₀ :: cs) w;have tail:wpOpsSIn (RF none) 0 P #[o0,o1] (Exit.thenS (rest.wpSIn (RF none) 0 P (λe a' cs' w'=>cs'=c1 :: cs/\L7 G ⟨none,[],true⟩ γ (((U3 n args ins).put (some t1) (.Zu rv)).put (some t2) (.Zu rv)) w (λe s=>(e=.normal\/e=.ret)/\∃s2,QU G s s2/\∀b k,outs b=some k->s2.b b=some k) e a' w')) (λe a' cs' w'=>cs'=c1 :: cs/\L7 G ⟨none,[],true⟩ γ (((U3 n args ins).put (some t1) (.Zu rv)).put (some t2) (.Zu rv)) w (λe s=>(e=.normal\/e=.ret)/\∃s2,QU G s s2/\∀b k,outs b=some k->s2.b b=some k) e a' w')) [1] a1 (c1 :: cs) w:=by
   simp only[wpOpsSIn,show (#[o0,o1]:Array Oper)[1]?=some o1 from rfl,w1,if_true,e1,h1d];refine⟨λ_ _=>trivial,?_⟩;show rest.wpSIn (RF none) 0 P _ a2 (c1 :: cs) w;refine wpSIn_of_wpIn rfl (wpIn_mono (hB ⟨none,[],true⟩ γ a2 w hs2 ⟨rfl,rfl,λ_ h=>by simp at h⟩) (by grind))
  rw[wpOpsSIn];simp only[show (#[o0,o1]:Array Oper)[0]?=some o0 from rfl,w0,if_true,e0,h0d];refine⟨λ_ _=>trivial,?_⟩;rcases hr with⟨r1,r2,r3⟩|⟨v,older,r1,r2,r3⟩
  ·have hrec:recoverD (c₀ :: cs)=none:=by simp[recoverD,hu,r1]
   rw[hrec];have hc:c₀ :: cs=c1 :: cs:=by
    show c₀ :: cs=({ c₀ with mode:=u' }:Frame) :: cs;rw[r3,<-r1,<-hu]
   grind
  grind [recoverD]
 obtain⟨e,a',cs',w',hl,⟨rfl,hq⟩,harr⟩:=hw b [] rfl rfl trivial hroom;rw[<-henter] at harr;obtain⟨s0,γ0,k0,⟨g0,p0⟩,⟨Ds,_,m1,m2,m3⟩,he,s',hg,hout⟩:=hq;obtain⟨γ',k1,g1',p1'⟩:=hg γ0 a'.tmps w' k0;have g1:=g0.trans g1';have p1:=p0.trans p1';simp only[wS] at m1;have ble:G7 γ' s'.b s'.u γ' outs (λ_=>true):=by
  refine⟨λ_ _=>rfl,λb _ hn=>?_,λb k hk=>⟨rfl,?_⟩⟩
  ·cases ho:outs b with
   | none=>rfl
   | some k=>grind
  ·cases ho:outs b with
   | none=>exact .inl rfl
   | some k'=>
    grind
 have fin:∀todo,StepsIn (Machine.fenced P (RF none)) P (lone (Frame.enter P f as .deferred) (c₀ :: cs) w) (lone { b.atR a' todo with mode:=.returning } (c1 :: cs) w')->
   ∃e u2 w' fr,(u2=u'/\∃v γ',e=.returned v/\Qe γ w γ' w'/\Zf γ ins Qw γ' outs (λ_=>true)/\(∀b k,outs b=some k->X3 γ' w' outs (λ_=>true) b k)/\(∀B x,γ'.own B=some x->B < w'.heap.size))/\
    ComesIn (Machine.fenced P (RF none)) P (lone (Frame.enter P f as .deferred) (c₀ :: cs) w) (lone fr ({ c₀ with mode:=u2 } :: cs) w') e/\fr.kind=.deferred/\fr.fn=f/\fr.going P w' e:=by
  intro todo hst;obtain⟨w2,⟨i1,i2⟩,st2⟩:=Wo (P:=P) (λw2=>Qs G γ' s' a'.tmps w2/\Qe γ w γ' w2) Ds { b.atR a' todo with mode:=.returning } (c1 :: cs) w' (by simp) m1 ⟨k1,g1⟩ m2 (λD hD=>(m3 D hD).2.1) (λD w7 hD hI hd=>
   ⟨(Y4.put hd rfl).Nc hI.1,hI.2.put hd rfl (m3 D hD).1⟩)
  have hpin:Zf γ ins Qw γ' s'.b s'.u:=p1;obtain⟨v,hv,_⟩:=C6 (P:=P) i1 (show F1 P s' fn.results.toList=some (.Qc []) by rw[hres];rfl);refine⟨.returned v,u',w2,{ { b.atR a' todo with mode:=.returning } with defers:=[] },⟨rfl,_,γ',rfl,i2,hpin.trans ble.Ue,λb k hk=>?_,i1.o⟩,StepsIn.trans hst st2,rfl,rfl,rfl,rfl,fn,hf,hv⟩
  ·rcases i1.b b k (hout b k hk) with h0|hm|⟨hM,B,o,cs,e,a1,a2,a3,a4,a5,a6,a7,a8⟩
   ·exact .inl h0
   ·exact .inr (.inl (hm.same rfl (by grind) λc v hr=>hr.mono (.refl _ _) ble))
   refine .inr (.inr ⟨hM,B,o,cs,e,a1,a2,a3,a4,a5,λi c hc=>?_,a7,a8⟩);obtain⟨x,b1,b2,b3,b4⟩:=a6 i c hc;exact⟨x,b1,b2.mono (.refl _ _) ble,b3,b4⟩
 rcases he with rfl|rfl
 ·exact fin [] (StepsIn.trans harr (.one (RF.fenced _ _ _) (stepR_end rfl)))
 ·obtain⟨todo,hs⟩:=harr.1 rfl;grind
end
def Qh.Qzg{P:Program}{G:zi}(t u:TypeId)(ox:Operand)(d:Nat){ms:Array (String×TypeId)}(ht:P.underlying t=some (.interface ms)):Qh P G Unit where
 op:=.binOp .neq t ox (.const .nilIface) u
 dst:=some d
 ZN:=[(ox,.Zu .nilIface)]
 Zp:=[]
 o:=some ()
 ws:=λ_=>[.t d (.bool false)]
 dt:=[]
 JN:=(by grind)
 ok:=λ_ _ x st hop hdst hvs _ hd=>by
  obtain⟨hdn,hu⟩:=hd d rfl;have key:I9 P G x st (st.put (some d) (.bool false)):=by
   rw[<-hdst];refine E3 (by grind [W2]) λγ a w hs=>?_;have hx:a.eval ox=.nilIface:=(hvs (ox,.Zu .nilIface) (by simp) γ a w hs).UB;have hr:=Lib.run_neq_nil_nil w ht;refine⟨.bool false,?_,.data (.bool _)⟩;have he:a.eval (.const .nilIface)=.nilIface:=rfl;simp_all [eqGuard,Unit,pure,execOp]
  exact key
def Qh.nY{P:Program}{G:zi}(t u:TypeId)(ox:Operand)(d:Nat)(u0:TypeId)(v:Value)(ht:P.underlying t=some (.interface (P.methodsAt t))):Qh P G Unit where
 op:=.binOp .neq t ox (.const .nilIface) u
 dst:=some d
 ZN:=[(ox,.Zu (.iface u0 v))]
 Zp:=[]
 o:=some ()
 ws:=λ_=>[.t d (.bool true)]
 dt:=[]
 JN:=(by grind)
 ok:=λ_ _ x st hop hdst hvs _ hd=>by
  obtain⟨hdn,hu⟩:=hd d rfl;have key:I9 P G x st (st.put (some d) (.bool true)):=by
   rw[<-hdst];refine E3 (by grind [W2]) λγ a w hs=>?_;have hx:a.eval ox=.iface u0 v:=(hvs (ox,.Zu (.iface u0 v)) (by simp) γ a w hs).UB;have hr:=run_neq_held_nil w t u0 v ht;refine⟨.bool true,?_,.data (.bool _)⟩;have he:a.eval (.const .nilIface)=.nilIface:=rfl;simp_all [eqGuard,Unit,pure,execOp]
  exact key
def Qh.Qex{P:Program}{G:zi}(t u:TypeId)(ox:Operand)(d:Nat)(ht:P.underlying t=some (.interface (P.methodsAt t))):Qh P G Unit where
 op:=.binOp .eql t ox (.const .nilIface) u
 dst:=some d
 ZN:=[(ox,.Zu (.nilIface))]
 Zp:=[]
 o:=some ()
 ws:=λ_=>[.t d (.bool true)]
 dt:=[]
 JN:=(by grind)
 ok:=λ_ _ x st hop hdst hvs _ hd=>by
  obtain⟨hdn,hu⟩:=hd d rfl;have key:I9 P G x st (st.put (some d) (.bool true)):=by
   rw[<-hdst];refine E3 (by grind [W2]) λγ a w hs=>?_;have hx:a.eval ox=.nilIface:=(hvs (ox,.Zu (.nilIface)) (by simp) γ a w hs).UB;have hr:=run_eql_nil_nil (P:=P) (w:=w) t ht;refine⟨.bool true,?_,.data (.bool _)⟩;have he:a.eval (.const .nilIface)=.nilIface:=rfl;simp_all [eqGuard,Unit,pure,execOp]
  exact key
def Qh.dB{P:Program}{G:zi}(t u:TypeId)(ox:Operand)(d:Nat)(u0:TypeId)(v:Value)(ht:P.underlying t=some (.interface (P.methodsAt t))):Qh P G Unit where
 op:=.binOp .eql t ox (.const .nilIface) u
 dst:=some d
 ZN:=[(ox,.Zu (.iface u0 v))]
 Zp:=[]
 o:=some ()
 ws:=λ_=>[.t d (.bool false)]
 dt:=[]
 JN:=(by grind)
 ok:=λ_ _ x st hop hdst hvs _ hd=>by
  obtain⟨hdn,hu⟩:=hd d rfl;have key:I9 P G x st (st.put (some d) (.bool false)):=by
   rw[<-hdst];refine E3 (by grind [W2]) λγ a w hs=>?_;have hx:a.eval ox=.iface u0 v:=(hvs (ox,.Zu (.iface u0 v)) (by simp) γ a w hs).UB;have hr:=run_eql_held_nil (P:=P) (w:=w) t u0 v ht;refine⟨.bool false,?_,.data (.bool _)⟩;have he:a.eval (.const .nilIface)=.nilIface:=rfl;simp_all [eqGuard,Unit,pure,execOp]
  exact key
theorem Tv{P:Program}{G:zi}{ops:Array Oper}{st:St}{Q:Exit->St->Prop}{I:(Nat->Bool)->St->Prop}
  (hback:∀i o,ops[i]?=some o->∀e,e∈o.after->Region.binds .any e=true->e.on < i)
  (hstep:∀(D:zl) (st1:St) (i:Nat),i < ops.size->D i=false->(∀j,D j=true->j < ops.size)->DU ops D->(∀o,ops[i]?=some o->∀e,e∈o.after->Region.binds .any e=true->D e.on=true)->I D st1->
   ∃st2,C1 P G ops i st1 st2/\I (λj=>D j || decide (j=i)) st2)
  (hq:∀(D:zl) (st1:St),(∀i,i < ops.size->D i=true)->(∀j,D j=true->j < ops.size)->I D st1->Q .normal st1)
  {fx:Fx} {γ0:Gh} {w0:World}:∀(G3:Nat) (D:zl) (st1:St) (listed:Array Bool) (γ:Gh) (a:Act) (w:World),listed.size=ops.size->(∀i,i < ops.size->listed.getD i true=D i/\listed.getD i false=D i)->(∀i,D i=true->i < ops.size)->DU ops D->
   ((List.range ops.size).filter λi=>!D i).length<=G3->I D st1->Qs G γ st1 a.tmps w->(Qe γ0 w0 γ w/\Zf γ0 st.b st.u γ st1.b st1.u)->a.defers=fx.ds->
   wpAnyIn (RF fx.ro) 0 P .any ops (L7 G fx γ0 st w0 Q) G3 listed a w:=by
 have readyD:∀(D:zl) (listed:Array Bool),(∀i,i < ops.size->listed.getD i true=D i/\listed.getD i false=D i)->listed.size=ops.size->∀i,i∈Region.ready .any ops listed->i < ops.size/\D i=false/\∀o,ops[i]?=some o->∀e,e∈o.after->Region.binds .any e=true->D e.on=true:=by
  grind [mem_ready,Array.getElem?_eq_some_iff,Option.some.injEq,Nat.lt_or_ge,Array.getD_eq_getD_getElem?,Array.getElem?_eq_none]
 have none_ready:∀(D:zl) (listed:Array Bool),(∀i,i < ops.size->listed.getD i true=D i/\listed.getD i false=D i)->Region.ready .any ops listed=[]->∀i,i < ops.size->D i=true:=by
  intro D listed hl hr i;induction i using Nat.strongRecOn with
  | _ i ih=>
   intro hi;cases hd:D i with
   | true=>rfl
   | false=>
    exfalso;have:i∈Region.ready .any ops listed:=mem_ready.2 ⟨by grind,ops[i],(by grind),(by grind)⟩;grind
 have fin:∀(D:zl) (st1:St) (γ:Gh) (a:Act) (w:World),(∀i,i < ops.size->D i=true)->(∀j,D j=true->j < ops.size)->I D st1->Qs G γ st1 a.tmps w->(Qe γ0 w0 γ w/\Zf γ0 st.b st.u γ st1.b st1.u)->a.defers=fx.ds->L7 G fx γ0 st w0 Q .normal a w:=by
  intro D st1 γ a w hall hin hI hs hg hd;exact⟨_,γ,hs,hg,.of hd,hq D st1 hall hin hI⟩
 intro G3;induction G3 with
 | zero=>
  intro D st1 listed γ a w hsz hl hin hc hf hI hs hg hd;have hall:∀i,i < ops.size->D i=true:=by
   intro i hi;cases hdi:D i with
   | true=>rfl
   | false=>
    exfalso;have:i∈(List.range ops.size).filter λi=>!D i:=(by grind);grind
  refine⟨?_,(by grind)⟩;refine List.eq_nil_iff_forall_not_mem.2 λi hi=>?_;obtain⟨h1,h2,_⟩:=readyD D listed hl hsz i hi;grind
 | succ G3 ih=>
  intro D st1 listed γ a w hsz hl hin hc hf hI hs hg hd;refine⟨λhr=>fin D st1 γ a w (none_ready D listed hl hr) hin hI hs hg hd,λi hi=>?_⟩;obtain⟨hlt,hDi,hpre⟩:=readyD D listed hl hsz i hi;have ho:ops[i]?=some ops[i]:=(by grind);obtain⟨st2,hst,hI2⟩:=hstep D st1 i hlt hDi hin hc hpre hI;have next:∀(a':Act) (w':World) (γ':Gh),Qs G γ' st2 a'.tmps w'->Qe γ w γ' w'->Zf γ st1.b st1.u γ' st2.b st2.u->a'.defers=fx.ds->
    wpAnyIn (RF fx.ro) 0 P .any ops (L7 G fx γ0 st w0 Q) G3 (listed.setIfInBounds i true) a' w':=by
   intro a' w' γ' hs' hg' hp' hd';refine ih (λj=>D j || decide (j=i)) st2 (listed.setIfInBounds i true) γ' a' w' (by grind) (λj hj=>?_) (λj hj=>?_) ?_ ?_ hI2 hs' ⟨hg.1.trans hg',hg.2.trans hp'⟩ hd'
   ·by_cases hji:j=i
    ·subst hji;have:j < listed.size:=by omega
     simp[this]
    ·have hne:i≠j:=λe=>hji e.symm;have e1:(listed.setIfInBounds i true).getD j true=listed.getD j true:=by simp[Array.getElem?_setIfInBounds_ne hne]
     grind
   ·grind
   ·intro k o hk hok e he hb;simp only[wi,zM] at hk ⊢;rcases hk with hk|rfl
    ·exact .inl (hc k o hk hok e he hb)
    grind
   ·have hmem:i∈(List.range ops.size).filter λj=>!D j:=(by grind)
    have hlt3:((List.range ops.size).filter λj=>!(D j || decide (j=i))).length < ((List.range ops.size).filter λj=>!D j).length:=by
     have e:(List.range ops.size).filter (λj=>!(D j || decide (j=i)))=((List.range ops.size).filter (λj=>!D j)).filter (λj=>!decide (j=i)):=by
      grind [List.filter_filter,Bool.and_comm]
     grind [Nat.lt_of_le_of_ne,List.length_filter_le,List.length_filter_eq_length_iff]
    omega
  unfold C1 at hst;unfold wpOpIn;rw[ho];rw[ho] at hst;simp only at hst ⊢;rcases hst with⟨hgd,he⟩|⟨hgd,hdst,heq⟩
  ·rw[if_pos (K2 hs hgd)];exact Lj (he ⟨none,a.defers,false⟩ γ a w hs rfl _ _ λ_ _ _ _ _ _ h=>h) (he fx γ a w hs hd _ _ next)
  ·rw[if_neg (by grind [K2])];refine⟨λ_ _=>trivial,next _ w γ ?_ (.refl γ w) ?_ (by rw[X4];exact hd)⟩
   ·rw[heq];exact hs.put hdst (v:=undef) (.Qc [] [] rfl (by grind))
   ·rw[heq];cases ops[i].dst<;>exact Zf.refl hs.u
theorem TV.Qef{P:Program}{G:zi}{ops:Array Oper}{id:Nat}{st:St}{Q:Exit->St->Prop}{I:(Nat->Bool)->St->Prop}(hm:P.follows .mixedOrders=true)
  (hback:(ops.toList.zipIdx.all λx=>x.1.after.all λe=>!Region.binds .any e || decide (e.on < x.2))=true)
  (hstep:∀(D:zl) (st1:St) (i:Nat),i < ops.size->D i=false->(∀j,D j=true->j < ops.size)->DU ops D->(∀o,ops[i]?=some o->∀e,e∈o.after->Region.binds .any e=true->D e.on=true)->I D st1->
   ∃st2,C1 P G ops i st1 st2/\I (λj=>D j || decide (j=i)) st2)
  (hq:∀(D:zl) (st1:St),(∀i,i < ops.size->D i=true)->(∀j,D j=true->j < ops.size)->I D st1->Q .normal st1) (h0:I (λ_=>false) st) :
  TV P G (.region id ops true) st Q:=λfx γ a w hs hd=>by
 have hs0:Qs G γ st a.tmps { w with drawn:=w.drawn+1 }:=by
  have g:Qe γ w γ { w with drawn:=w.drawn+1 }:=⟨rfl,rfl,rfl,zQ _,λ_ _ _ _ h=>h,λ_ _=>zQ _,(by grind),(by grind)⟩
  have bl:G7 γ st.b st.u γ st.b st.u:=.refl hs.u;refine⟨hs.n,λi=>(hs.t i).mono g bl,λb k hk=>?_,hs.u,hs.g.grow g,hs.o⟩;rcases hs.b b k hk with h0|hm|⟨hM,B,o,cs,e',h1,h2,h3,h4,h5,h6,h7,h8⟩
  ·exact .inl h0
  ·exact .inr (.inl (hm.same rfl (by grind) λc v hr=>hr.mono g bl))
  ·refine .inr (.inr ⟨hM,B,o,cs,e',h1,h2,h3,h4,h5,λi c hc=>?_,h7,h8⟩);obtain⟨v,a1,a2,a3,a4⟩:=h6 i c hc;exact⟨v,a1,a2.mono g bl,a3,a4⟩
 have g0:Qe γ w γ { w with drawn:=w.drawn+1 }:=⟨rfl,rfl,rfl,zQ _,λ_ _ _ _ h=>h,λ_ _=>zQ _,(by grind),(by grind)⟩;refine wpIn_region_any hm ?_;refine Tv (λi o ho e he hb=>?_) hstep hq ops.size (λ_=>false) st _ γ a _ (by simp) (λi hi=>by simp[hi]) (λi h=>by simp at h) (λi o h=>by simp at h)
  (by grind) h0 hs0 ⟨g0,.refl hs.u⟩ hd.1
 have hm':(o,i)∈ops.toList.zipIdx:=by
  grind
 grind [List.all_eq_true,Array.all_eq_true_iff_forall_mem]
variable {P:Program} {G:zi}
structure BI(P:Program)(mt kt et:TypeId)(z:Nat)(rows:List (List V))(p:List V->Bool)(kc:List V):Prop where
 m:P.underlying mt=some (.map kt et)
 a:mX z=M6 P kt
 s:(R5 P kt kc kc).isSome=true
 q:∀r,r∈rows->R5 P kt kc (r.take (Xi z))=some (p r)
theorem BI.find{mt kt et:TypeId}{z:Nat}{rows:List (List V)}{p:List V->Bool}{kc:List V}(h:BI P mt kt et z rows p kc){γ:Gh}{w:World}{bs:zj}{u:zl}{b:Nat}{Ql:Bool}{kv:Value}{B:Nat}
  (hb:X3 γ w bs u b ⟨z,Ql,rows⟩) (hl:γ.loc b=some (B,0)) (hM:J0<=z) (hk:Qz γ w bs u (I4 (M6 P kt) kc) kv) :
  ∃es clock,w.heap[B]?=some (.map es clock)/\γ.own B=some (.Zs b)/\(Po z es/\pA es clock)/\es.size=rows.length/\(∀r,r∈rows->r.length=mwd z)/\
   (∀(i:Nat) (c:V),(rows).flatten[i]?=some c->∃v,(es.toList.flatMap (R7 z))[i]?=some v/\Qz γ w bs u c v/\v.oneCell'=true)/\
   (∀em,(Instr.checkKey em 10000 kt kv).run P w=.ok () w)/\
   (Instr.findKey kt kv es.toList).run P w=.ok (match rows.findIdx? p with|some j=>(es[j]?).map λe=>(j,e.val)|none=>none) w/\
   ∀(j:Nat) (x:List V),rows[j]?=some x->∃e,es[j]?=some e/\Qz γ w bs u (I4 (mX z) (x.take (Xi z))) e.key/\Qz γ w bs u (I4 (GP z) (x.drop (Xi z))) e.val:=by
 rcases hb with⟨h0,_⟩|⟨_,B',es,clock,h1,h2,h3,h4,h5,h6,h7⟩|hb
 ·grind
 ·rw[hl] at h1;simp only[zG,zT,and_true] at h1;subst h1;have hrows:∀(j:Nat) (x:List V),rows[j]?=some x->∃e,es[j]?=some e/\Qz γ w bs u (I4 (mX z) (x.take (Xi z))) e.key/\Qz γ w bs u (I4 (GP z) (x.drop (Xi z))) e.val:=λj x hx=>
   WD.row h4 h5 h6.1 h7 hx
  have hsz:es.size=rows.length:=by simpa using h4
  refine⟨es,clock,h3,h2,h6,hsz,h5,h7,λem=>Oi h.s hk em,?_,hrows⟩;rw[Ft hk es.toList (rows.map p) (by simp[hsz]) (λj e he=>?_) h.s,DR p rows es.toList 0 (by simpa using hsz)]
  ·grind
  ·have hj:j < rows.length:=by grind
   have hx:rows[j]?=some rows[j]:=wA hj;obtain⟨e',e1,e2,_⟩:=hrows j _ hx;have:e'=e:=by
    grind
   subst this;exact⟨p rows[j],rows[j].take (Xi z),by grind,h.q _ (List.getElem_mem _),by rw[<-h.a];exact e2⟩
 ·exact absurd hb.1 (Nat.not_lt_of_le hM)
theorem TS{mt kt et:TypeId}{z:Nat}{rows:List (List V)}{p:List V->Bool}{kc:List V}(h:BI P mt kt et z rows p kc){γ:Gh}{w:World}{bs:zj}{u:zl}{b:Nat}{Ql:Bool}{kv mv:Value}{zv:V}
  (hb:∀b k,bs b=some k->X3 γ w bs u b k) (hbb:bs b=some ⟨z,Ql,rows⟩) (hm:Qz γ w bs u (.mp b) mv) (hk:Qz γ w bs u (I4 (M6 P kt) kc) kv) (hz:HM P et=some zv) (ok:Bool) :
  ∃v,(Instr.lookup mt mv kv ok).run P w=.ok v w/\Qz γ w bs u (bif ok then .Qc [Iu rows p (λx=>I4 (GP z) (x.drop (Xi z))) zv,.bool (rows.findIdx? p).isSome] else Iu rows p (λx=>I4 (GP z) (x.drop (Xi z))) zv) v:=by
 obtain⟨B,rfl,hl,hM⟩:=hm.mE hbb;obtain⟨es,clock,h1,h2,h3,h4,h5,h6,h7,h8,h9⟩:=h.find (hb b _ hbb) hl hM hk;obtain⟨zval,z1,z2⟩:=Fc (P:=P) (γ:=γ) (w:=w) (bs:=bs) (u:=u) hz;have key:∃(v:Value),(Instr.lookup mt (.map (some B)) kv ok).run P w=.ok (if ok=true then .tuple #[v,.bool (rows.findIdx? p).isSome] else v) w/\Qz γ w bs u (Iu rows p (λx=>I4 (GP z) (x.drop (Xi z))) zv) v:=by
  unfold Iu;cases hf:rows.findIdx? p with
  | none=>
   rw[hf] at h8;refine⟨zval,?_,z2⟩;simp only[Instr.lookup,zX,zO h.m,zZ,MapKept.run_getObj_map h1,wI,h7,h8,z1,Option.isSome_none]
  | some j=>
   rw[hf] at h8;have hj:j < rows.length:=(List.findIdx?_eq_some_iff_getElem.1 hf).1;have hx:rows[j]?=some rows[j]:=wA hj;obtain⟨e,e1,_,e3⟩:=h9 j _ hx;simp only[e1,wQ] at h8;refine⟨e.val,?_,?_⟩
   ·simp only[Instr.lookup,zX,zO h.m,zZ,MapKept.run_getObj_map h1,wI,h7,h8,Option.isSome_some]
   grind
 obtain⟨v,k2,k3⟩:=key;cases ok with
 | false=>grind
 | true=>
  refine⟨.tuple #[v,.bool (rows.findIdx? p).isSome],by simpa using k2,?_⟩;exact .Qc _ [v,.bool (rows.findIdx? p).isSome] rfl λi c x hc hx=>by
   match i,hc,hx with
   | 0,hc,hx=>grind
   | 1,hc,hx=>simp at hc hx;subst hc;subst hx;exact .data (.bool _)
   | n+2,hc,hx=>simp at hc
theorem Bf{mt kt et:TypeId}{z:Nat}{rows:List (List V)}{p:List V->Bool}{kc:List V}{x:Oper}{st:St}{om oi:Operand}{d b:Nat}{Ql:Bool}{zv:V}(h:BI P mt kt et z rows p kc)(hz:HM P et=some zv)
  (hop:x.op=.lookup mt om oi false) (hdst:x.dst=some d) (hd:d < st.n) (hm:st.ev G om=some (.mp b)) (hk:st.ev G oi=some (I4 (M6 P kt) kc)) (hb:st.b b=some ⟨z,Ql,rows⟩) :
  I9 P G x st (st.put (some d) (Iu rows p (λr=>I4 (GP z) (r.drop (Xi z))) zv)):=by
 rw[<-hdst];refine E3 (by grind [W2]) λγ a w hs=>?_;obtain⟨v,r1,r2⟩:=TS h hs.b hb (hs.ev hm) (hs.ev hk) hz false;simp_all [cond_false,execOp]
theorem VR{mt kt et:TypeId}{z:Nat}{rows:List (List V)}{p:List V->Bool}{kc vc:List V}{x:Oper}{st:St}{om oi ov:Operand}{b:Nat}(h:BI P mt kt et z rows p kc)(hp:∀r,r∈rows->p r=false)
  (hop:x.op=.insert mt om oi ov) (hdst:x.dst=none) (hm:st.ev G om=some (.mp b)) (hki:st.ev G oi=some (I4 (M6 P kt) kc)) (hvi:st.ev G ov=some (I4 (GP z) vc)) (hbb:st.b b=some ⟨z,true,rows⟩)
  (hcell:∀c,c∈kc++vc->c.Zq=true) (hk:kc.length=Xi z) (hv:vc.length=mvn z) (hk1:mX z=false->Xi z=1) (hv1:GP z=false->mvn z=1) :
  I9 P G x st (st.Qj b ⟨z,true,rows++[kc++vc]⟩):=Dl λγ a w hs=>by
 have rm:=hs.ev hm;have rk:=hs.ev hki;have rv:=hs.ev hvi;obtain⟨B,hB,hl,hM⟩:=rm.mE hbb;obtain⟨es,clock,h1,h2,h3,h4,h5,h6,h7,h8,h9⟩:=h.find (hs.b b _ hbb) hl hM rk;rw[<-h.a] at rk;obtain⟨u1,u2,u3⟩:=Ay rk (λe=>by rw[hk];exact hk1 e);obtain⟨t1,t2,t3⟩:=Ay rv (λe=>by rw[hv];exact hv1 e);have hold:=(An h3.1 h4 h5).1 h6;have hyl:(kc++vc).length=mwd z:=by rw[qc,hk,hv];rfl
 let e0:MapEntry:={ key:=a.eval oi,val:=a.eval ov,born:=clock }
 have AV:∀(j:Nat) (c:V),(kc++vc)[j]?=some c->∃v,(R7 z e0)[j]?=some v/\Qz γ w st.b st.u c v/\v.oneCell'=true:=λj c hj=>by
  have hc:=hcell c (wd hj);have:∃v,(R7 z e0)[j]?=some v/\Qz γ w st.b st.u c v:=by
   grind [List.getElem?_append_left,List.getElem?_append_right,R7]
  obtain⟨v,v1,v2⟩:=this;exact⟨v,v1,v2,v2.ZW hc⟩
 have hz':∀r,r∈rows++[kc++vc]->r.length=mwd z:=(by grind)
 have g1:(es.push e0).size=(rows++[kc++vc]).length:=by simp[h4]
 have g2:Po z (es.push e0)/\pA (es.push e0) (clock+1):=by
  refine⟨λe he=>?_,?_,λe he=>?_⟩
  ·rcases Array.mem_push.1 he with he|rfl
   ·exact h3.1 e he
   grind
  ·simp only[Array.toList_push,wW,wE,List.map_nil];refine List.nodup_append.2 ⟨h3.2.1,by simp,λx hx y hy e=>?_⟩;obtain⟨e1,he1,rfl⟩:=zP.1 hx;simp only[wG] at hy;have:=h3.2.2 e1 he1;grind
  ·simp only[Array.toList_push,ww,wG] at he;rcases he with he|rfl
   ·exact Nat.lt_succ_of_lt (h3.2.2 e he)
   grind
 have key:=hs.SQ (clock':=clock+1) (es':=es.push e0) (rows':=rows++[kc++vc]) hbb hM hl h2 h1 g1 hz' g2 ((An g2.1 g1 hz').2 (by grind));have hf:rows.findIdx? p=none:=(by grind);refine⟨w.putObj B (.map (es.push e0) (clock+1)),γ,?_,key.2.1,key.2.2.Ue,?_⟩
 ·rw[hf] at h8;have hrun:(Instr.mapUpdate mt (a.eval om) (a.eval oi) (a.eval ov)).run P w=.ok () (w.putObj B (.map (es.push e0) (clock+1))):=by
   rw[hB];simp only[Instr.mapUpdate,zX,zO h.m,zZ,MapKept.run_getObj_map h1,h7,h8];exact MapKept.run_setObj_map _ h1
  simp[execOp,hop,hrun]
 ·rw[hdst];exact key.1
end Go.EV
