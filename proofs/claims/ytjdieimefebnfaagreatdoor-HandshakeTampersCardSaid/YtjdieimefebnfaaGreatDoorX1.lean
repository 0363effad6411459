/- Part X1. -/
import Derived.Calls
import Derived.KernelRfl
import Derived.Laws.Sem
import Derived.Laws.StructEq
import Derived.Laws.Slices
import Derived.ChangeKeysEq
import Derived.Laws.Append
import Derived.Laws.BytesArg
set_option linter.all false
set_option linter.defProp false
def zG:=@Option.some.injEq
def zJ:=@Option.map_eq_some_iff
def wq:=@Option.bind_eq_some_iff
def wA:=@List.getElem?_eq_getElem
def wF:=@List.getElem?_eq_some_iff
def wN:=@Array.getElem?_eq_some_iff
def wB:=@Array.getElem?_eq_getElem
def qb:=@List.mem_iff_getElem?
def wd:=@List.mem_of_getElem?
def wD:=@List.getElem?_append_left
def wJ:=@List.getElem?_append_right
def qc:=@List.length_append
def wm:=@List.getElem?_map
def wW:=@List.map_append
def qe:=@List.map_map
def ww:=@List.mem_append
def wO:=@List.length_map
def zP:=@List.mem_map
def wG:=@List.mem_singleton
def zY:=@List.mem_cons
def wj:=@List.not_mem_nil
def qh:=@List.length_take
def zW:=@Int.toNat_natCast
def zL:=@Bool.and_eq_true
def wC:=@Bool.not_eq_true'
def wz:=@List.contains_eq_mem
def zN:=@List.all_eq_true
def zM:=@decide_eq_true_eq
def qn:=@List.length_replicate
def wY:=@Classical.byContradiction
def zQ:=@Nat.le_refl
def wZ:=@Nat.lt_of_lt_of_le
def qa:=@Nat.lt_or_ge
def zO:=@Go.run_underlying
def zT:=@Prod.mk.injEq
def zZ:=@Go.Result.andThen_ok
def wu:=@Option.some.inj
def qo:=@List.length_eq_zero_iff
def zX:=@Go.Sem.run_bind
def wI:=@Go.Sem.run_pure
def wP:=@List.getD_eq_getElem?_getD
def wL:=@Array.getD_eq_getD_getElem?
def wi:=@Bool.or_eq_true
def qi:=@beq_eq_false_iff_ne
def wQ:=@Option.map_some
def qf:=@Option.bind_some
def wR:=@List.mem_flatMap
def qg:=@List.mem_append_left
def wE:=@List.map_cons
def ql:=@List.mem_of_find?_eq_some
def wM:=@List.map_congr_left
def wV:=@List.length_cons
def wS:=@List.append_nil
def wT:=@Nat.mul_le_mul_right
def wU:=@List.mem_flatten
def qp:=@List.getElem?_eq_none
def qj:=@List.getElem?_cons_zero
def wK:=@Nat.add_mul
def qk:=@Nat.eq_zero_or_pos
def wg:=@decide_eq_true
def qm:=@decide_eq_false
def we:=@Nat.zero_add
def wX:=@Nat.mul_comm
abbrev ze:=ByteArray
abbrev zg:ByteArray:=.empty
abbrev zl:=Nat->Bool
namespace Go.EV
open Go
inductive V where
 | int (k:IntKind) (n:Int)
 | bool (b:Bool)
 | str (s:ze)
 | Zi
 | Zd
 | Qu
 | sl (own:Bool) (size:Nat) (rows:List (List V))
 | snap (cells:List V)
 | ref (b off len:Nat)
 | ptr (b i off:Nat)
 | fn (f:FuncId) (first captured:List V)
 | QP (l:Nat)
 | agg (cells:List V)
 | Qc (vs:List V)
 | undef
 | mp (b:Nat)
 | Zu (x:Value)
 deriving Inhabited
def zn(c:Bool):List V:=[.bool c]
abbrev zi:=Nat->Option (List V)
structure Qd where
 size:Nat
 Ql:Bool
 rows:List (List V)
abbrev zj:=Nat->Option Qd
inductive M3 where
 | Zs (b:Nat)
 | nest (b i j:Nat)
structure Gh where
 loc:Nat->Option (Nat×Nat)
 own:Nat->Option M3
 Qr:Nat->Nat
def cellAt(w:World)(B o:Nat):Option Value:=w.cell? ⟨B,o,none⟩
def J0:Nat:=1048576
def Qwj(ka va:Bool)(kn vn:Nat):Nat:=1048576+(kn+(256 * vn+(65536 * ka.toNat+131072 * va.toNat)))
def Xi(z:Nat):Nat:=z % 256
def mvn(z:Nat):Nat:=z / 256 % 256
def mX(z:Nat):Bool:=z / 65536 % 2==1
def GP(z:Nat):Bool:=z / 131072 % 2==1
def mwd(z:Nat):Nat:=Xi z+mvn z
def NO(agg:Bool)(l:List Value):Value:=match agg with
 | true=>.agg l.toArray
 | false=>l.headD undef
def X7(agg:Bool)(v:Value):List Value:=match agg with
 | true=>match v with
  | .agg a=>a.toList
  | _=>[]
 | false=>[v]
def R7(z:Nat)(e:MapEntry):List Value:=X7 (mX z) e.key++X7 (GP z) e.val
def Po(z:Nat)(es:Array MapEntry):Prop:=
 ∀e,e∈es->(X7 (mX z) e.key).length=Xi z/\NO (mX z) (X7 (mX z) e.key)=e.key/\(X7 (GP z) e.val).length=mvn z/\NO (GP z) (X7 (GP z) e.val)=e.val
def pA(es:Array MapEntry)(clock:Nat):Prop:=(es.toList.map (·.born)).Nodup/\∀e,e∈es.toList->e.born < clock
def JV(w:World)(B n:Nat):Prop:=∃cs e fz,w.heap[B]?=some (.cells cs e fz)/\n<=cs.size
def Wn:Value->Bool
 | .iface _ _=>true
 | .nilIface=>true
 | _=>false
inductive K9(Qr:Nat->Nat)(w:World):V->Value->Prop
 | int (k:IntKind) (n:Int):K9 Qr w (.int k n) (.int k n)
 | bool (b:Bool):K9 Qr w (.bool b) (.bool b)
 | str (s:ze):K9 Qr w (.str s) (.string s)
 | Zi:K9 Qr w .Zi (.pointer none)
 | Zd:K9 Qr w .Zd .nilFunc
 | QP (l:Nat):K9 Qr w (.QP l) (.func (.yield l) #[] #[])
 | Qu:K9 Qr w .Qu (.slice none 0 0)
 | Zu (x:Value):Wn x=true->K9 Qr w (.Zu x) x
 | sl (own:Bool) (size:Nat) (rows:List (List V)) (B o cap:Nat) (vs:Nat->Value) :
   rows.length<=cap->(∀r,r∈rows->r.length=size)->
   (∀(i:Nat) (c:V),rows.flatten[i]?=some c->o+i < Qr B/\cellAt w B (o+i)=some (vs i))->
   (∀(i:Nat) (c:V),rows.flatten[i]?=some c->K9 Qr w c (vs i))->
   K9 Qr w (.sl own size rows) (.slice (some ⟨B,o,none⟩) rows.length cap)
 | Zc (own:Bool) (size:Nat) (a:Option Addr:=none):K9 Qr w (.sl own size []) (.slice a 0 0)
 | snap (cells:List V) (B o:Nat) (vs:Nat->Value) :
   (∀(i:Nat) (c:V),cells[i]?=some c->o+i < Qr B/\cellAt w B (o+i)=some (vs i))->
   (∀(i:Nat) (c:V),cells[i]?=some c->K9 Qr w c (vs i))->
   K9 Qr w (.snap cells) (.pointer (some ⟨B,o,none⟩))
 | fn (f:FuncId) (first captured:List V) (fs cs:List Value) :
   fs.length=first.length->cs.length=captured.length->
   (∀(i:Nat) (c:V) (v:Value),first[i]?=some c->fs[i]?=some v->K9 Qr w c v)->
   (∀(i:Nat) (c:V) (v:Value),captured[i]?=some c->cs[i]?=some v->K9 Qr w c v)->
   K9 Qr w (.fn f first captured) (.func (.func f) fs.toArray cs.toArray)
inductive Qz(γ:Gh)(w:World)(bs:zj)(u:zl):V->Value->Prop
 | data {c:V} {v:Value}:K9 γ.Qr w c v->Qz γ w bs u c v
 | undef (v:Value):Qz γ w bs u .undef v
 | ref (b off len B o cap:Nat) (k:Qd):bs b=some k->γ.loc b=some (B,o)->off+len<=k.rows.length->len<=cap->
   JV w B (o+(off+cap) * k.size)->k.size < J0->k.rows.length<=off+cap->Qz γ w bs u (.ref b off len) (.slice (some ⟨B,o+off * k.size,none⟩) len cap)
 | ZC (b off:Nat) (B:Addr) (k:Qd):bs b=some k->k.size < J0->k.rows.length=off->Qz γ w bs u (.ref b off 0) (.slice (some B) 0 0)
 | ZY (b off:Nat) (k:Qd):bs b=some k->k.size < J0->k.rows.length=off->Qz γ w bs u (.ref b off 0) (.slice none 0 0)
 | Qp (b off len:Nat) (v:Value):bs b=none->u b=true->v.oneCell'=true->Qz γ w bs u (.ref b off len) v
 | ptr (b i off B o:Nat) (k:Qd):bs b=some k->γ.loc b=some (B,o)->k.size < J0->
   Qz γ w bs u (.ptr b i off) (.pointer (some ⟨B,o+(i * k.size+off),none⟩))
 | QH (b i off:Nat) (v:Value):bs b=none->u b=true->v.oneCell'=true->Qz γ w bs u (.ptr b i off) v
 | fn (f:FuncId) (first captured:List V) (fs cs:List Value) :
   fs.length=first.length->cs.length=captured.length->
   (∀(i:Nat) (c:V) (v:Value),first[i]?=some c->fs[i]?=some v->Qz γ w bs u c v)->
   (∀(i:Nat) (c:V) (v:Value),captured[i]?=some c->cs[i]?=some v->Qz γ w bs u c v)->
   Qz γ w bs u (.fn f first captured) (.func (.func f) fs.toArray cs.toArray)
 | mp (b B:Nat) (k:Qd):bs b=some k->γ.loc b=some (B,0)->J0<=k.size->Qz γ w bs u (.mp b) (.map (some B))
 | QX (b:Nat) (v:Value):bs b=none->u b=true->v.oneCell'=true->Qz γ w bs u (.mp b) v
 | agg (cells:List V) (vs:List Value):vs.length=cells.length->
   (∀(i:Nat) (c:V) (v:Value),cells[i]?=some c->vs[i]?=some v->Qz γ w bs u c v)->Qz γ w bs u (.agg cells) (.agg vs.toArray)
 | Qc (cells:List V) (vs:List Value):vs.length=cells.length->
   (∀(i:Nat) (c:V) (v:Value),cells[i]?=some c->vs[i]?=some v->Qz γ w bs u c v)->Qz γ w bs u (.Qc cells) (.tuple vs.toArray)
structure Qe(γ:Gh)(w:World)(γ':Gh)(w':World):Prop where
 os:w'.os=w.os
 tape:w'.tape=w.tape
 output:w'.output=w.output
 size:w.heap.size<=w'.heap.size
 Pf:∀B o v,o < γ.Qr B->cellAt w B o=some v->cellAt w' B o=some v
 Qr:∀B,B < w.heap.size->γ.Qr B<=γ'.Qr B
 free:∀B,B < w.heap.size->γ.own B=none->w'.heap[B]?=w.heap[B]?/\γ'.own B=none/\γ'.Qr B=γ.Qr B
 room:∀(B:Nat) (cs:Array Value) (e:TypeId) (fz:Nat×Nat),w.heap[B]?=some (.cells cs e fz)->∃(cs':Array Value) (fz':Nat×Nat),w'.heap[B]?=some (.cells cs' e fz')/\cs'.size=cs.size/\(fz'=fz\/cs.size < γ'.Qr B)
theorem UU{w:World}{B o:Nat}{v:Value}(h:cellAt w B o=some v):B < w.heap.size:=by
 grind [Nat.lt_or_ge,Array.getElem?_eq_none,cellAt,World.cell?]
theorem Qe.refl(γ:Gh)(w:World):Qe γ w γ w:=
 ⟨rfl,rfl,rfl,zQ _,λ_ _ _ _ h=>h,λ_ _=>zQ _,(by grind),(by grind)⟩
theorem Qe.trans{a b c:Gh}{w w1 w2:World}(h:Qe a w b w1)(k:Qe b w1 c w2):Qe a w c w2 where
 os:=k.os.trans h.os
 tape:=k.tape.trans h.tape
 output:=k.output.trans h.output
 size:=Nat.le_trans h.size k.size
 Pf:=λB o v hl hc=>k.Pf B o v (wZ hl (h.Qr B (UU hc))) (h.Pf B o v hl hc)
 Qr:=λB hB=>Nat.le_trans (h.Qr B hB) (k.Qr B (wZ hB h.size))
 free:=λB hB ho=>by
  obtain⟨h1,h2,h3⟩:=h.free B hB ho;obtain⟨k1,k2,k3⟩:=k.free B (by grind) h2;grind
 room:=λB cs e fz hc=>by
  obtain⟨cs1,fz1,h1,h2,h3⟩:=h.room B cs e fz hc;obtain⟨cs2,fz2,k1,k2,k3⟩:=k.room B cs1 e fz1 h1;refine⟨cs2,fz2,k1,k2.trans h2,?_⟩;rcases k3 with k3|k3
  ·rcases h3 with h3|h3
   ·grind
   ·exact .inr (wZ h3 (k.Qr B (by grind)))
  grind
theorem K9.mono{Qr lim':Nat->Nat}{w w':World}(hm:∀B o v,o < Qr B->cellAt w B o=some v->o < lim' B/\cellAt w' B o=some v)
  {c:V} {v:Value} (h:K9 Qr w c v):K9 lim' w' c v:=by
 induction h with
 | int k n=>exact .int k n
 | bool b=>exact .bool b
 | str s=>exact .str s
 | Zi=>exact .Zi
 | Zd=>exact .Zd
 | QP l=>exact .QP l
 | Qu=>exact .Qu
 | Zu x hx=>exact .Zu x hx
 | sl own size rows B o cap vs h1 h2 h3 _ ih=>exact .sl own size rows B o cap vs h1 h2 (by grind) ih
 | Zc own size a=>exact .Zc own size a
 | snap cells B o vs h3 _ ih=>exact .snap cells B o vs (by grind) ih
 | fn f first captured fs cs h1 h2 _ _ ih1 ih2=>exact .fn f first captured fs cs h1 h2 ih1 ih2
theorem Qe.data{γ γ':Gh}{w w':World}(g:Qe γ w γ' w'){c:V}{v:Value}(h:K9 γ.Qr w c v):K9 γ'.Qr w' c v:=
 h.mono λB o v hl hc=>⟨wZ hl (g.Qr B (UU hc)),g.Pf B o v hl hc⟩
theorem Qe.uE{γ γ':Gh}{w w':World}(g:Qe γ w γ' w'){B n:Nat}(h:JV w B n):JV w' B n:=by
 obtain⟨cs,e,fz,h1,h2⟩:=h;obtain⟨cs',fz',k1,k2,_⟩:=g.room B cs e fz h1;exact⟨cs',e,fz',k1,by omega⟩
structure G7(γ:Gh)(bs:zj)(u:zl)(γ':Gh)(bs':zj)(u':zl):Prop where
 used:∀b,u b=true->u' b=true
 gone:∀b,u b=true->bs b=none->bs' b=none
 kept:∀b k,bs b=some k->u' b=true/\(bs' b=none\/∃k',bs' b=some k'/\k'.size=k.size/\(k.size < J0->k'.rows.length=k.rows.length)/\γ'.loc b=γ.loc b)
theorem G7.refl{γ:Gh}{bs:zj}{u:zl}(h:∀b k,bs b=some k->u b=true):G7 γ bs u γ bs u:=
 ⟨λ_ h=>h,λ_ _ h=>h,(by grind)⟩
def X8(b:Nat):Bool:=decide (1000000<=b)&&decide (b % 1000000 < 900000)
theorem Jg{b:Nat}(h:X8 b=true):1000000<=b:=by
 simp_all [zL,zM,X8]
def Zf(γ:Gh)(bs:zj)(u:zl)(γ':Gh)(bs':zj)(u':zl):Prop:=
 ∀b,X8 b=true->(u b=true->u' b=true)/\(u b=true->bs b=none->bs' b=none)/\
  ∀k,bs b=some k->u' b=true/\(bs' b=none\/∃k',bs' b=some k'/\k'.size=k.size/\(k.size < J0->k'.rows.length=k.rows.length)/\γ'.loc b=γ.loc b)
theorem G7.Ue{γ γ':Gh}{bs bs':zj}{u u':zl}(h:G7 γ bs u γ' bs' u'):Zf γ bs u γ' bs' u':=λb _=>⟨h.used b,h.gone b,h.kept b⟩
theorem Zf.refl{γ:Gh}{bs:zj}{u:zl}(h:∀b k,bs b=some k->u b=true):Zf γ bs u γ bs u:=(G7.refl h).Ue
theorem Zf.trans{γ γ1 γ2:Gh}{bs bs1 bs2:zj}{u u1 u2:zl}(h:Zf γ bs u γ1 bs1 u1)(k:Zf γ1 bs1 u1 γ2 bs2 u2):Zf γ bs u γ2 bs2 u2:=λb hb=>by
 obtain⟨h1,h2,h3⟩:=h b hb;obtain⟨k1,k2,k3⟩:=k b hb;grind
theorem Qz.mono{γ γ':Gh}{w w':World}{bs bs':zj}{u u':zl}(g:Qe γ w γ' w')(hb:G7 γ bs u γ' bs' u')
  {c:V} {v:Value} (h:Qz γ w bs u c v):Qz γ' w' bs' u' c v:=by
 induction h with
 | data h=>exact .data (g.data h)
 | undef v=>exact .undef v
 | ref b off len B o cap k h1 h2 h3 h4 h5 h6 h7=>
  obtain⟨hu,hk⟩:=hb.kept b k h1;rcases hk with hk|⟨k',hk,hs,hr,hl⟩
  ·exact .Qp b off len _ hk hu rfl
  ·rw[<-hs];exact .ref b off len B o cap k' hk (hl.trans h2) (by grind) h4 (g.uE (by grind)) (by grind) (by grind)
 | ZC b off B k h1 h6 h2=>
  obtain⟨hu,hk⟩:=hb.kept b k h1;rcases hk with hk|⟨k',hk,hs,hr,hl⟩
  ·exact .Qp b off 0 _ hk hu rfl
  ·exact .ZC b off B k' hk (by grind) ((hr h6).trans h2)
 | ZY b off k h1 h6 h2=>
  obtain⟨hu,hk⟩:=hb.kept b k h1;rcases hk with hk|⟨k',hk,hs,hr,hl⟩
  ·exact .Qp b off 0 _ hk hu rfl
  ·exact .ZY b off k' hk (by grind) ((hr h6).trans h2)
 | Qp b off len v h1 h2 h3=>exact .Qp b off len v (hb.gone b h2 h1) (hb.used b h2) h3
 | ptr b i off B o k h1 h2 h3=>
  obtain⟨hu,hk⟩:=hb.kept b k h1;rcases hk with hk|⟨k',hk,hs,hr,hl⟩
  ·exact .QH b i off _ hk hu rfl
  ·rw[<-hs];exact .ptr b i off B o k' hk (hl.trans h2) (by grind)
 | mp b B k h1 h2 h3=>
  obtain⟨hu,hk⟩:=hb.kept b k h1;rcases hk with hk|⟨k',hk,hs,hr,hl⟩
  ·exact .QX b _ hk hu rfl
  ·exact .mp b B k' hk (hl.trans h2) (by grind)
 | QX b v h1 h2 h3=>exact .QX b v (hb.gone b h2 h1) (hb.used b h2) h3
 | QH b i off v h1 h2 h3=>exact .QH b i off v (hb.gone b h2 h1) (hb.used b h2) h3
 | fn f first captured fs cs h1 h2 _ _ ih1 ih2=>exact .fn f first captured fs cs h1 h2 ih1 ih2
 | agg cells vs h1 _ ih=>exact .agg cells vs h1 ih
 | Qc cells vs h1 _ ih=>exact .Qc cells vs h1 ih
def D5(w:World)(B:Nat)(cs:Array Value)(e:TypeId):Prop:=
 ∃fz:Nat×Nat,w.heap[B]?=some (.cells cs e fz)/\∀i,i < cs.size->¬(fz.1<=i/\i < fz.2)
theorem D5.cellAt{w:World}{B:Nat}{cs:Array Value}{e:TypeId}(h:D5 w B cs e)(o:Nat):cellAt w B o=cs[o]?:=by
 obtain⟨fz,h,_⟩:=h;unfold EV.cellAt World.cell?;simp[h]
theorem D5.cell{w:World}{B:Nat}{cs:Array Value}{e:TypeId}(h:D5 w B cs e)(o:Nat):w.cell? ⟨B,o,none⟩=cs[o]?:=by
 obtain⟨fz,h,_⟩:=h;grind [World.cell?]
theorem D5.lt{w:World}{B:Nat}{cs:Array Value}{e:TypeId}(h:D5 w B cs e):B < w.heap.size:=by
 obtain⟨fz,h,_⟩:=h;grind
theorem D5.room{w:World}{B n:Nat}{cs:Array Value}{e:TypeId}(h:D5 w B cs e)(hn:n<=cs.size):JV w B n:=by
 obtain⟨fz,h,_⟩:=h;exact⟨cs,e,fz,h,hn⟩
theorem D5.of{w:World}{B:Nat}{cs:Array Value}{e:TypeId}(h:w.heap[B]?=some (.cells cs e (0,0))):D5 w B cs e:=
 ⟨(0,0),h,λi _=>by omega⟩
theorem D5.of_eq{w w':World}{B:Nat}{cs:Array Value}{e:TypeId}(h:D5 w B cs e)(hh:w'.heap[B]?=w.heap[B]?):D5 w' B cs e:=by
 obtain⟨fz,h,hf⟩:=h;exact⟨fz,hh.trans h,hf⟩
def D6(γ:Gh)(w:World)(t:M3)(c:V)(v:Value):Prop:=
 match c,v with
 | .sl true size rows,.slice (some a) _ cap=>cap=0\/(γ.own a.block=some t/\γ.Qr a.block<=a.off+rows.length * size)/\∃cs e,D5 w a.block cs e/\a.off+cap * size<=cs.size/\rows.length * size<=cap * size
 | _,_=>True
theorem D6.grow{γ γ1 γ2:Gh}{w w':World}(g:Qe γ1 w γ2 w'){t:M3}{c:V}{v:Value}(h:D6 γ w t c v)(hl:∀B,γ.own B=some t->γ2.Qr B<=γ.Qr B:=by intro B _;exact zQ _):D6 γ w' t c v:=by
 unfold D6 at h ⊢;split at h
 ·rcases h with h|⟨h1,cs,e,h2,h3,h4⟩
  ·exact .inl h
  obtain⟨fz,h2,hf⟩:=h2;obtain⟨cs',fz',k1,k2,k3⟩:=g.room _ cs e _ h2;rcases k3 with rfl|k3
  ·exact .inr ⟨h1,cs',e,⟨fz',k1,λi hi=>hf i (by omega)⟩,by omega,h4⟩
  grind
 ·trivial
def Tp(γ:Gh)(w:World)(bs:zj)(u:zl)(b:Nat)(k:Qd):Prop:=
 k.size < J0/\∃B o cs e,γ.loc b=some (B,o)/\γ.own B=some (.Zs b)/\D5 w B cs e/\
  (∀r,r∈k.rows->r.length=k.size)/\o+k.rows.length * k.size<=cs.size/\
  (∀(i:Nat) (c:V),k.rows.flatten[i]?=some c->∃v,cs[o+i]?=some v/\Qz γ w bs u c v/\v.oneCell'=true/\D6 γ w (.nest b (i / k.size) (i % k.size)) c v)/\
  (k.Ql=true->γ.Qr B=0)/\γ.Qr B<=o+k.rows.length * k.size
def WD(γ:Gh)(w:World)(bs:zj)(u:zl)(b:Nat)(k:Qd):Prop:=
 J0<=k.size/\∃B es clock,γ.loc b=some (B,0)/\γ.own B=some (.Zs b)/\w.heap[B]?=some (.map es clock)/\es.size=k.rows.length/\
  (∀r,r∈k.rows->r.length=mwd k.size)/\(Po k.size es/\pA es clock)/\
  (∀(i:Nat) (c:V),k.rows.flatten[i]?=some c->∃v,(es.toList.flatMap (R7 k.size))[i]?=some v/\Qz γ w bs u c v/\v.oneCell'=true)
def X3(γ:Gh)(w:World)(bs:zj)(u:zl)(b:Nat)(k:Qd):Prop:=
 (γ.loc b=none/\k.rows=[])\/WD γ w bs u b k\/Tp γ w bs u b k
theorem WD.nV{γ γ':Gh}{w w':World}{bs bs':zj}{u u':zl}{b b':Nat}{k k':Qd}(h:WD γ w bs u b k)(hl:γ'.loc b'=γ.loc b)
  (ho:∀B,γ.loc b=some (B,0)->γ.own B=some (.Zs b)->γ'.own B=some (.Zs b')/\w'.heap[B]?=w.heap[B]?) (hs:k'.size=k.size) (hn:k'.rows.length=k.rows.length)
  (hz:∀r,r∈k'.rows->r.length=mwd k.size)
  (hc:∀(i:Nat) (c':V),k'.rows.flatten[i]?=some c'->∃c,k.rows.flatten[i]?=some c/\∀v,Qz γ w bs u c v->Qz γ' w' bs' u' c' v):WD γ' w' bs' u' b' k':=by
 obtain⟨h0,B,es,clock,h1,h2,h3,h4,h5,h6,h7⟩:=h;refine⟨by grind,B,es,clock,hl.trans h1,(ho B h1 h2).1,(ho B h1 h2).2.trans h3,h4.trans hn.symm,by grind,by grind,λi c' hc'=>?_⟩;grind
theorem WD.same{γ γ':Gh}{w w':World}{bs bs':zj}{u u':zl}{b:Nat}{k:Qd}(h:WD γ w bs u b k)(hl:γ'.loc b=γ.loc b)
  (ho:∀B,γ.loc b=some (B,0)->γ.own B=some (.Zs b)->γ'.own B=some (.Zs b)/\w'.heap[B]?=w.heap[B]?) (hc:∀c v,Qz γ w bs u c v->Qz γ' w' bs' u' c v):WD γ' w' bs' u' b k:=
 h.nV hl ho rfl rfl (by obtain⟨_,_,_,_,_,_,_,_,h5,_⟩:=h;exact h5) (by grind)
theorem X3.at{γ:Gh}{w:World}{bs:zj}{u:zl}{b:Nat}{k:Qd}(h:X3 γ w bs u b k):γ.loc b=none\/∃B o,γ.loc b=some (B,o)/\γ.own B=some (.Zs b):=by
 rcases h with⟨h0,_⟩|⟨_,B,_,_,h1,h2,_⟩|⟨_,B,o,_,_,h1,h2,_⟩
 ·exact .inl h0
 ·grind
 grind
def Ha(G:zi)(γ:Gh)(w:World):Prop:=
 ∀g cells,G g=some cells->K9 γ.Qr w (.snap cells) (.pointer (some ⟨g,0,none⟩))
structure St where
 n:Nat
 t:Nat->V
 b:zj
 u:Nat->Bool
structure Qs(G:zi)(γ:Gh)(st:St)(tmps:Array Value)(w:World):Prop where
 n:tmps.size=st.n
 t:∀i,Qz γ w st.b st.u (st.t i) (tmps.getD i undef)
 b:∀b k,st.b b=some k->X3 γ w st.b st.u b k
 u:∀b k,st.b b=some k->st.u b=true
 g:Ha G γ w
 o:∀B x,γ.own B=some x->B < w.heap.size
def St.QG(st:St)(i:Nat)(c:V):St:={ st with t:=λj=>if j=i then c else st.t j }
def St.Qj(st:St)(i:Nat)(k:Qd):St:={ st with b:=λj=>if j=i then some k else st.b j,u:=λj=>if j=i then true else st.u j }
def St.QT(st:St)(i:Nat):St:={ st with b:=λj=>if j=i then none else st.b j,u:=λj=>if j=i then true else st.u j }
def St.put(st:St)(dst:Option Nat)(c:V):St:=match dst with|some d=>st.QG d c|none=>st
def W2(n:Nat)(dst:Option Nat):Bool:=match dst with|some d=>d < n|none=>true
structure Fx where
 ro:Option Nat
 ds:List Deferred
 mx:Bool
def I9(P:Program)(G:zi)(o:Oper)(st st':St):Prop:=
 ∀(fx:Fx) (γ:Gh) (a:Act) (w:World),Qs G γ st a.tmps w->a.defers=fx.ds->∀(next:Act->World->Prop) (Q:Exit->Act->World->Prop),
  (∀a' w' γ',Qs G γ' st' a'.tmps w'->Qe γ w γ' w'->Zf γ st.b st.u γ' st'.b st'.u->a'.defers=fx.ds->next a' w')->o.wp P a w next Q
def Qd5(P:Program)(G:zi)(o:Oper)(st:St)(ex:Exit)(st':St):Prop:=
 ∀(fx:Fx) (γ:Gh) (a:Act) (w:World),Qs G γ st a.tmps w->a.defers=fx.ds->∀(next:Act->World->Prop) (Q:Exit->Act->World->Prop),
  (∀a' w' γ',Qs G γ' st' a'.tmps w'->Qe γ w γ' w'->Zf γ st.b st.u γ' st'.b st'.u->a'.defers=fx.ds->Q ex a' w')->o.wp P a w next Q
theorem Qs.put{G:zi}{γ:Gh}{st:St}{a:Act}{w:World}(h:Qs G γ st a.tmps w){dst:Option Nat}{c:V}{v:Value}
  (hd:W2 st.n dst=true) (hc:Qz γ w st.b st.u c v):Qs G γ (st.put dst c) (a.put dst v).tmps w:=by
 cases dst with
 | none=>exact h
 | some d=>
  have hdn:d < st.n:=by simpa[W2] using hd
  refine⟨by simp[Act.put,St.put,St.QG,h.n],λi=>?_,h.b,h.u,h.g,h.o⟩;simp only[Act.put,St.put,St.QG];by_cases hi:i=d
  ·subst hi;rw[if_pos rfl];have:i < a.tmps.size:=by rw[h.n];exact hdn
   simp_all
  ·rw[if_neg hi];have:=h.t i;have e:(a.tmps.setIfInBounds d v).getD i undef=a.tmps.getD i undef:=by
    simp only[wL,Array.getElem?_setIfInBounds];grind
   grind
theorem X4(a:Act)(dst:Option Nat)(v:Value):(a.put dst v).defers=a.defers:=by cases dst<;>rfl
theorem M7{P:Program}{G:zi}{o:Oper}{st st':St}
  (h:∀(γ:Gh) (a:Act) (w:World),Qs G γ st a.tmps w->∃v w' γ',(execOp a.eval o).run P w=.ok (.value v) w'/\Qe γ w γ' w'/\Zf γ st.b st.u γ' st'.b st'.u/\Qs G γ' st' (a.put o.dst v).tmps w'):I9 P G o st st':=by
 intro fx γ a w hs hd next Q hn
 obtain⟨v,w',γ',hr,hg,hp,hs'⟩:=h γ a w hs;show o.upon P a next Q _
 grind [Oper.upon_value,X4]
theorem Dl{P:Program}{G:zi}{o:Oper}{st st':St}
  (h:∀(γ:Gh) (a:Act) (w:World),Qs G γ st a.tmps w->∃w' γ',(execOp a.eval o).run P w=.ok .skip w'/\Qe γ w γ' w'/\Zf γ st.b st.u γ' st'.b st'.u/\Qs G γ' st' (a.put o.dst undef).tmps w'):I9 P G o st st':=by
 intro fx γ a w hs hd next Q hn
 obtain⟨w',γ',hr,hg,hp,hs'⟩:=h γ a w hs;show o.upon P a next Q _
 grind [Oper.upon_skip,X4]
theorem E3{P:Program}{G:zi}{o:Oper}{st:St}{c:V}(hd:W2 st.n o.dst=true)
  (h:∀(γ:Gh) (a:Act) (w:World),Qs G γ st a.tmps w->∃v,(execOp a.eval o).run P w=.ok (.value v) w/\Qz γ w st.b st.u c v):I9 P G o st (st.put o.dst c):=
 M7 λγ a w hs=>let ⟨v,hr,hc⟩:=h γ a w hs;⟨v,w,γ,hr,.refl γ w,by cases o.dst<;>exact Zf.refl hs.u,hs.put hd hc⟩
def KJ:Value->Option V
 | .int k n=>some (.int k n)
 | .bool b=>some (.bool b)
 | .string s=>some (.str s)
 | .pointer none=>some .Zi
 | .nilFunc=>some .Zd
 | .slice none 0 0=>some .Qu
 | _=>none
theorem Dy{Qr:Nat->Nat}{w:World}{v:Value}{c:V}(h:KJ v=some c):K9 Qr w c v:=by
 unfold KJ at h;split at h<;>simp at h<;>subst h
 ·exact .int _ _
 ·exact .bool _
 ·exact .str _
 ·exact .Zi
 ·exact .Zd
 ·exact .Qu
def St.ev(G:zi)(st:St):Operand->Option V
 | .tmp t=>some (st.t t)
 | .const v=>KJ v
 | .global g=>(G g).map .snap
 | .func f=>some (.fn f [] [])
theorem Qs.ev{G:zi}{γ:Gh}{st:St}{a:Act}{w:World}(h:Qs G γ st a.tmps w){x:Operand}{c:V}(hx:st.ev G x=some c) :
  Qz γ w st.b st.u c (a.eval x):=by
 cases x with
 | tmp t=>simp only[St.ev,zG] at hx;subst hx;exact h.t t
 | const v=>exact .data (Dy hx)
 | global g=>
  simp only[St.ev,zJ] at hx;obtain⟨cells,hg,rfl⟩:=hx;exact .data (h.g g cells hg)
 | func f=>
  simp only[St.ev,zG] at hx;subst hx;exact .data (.fn f [] [] [] [] rfl rfl (by grind) (by grind))
section
variable {γ:Gh} {w:World} {bs:zj} {u:zl} {v:Value}
theorem Qz.Qf{k:IntKind}{n:Int}(h:Qz γ w bs u (.int k n) v):v=.int k n:=by
 cases h with|data h=>cases h;rfl
theorem Qz.QF{b:Bool}(h:Qz γ w bs u (.bool b) v):v=.bool b:=by
 cases h with|data h=>cases h;rfl
theorem Qz.QE{s:ze}(h:Qz γ w bs u (.str s) v):v=.string s:=by
 cases h with|data h=>cases h;rfl
theorem Qz.Ej(h:Qz γ w bs u .Zi v):v=.pointer none:=by
 cases h with|data h=>cases h;rfl
theorem Qz.AT(h:Qz γ w bs u .Zd v):v=.nilFunc:=by
 cases h with|data h=>cases h;rfl
theorem Qz.UB{x:Value}(h:Qz γ w bs u (.Zu x) v):v=x:=by
 cases h with
 | data h=>cases h;rfl
theorem Qz.QI(h:Qz γ w bs u .Qu v):v=.slice none 0 0:=by
 cases h with|data h=>cases h;rfl
theorem Qz.QD{cells:List V}(h:Qz γ w bs u (.agg cells) v):∃vs:List Value,v=.agg vs.toArray/\vs.length=cells.length/\
  ∀(i:Nat) (c:V) (x:Value),cells[i]?=some c->vs[i]?=some x->Qz γ w bs u c x:=by
 cases h with
 | data h=>cases h
 | agg _ vs h1 h2=>grind
theorem Qz.WI{cells:List V}(h:Qz γ w bs u (.Qc cells) v):∃vs:List Value,v=.tuple vs.toArray/\vs.length=cells.length/\
  ∀(i:Nat) (c:V) (x:Value),cells[i]?=some c->vs[i]?=some x->Qz γ w bs u c x:=by
 cases h with
 | data h=>cases h
 | Qc _ vs h1 h2=>grind
theorem Qz.HB{own:Bool}{size:Nat}{rows:List (List V)}(h:Qz γ w bs u (.sl own size rows) v):(∃a,v=.slice a 0 0/\rows=[])\/∃(B o cap:Nat) (vs:Nat->Value),v=.slice (some ⟨B,o,none⟩) rows.length cap/\
  rows.length<=cap/\(∀r,r∈rows->r.length=size)/\
   (∀(i:Nat) (c:V),rows.flatten[i]?=some c->o+i < γ.Qr B/\cellAt w B (o+i)=some (vs i))/\
   (∀(i:Nat) (c:V),rows.flatten[i]?=some c->K9 γ.Qr w c (vs i)):=by
 cases h with
 | data h=>cases h with
  | sl _ _ _ B o cap vs h1 h2 h3 h4=>exact .inr ⟨B,o,cap,vs,rfl,h1,h2,h3,h4⟩
  | Zc _ _ a=>grind
theorem Qz.HP{cells:List V}(h:Qz γ w bs u (.snap cells) v):∃(B o:Nat) (vs:Nat->Value),v=.pointer (some ⟨B,o,none⟩)/\
   (∀(i:Nat) (c:V),cells[i]?=some c->o+i < γ.Qr B/\cellAt w B (o+i)=some (vs i))/\
   (∀(i:Nat) (c:V),cells[i]?=some c->K9 γ.Qr w c (vs i)):=by
 cases h with
 | data h=>cases h with|snap _ B o vs h1 h2=>exact⟨B,o,vs,rfl,h1,h2⟩
theorem Qz.Hq{f:FuncId}{first captured:List V}(h:Qz γ w bs u (.fn f first captured) v):∃fs cs:List Value,v=.func (.func f) fs.toArray cs.toArray/\
  fs.length=first.length/\cs.length=captured.length/\
   (∀(i:Nat) (c:V) (x:Value),first[i]?=some c->fs[i]?=some x->Qz γ w bs u c x)/\
   (∀(i:Nat) (c:V) (x:Value),captured[i]?=some c->cs[i]?=some x->Qz γ w bs u c x):=by
 cases h with
 | data h=>cases h with|fn _ _ _ fs cs h1 h2 h3 h4=>exact⟨fs,cs,rfl,h1,h2,λi c x a b=>.data (h3 i c x a b),λi c x a b=>.data (h4 i c x a b)⟩
 | fn _ _ _ fs cs h1 h2 h3 h4=>grind
end
def OY(op:BinOp)(k:IntKind)(a b:Int):Option V:=
 match op with
 | .add=>some (.int k (k.wrap (a+b)))
 | .sub=>some (.int k (k.wrap (a - b)))
 | .mul=>some (.int k (k.wrap (a * b)))
 | .quo=>if b=0 then none else some (.int k (k.wrap (a.tdiv b)))
 | .rem=>if b=0 then none else some (.int k (a.tmod b))
 | .and=>some (.int k (k.wrap (BitVec.ofInt k.bits a &&& BitVec.ofInt k.bits b).toNat))
 | .or=>some (.int k (k.wrap (BitVec.ofInt k.bits a ||| BitVec.ofInt k.bits b).toNat))
 | .xor=>some (.int k (k.wrap (BitVec.ofInt k.bits a ^^^ BitVec.ofInt k.bits b).toNat))
 | .andNot=>some (.int k (k.wrap (BitVec.ofInt k.bits a &&& ~~~BitVec.ofInt k.bits b).toNat))
 | .eql=>some (.bool (a==b))
 | .neq=>some (.bool (a != b))
 | .lss=>some (.bool (decide (a < b)))
 | .leq=>some (.bool (decide (a<=b)))
 | .gtr=>some (.bool (decide (b < a)))
 | .geq=>some (.bool (decide (b<=a)))
 | _=>none
def Mk(op:BinOp)(k:IntKind)(a:Int)(b:Int):Option V:=
 if b < 0 then none else
 match op with
 | .shl=>some (.int k (k.wrap (a * 2 ^ (min b.toNat k.bits))))
 | .shr=>some (.int k (a.fdiv (2 ^ (min b.toNat k.bits))))
 | _=>none
theorem KV(a b:ze):(a.toList==b.toList)=decide (a=b):=by
 grind [decide_eq_false,beq_false_of_ne,ByteArray.toList_eq,ByteArray.ext,Array.ext']
def oM(op:BinOp)(a b:ze):Option V:=
 match op with
 | .add=>if a.size+b.size<=9223372036854775807 then some (.str (a++b)) else none
 | .eql=>some (.bool (decide (a=b)))
 | .neq=>some (.bool (!decide (a=b)))
 | .lss=>some (.bool (Op.bytesLess a.toList b.toList))
 | .leq=>some (.bool (Op.bytesLess a.toList b.toList || decide (a=b)))
 | .gtr=>some (.bool (!(Op.bytesLess a.toList b.toList || decide (a=b))))
 | .geq=>some (.bool (!Op.bytesLess a.toList b.toList))
 | _=>none
theorem Xd(P:Program)(w:World)(op:BinOp)(t:TypeId)(x y:Operand)(k k':IntKind)(a b:Int) :
  (eqGuard op t x y (.int k a) (.int k' b)).run P w=.ok () w:=by
 cases op<;>simp[eqGuard]
theorem Xe(P:Program)(w:World)(op:BinOp)(t:TypeId)(x y:Operand)(a b:ze) :
  (eqGuard op t x y (.string a) (.string b)).run P w=.ok () w:=by
 cases op<;>simp[eqGuard]
theorem uU{P:Program}{w:World}{op:BinOp}{t:TypeId}{k:IntKind}{a b:Int}{c:V}(h:OY op k a b=some c) :
  ∃v,(binOp op t (.int k a) (.int k b)).run P w=.ok v w/\∀(Qr:Nat->Nat),K9 Qr w c v:=by
 cases op<;>simp only[OY] at h
 case add|sub|mul=>simp only[zG] at h;subst h;exact⟨_,by simp[binOp,Op.intArith],λ_=>.int _ _⟩
 case quo|rem=>
  split at h
  ·simp at h
  ·rename_i hb;simp only[zG] at h;subst h;exact⟨_,by simp[binOp,Op.intDiv,hb],λ_=>.int _ _⟩
 case and|or|xor|andNot=>simp only[zG] at h;subst h;exact⟨_,by simp[binOp,Op.intBits],λ_=>.int _ _⟩
 case eql|neq|lss|leq|gtr|geq=>simp only[zG] at h;subst h;exact⟨_,by simp[binOp,Op.intCmp],λ_=>.bool _⟩
 all_goals simp at h
theorem Ao{P:Program}{w:World}{op:BinOp}{t:TypeId}{k yk:IntKind}{a b:Int}{c:V}(h:Mk op k a b=some c) :
  ∃v,(binOp op t (.int k a) (.int yk b)).run P w=.ok v w/\∀(Qr:Nat->Nat),K9 Qr w c v:=by
 unfold Mk at h;split at h
 ·simp at h
 ·rename_i hb;cases op<;>simp only[zG] at h
  case shl|shr=>subst h;exact⟨_,by simp[binOp,Op.shift,hb],λ_=>.int _ _⟩
  all_goals simp at h
theorem uZ{P:Program}{w:World}{op:BinOp}{t:TypeId}{a b:ze}{c:V}(h:oM op a b=some c) :
  ∃v,(binOp op t (.string a) (.string b)).run P w=.ok v w/\∀(Qr:Nat->Nat),K9 Qr w c v:=by
 cases op<;>simp only[oM] at h
 case add=>
  split at h
  ·rename_i hs;simp only[zG] at h;subst h;have:¬(((a.size+b.size:Nat):Int) > IntKind.i64.max):=by
    show ¬(((a.size+b.size:Nat):Int) > 9223372036854775807);omega
   exact⟨.string (a++b),by simp_all [if_false,binOp,Op.stringOp],λ_=>.str _⟩
  ·simp at h
 case eql|neq|lss|leq|gtr|geq=>simp only[zG] at h;subst h;exact⟨_,by simp only[binOp,Op.stringOp,KV];rfl,λ_=>.bool _⟩
 all_goals simp at h
def V.cellsOf:V->Option (List V)
 | .agg cs=>some cs
 | .Qc _=>none
 | .undef=>none
 | c=>some [c]
theorem Qz.XY{γ:Gh}{w:World}{bs:zj}{u:zl}{c:V}{v:Value}(h:Qz γ w bs u c v)
  (hu:c≠.undef) (ha:∀cs,c≠.agg cs) (ht:∀cs,c≠.Qc cs):v.oneCell'=true:=by
 cases h with
 | data h=>cases h<;>first|rfl|(rename_i h;cases v<;>first|rfl|simp[Wn] at h)
 | undef=>grind
 | ref=>rfl
 | ZC=>rfl
 | ZY=>rfl
 | Qp _ _ _ _ _ _ h=>exact h
 | ptr=>rfl
 | QH _ _ _ _ _ _ h=>exact h
 | mp=>rfl
 | QX _ _ _ _ h=>exact h
 | fn=>rfl
 | agg cells=>grind
 | Qc cells=>grind
theorem Dc{v:Value}(h:v.oneCell'=true):v.cells=#[v]:=by
 cases v<;>simp_all [Value.oneCell',Value.cells]
theorem Qz.cells{γ:Gh}{w:World}{bs:zj}{u:zl}{c:V}{v:Value}(h:Qz γ w bs u c v){cs:List V}(hc:c.cellsOf=some cs) :
  ∃vs:List Value,v.cells=vs.toArray/\vs.length=cs.length/\∀(i:Nat) (d:V) (x:Value),cs[i]?=some d->vs[i]?=some x->Qz γ w bs u d x:=by
 by_cases ha:∃l,c=.agg l
 ·obtain⟨l,rfl⟩:=ha;simp only[V.cellsOf,zG] at hc;subst hc;obtain⟨vs,rfl,h1,h2⟩:=h.QD;exact⟨vs,rfl,h1,h2⟩
 ·have ht:∀l,c≠.Qc l:=by grind [V.cellsOf]
  have hu:c≠.undef:=by grind [V.cellsOf]
  have hcs:cs=[c]:=by
   simp_all [V.cellsOf]
  subst hcs;have h1:=h.XY hu (by grind) ht;refine⟨[v],by rw[Dc h1],rfl,λi d x hd hx=>?_⟩;grind
def Ca(P:Program)(t:TypeId)(cells:List V)(off:Nat):Option V:=
 match P.info? t with
 | none=>none
 | some i=>match P.underlying t with
  | none=>none
  | some (.struct _)=>some (.agg ((cells.drop off).take i.size))
  | some (.array _ _)=>some (.agg ((cells.drop off).take i.size))
  | some _=>cells[off]?
theorem W9{P:Program}{w:World}{t:TypeId}{d:TypeDesc}(h:P.underlying t=some d) :
  (isAgg t).run P w=.ok (match d with|.struct _|.array _ _=>true|_=>false) w:=by
 simp only[isAgg,zX,zO h,zZ];cases d<;>rfl
theorem OS{P:Program}{γ:Gh}{w:World}{bs:zj}{u:zl}{t:TypeId}{cells:List V}{vs:List Value}{off:Nat}{c:V}
  (h:Ca P t cells off=some c) (hl:vs.length=cells.length) (hc:∀(i:Nat) (d:V) (x:Value),cells[i]?=some d->vs[i]?=some x->Qz γ w bs u d x) :
  ∃v,(part t vs.toArray off).run P w=.ok v w/\Qz γ w bs u c v:=by
 have agg:∀n,Qz γ w bs u (.agg ((cells.drop off).take n)) (.agg (vs.toArray.extract off (off+n))):=by
  intro n;have e:vs.toArray.extract off (off+n)=((vs.drop off).take n).toArray:=by simp
  rw[e];refine .agg _ _ (by simp[hl]) λi d x hd hx=>?_;grind
 unfold Ca at h;cases hi:P.info? t with
 | none=>simp[hi] at h
 | some i=>
  cases hu:P.underlying t with
  | none=>grind
  | some d=>
   rw[hu,hi] at h;cases d<;>simp at h
   case struct fs=>subst h;simp_all [W9,part,sizeOf,typeInfo]
   case array n e=>subst h;simp_all [W9,part,sizeOf,typeInfo]
   all_goals
    obtain⟨hlt,hget⟩:=wF.1 h;have hv:vs[off]?=some (vs[off]'(by omega)):=wA (by omega);refine⟨vs[off]'(by omega),?_,hc _ _ _ h hv⟩;simp[part,W9 hu,hv]
def Be(P:Program)(t:TypeId)(c:V)(f:Nat):Option V:=
 match P.underlying t,c with
 | some (.struct fs),.agg cells=>match fs[f]? with
  | some fd=>Ca P fd.type cells fd.offset
  | none=>none
 | _,_=>none
theorem Sg{P:Program}{γ:Gh}{w:World}{bs:zj}{u:zl}{t:TypeId}{c d:V}{v:Value}{f:Nat}
  (h:Be P t c f=some d) (hr:Qz γ w bs u c v):∃x,(Instr.field t v f).run P w=.ok x w/\Qz γ w bs u d x:=by
 unfold Be at h;split at h
 ·rename_i fs cells hu;obtain⟨vs,rfl,hl,hc⟩:=hr.QD;split at h
  ·rename_i fd hf;obtain⟨x,hx,hd⟩:=OS h hl hc;simp_all [zO,Instr.field,asAgg]
  ·simp at h
 ·simp at h
def W4:List V->List V->Option Bool
 | [],[]=>some true
 | .int k a :: xs,.int k' b :: ys=>if k=k' then (W4 xs ys).map λr=>(a==b)&&r else none
 | .str a :: xs,.str b :: ys=>(W4 xs ys).map λr=>decide (a=b)&&r
 | .bool a :: xs,.bool b :: ys=>(W4 xs ys).map λr=>(a==b)&&r
 | _,_=>none
def Ic(P:Program):List Field->Nat->List V->Bool
  | [],_,[]=>true
  | f :: fs,j,c :: cs=>f.offset==j&&f.name != "_"&&Ic P fs (j+1) cs &&
    (match P.underlying f.type,c with
     | some (.int _),.int _ _=>true
     | some .string,.str _=>true
     | some .bool,.bool _=>true
     | _,_=>false)
  | _,_,_=>false
def Qi5(P:Program)(t:TypeId)(xs ys:List V):Option Bool:=
 match P.underlying t with
 | some (.struct fs)=>if Ic P fs.toList 0 xs&&!P.stoodInHeld t&&!P.eqGuardType P.depth t then W4 xs ys else none
 | _=>none
def K8(P:Program):Nat->List Field->Nat->List V->Bool
 | 0,_,_,_=>false
 | n+1,fs,j,cs=>match fs with
  | []=>cs.isEmpty
  | f :: fs=>f.offset==j&&f.name != "_"&&match P.underlying f.type with
   | some (.struct gs)=>match P.info? f.type with
    | some i=>!P.stoodInHeld f.type&&decide (i.size<=cs.length)&&K8 P n gs.toList 0 (cs.take i.size)&&K8 P n fs (j+i.size) (cs.drop i.size)
    | none=>false
   | some (.int _)=>match cs with
    | .int _ _ :: cs=>K8 P n fs (j+1) cs
    | _=>false
   | some .string=>match cs with
    | .str _ :: cs=>K8 P n fs (j+1) cs
    | _=>false
   | some .bool=>match cs with
    | .bool _ :: cs=>K8 P n fs (j+1) cs
    | _=>false
   | _=>false
theorem YK:∀(m:Nat) (xs ys:List V) (r:Bool),m<=xs.length->W4 xs ys=some r->∃r1 r2,W4 (xs.take m) (ys.take m)=some r1/\W4 (xs.drop m) (ys.drop m)=some r2/\r=(r1&&r2)
 | 0,xs,ys,r,_,h=>(by grind [W4])
 | m+1,[],ys,r,hm,h=>by simp at hm
 | m+1,x :: xs,ys,r,hm,h=>by
  cases ys with
  | nil=>grind [W4]
  | cons y ys=>
   have hm':m<=xs.length:=by simpa using hm
   cases x<;>cases y<;>simp only[W4] at h<;>try (simp at h;done)
   case int.int k a k' b=>
    split at h
    ·rename_i hk;obtain⟨q,hq,rfl⟩:=zJ.1 h;obtain⟨r1,r2,h1,h2,rfl⟩:=YK m xs ys q hm' hq;grind [Bool.and_assoc,W4]
    ·simp at h
   case str.str a b=>
    obtain⟨q,hq,rfl⟩:=zJ.1 h;obtain⟨r1,r2,h1,h2,rfl⟩:=YK m xs ys q hm' hq;grind [Bool.and_assoc,decide,W4]
   case bool.bool a b=>
    obtain⟨q,hq,rfl⟩:=zJ.1 h;obtain⟨r1,r2,h1,h2,rfl⟩:=YK m xs ys q hm' hq;grind [Bool.and_assoc,W4]
theorem IZ:∀(xs ys:List V) (r:Bool),W4 xs ys=some r->ys.length=xs.length
 | [],[],_,_=>rfl
 | [],y :: ys,_,h=>by simp[W4] at h
 | x :: xs,[],_,h=>by grind [W4]
 | x :: xs,y :: ys,r,h=>by
  have key:∀q,W4 xs ys=some q->(y :: ys).length=(x :: xs).length:=λq hq=>by simp[IZ xs ys q hq]
  cases x<;>cases y<;>simp only[W4] at h<;>try (simp at h;done)
  case int.int k a k' b=>
   grind [Option.map_eq_some_iff]
  case str.str a b=>grind [Option.map_eq_some_iff]
  grind [Option.map_eq_some_iff]
theorem UL{P:Program}{γ:Gh}{w:World}{bs:zj}{u:zl} :
  ∀(n e:Nat) (xs ys:Array Value) (fs:List Field) (j:Nat) (as bs':List V) (r:Bool),n<=e->K8 P n fs j as=true->W4 as bs'=some r->
   (∀(i:Nat) (c:V),as[i]?=some c->∃v,xs[j+i]?=some v/\Qz γ w bs u c v)->
   (∀(i:Nat) (c:V),bs'[i]?=some c->∃v,ys[j+i]?=some v/\Qz γ w bs u c v)->
   (Op.eqFields e xs ys fs).run P w=.ok r w
 | 0,_,_,_,_,_,_,_,_,_,hf,_,_,_=>by simp[K8] at hf
 | n+1,0,_,_,_,_,_,_,_,hn,_,_,_,_=>by omega
 | n+1,e+1,xs,ys,[],j,as,bs',r,hn,hf,he,_,_=>by
  simp only[K8,List.isEmpty_iff] at hf;subst hf;cases bs' with
  | nil=>simp_all [W4,Op.eqFields]
  | cons=>simp[W4] at he
 | n+1,e+1,xs,ys,f :: fs,j,as,bs',r,hn,hf,he,hx,hy=>by
  simp only[K8,zL,beq_iff_eq,bne_iff_ne,ne_eq] at hf;obtain⟨⟨ho,hname⟩,hk⟩:=hf;have shift:∀(m:Nat) (zs:Array Value) (cs:List V),(∀(i:Nat) (c:V),cs[i]?=some c->∃v,zs[j+i]?=some v/\Qz γ w bs u c v)->∀(i:Nat) (c:V),(cs.drop m)[i]?=some c->∃v,zs[j+m+i]?=some v/\Qz γ w bs u c v:=(by grind);have fin:∀(p r':Bool) (x y:Value),(Op.equalIn (e+1) f.type x y).run P w=.ok p w->(Op.eqFields (e+1) xs ys fs).run P w=.ok r' w->r=(p&&r')->
    (part f.type xs f.offset).run P w=.ok x w->(part f.type ys f.offset).run P w=.ok y w->(Op.eqFields (e+1) xs ys (f :: fs)).run P w=.ok r w:=by
   simp_all [ne_eq,not_false_eq_true,if_true,zX,zZ,Sem.run_ite,wI,Op.eqFields]
  have part1:∀{d:TypeDesc} (zs:Array Value) (z:Value),P.underlying f.type=some d->(∀q,d≠.struct q)->(∀p q,d≠.array p q)->zs[j]?=some z->
    (part f.type zs f.offset).run P w=.ok z w:=by
   intro d zs z hu h1 h2 hz;cases d<;>first|exact absurd rfl (h1 _)|exact absurd rfl (h2 _ _)|simp[part,W9 hu,ho,hz]
  have rest:∀(m:Nat) (r':Bool),K8 P n fs (j+m) (as.drop m)=true->W4 (as.drop m) (bs'.drop m)=some r'->(Op.eqFields (e+1) xs ys fs).run P w=.ok r' w:=λm r' h1 h2=>
   UL n (e+1) xs ys fs (j+m) (as.drop m) (bs'.drop m) r' (by omega) h1 h2 (shift m xs as hx) (shift m ys bs' hy)
  have zero:∀(zs:Array Value) (a:V) (cs:List V),(∀(i:Nat) (c:V),(a :: cs)[i]?=some c->∃v,zs[j+i]?=some v/\Qz γ w bs u c v)->∃v,zs[j]?=some v/\Qz γ w bs u a v:=λzs a cs h=>by simpa using h 0 a rfl
  split at hk
  ·
   rename_i gs hu;split at hk
   rotate_left
   ·simp at hk
   rename_i i hi;simp only[zL,wC,zM] at hk;obtain⟨⟨⟨hp,hlen⟩,hin⟩,hrest⟩:=hk;obtain⟨r1,r2,h1,h2,hr⟩:=YK i.size as bs' r hlen he;have hlen':i.size<=bs'.length:=by grind [IZ]
   have ext:∀(zs:Array Value) (cs:List V),i.size<=cs.length->(∀(q:Nat) (c:V),cs[q]?=some c->∃v,zs[j+q]?=some v/\Qz γ w bs u c v)->∀(q:Nat) (c:V),(cs.take i.size)[q]?=some c->∃v,(zs.extract j (j+i.size))[0+q]?=some v/\Qz γ w bs u c v:=(by grind)
   have hfo:P.fieldsOf f.type=gs:=by simp[Program.fieldsOf,hu]
   have px:∀zs:Array Value,(part f.type zs f.offset).run P w=.ok (.agg (zs.extract j (j+i.size))) w:=λzs=>by simp[part,W9 hu,sizeOf,typeInfo,hi,ho]
   refine fin r1 r2 _ _ ?_ (rest i.size r2 hrest h2) hr (px xs) (px ys);rw[run_equalIn_struct w e f.type _ _ (by rw[hfo];exact hu) hp,hfo];exact UL n e _ _ gs.toList 0 (as.take i.size) (bs'.take i.size) r1 (by omega) hin h1 (ext xs as hlen hx) (ext ys bs' hlen' hy)
  ·
   rename_i ik hu;split at hk
   rotate_left
   ·simp at hk
   rename_i k a as;cases bs' with
   | nil=>simp[W4] at he
   | cons b bs'=>
    cases b<;>simp only[W4] at he<;>try (simp at he;done)
    rename_i k' b;split at he
    ·rename_i hkk;subst hkk;obtain⟨r',hr',hr⟩:=zJ.1 he;obtain⟨x,hx0,hxr⟩:=zero xs _ _ hx;obtain⟨y,hy0,hyr⟩:=zero ys _ _ hy;have:=hxr.Qf;subst this;have:=hyr.Qf;subst this;exact fin (a==b) r' _ _ (by grind [run_equalIn_int]) (rest 1 r' hk hr') hr.symm (part1 xs _ hu (by simp) (by simp) hx0) (part1 ys _ hu (by simp) (by simp) hy0)
    ·simp at he
  ·
   rename_i hu;split at hk
   rotate_left
   ·simp at hk
   rename_i a as;cases bs' with
   | nil=>simp[W4] at he
   | cons b bs'=>
    cases b<;>simp only[W4] at he<;>try grind
    rename_i b;obtain⟨r',hr',hr⟩:=zJ.1 he;obtain⟨x,hx0,hxr⟩:=zero xs _ _ hx;obtain⟨y,hy0,hyr⟩:=zero ys _ _ hy;have:=hxr.QE;subst this;have:=hyr.QE;subst this;exact fin (decide (a=b)) r' _ _ (by rw[run_equalIn_string w e f.type a b hu,KV]) (rest 1 r' hk hr') hr.symm (part1 xs _ hu (by simp) (by simp) hx0) (part1 ys _ hu (by simp) (by simp) hy0)
  ·
   rename_i hu;split at hk
   rotate_left
   ·simp at hk
   rename_i a as;cases bs' with
   | nil=>simp[W4] at he
   | cons b bs'=>
    cases b<;>simp only[W4] at he<;>try (simp at he;done)
    rename_i b;obtain⟨r',hr',hr⟩:=zJ.1 he;obtain⟨x,hx0,hxr⟩:=zero xs _ _ hx;obtain⟨y,hy0,hyr⟩:=zero ys _ _ hy;have:=hxr.QF;subst this;have:=hyr.QF;subst this;exact fin (a==b) r' _ _ (run_equalIn_bool' w e f.type a b hu) (rest 1 r' hk hr') hr.symm (part1 xs _ hu (by simp) (by simp) hx0) (part1 ys _ hu (by simp) (by simp) hy0)
  ·simp at hk
def Hu(P:Program)(t:TypeId)(xs ys:List V):Option Bool:=
 match P.underlying t with
 | some (.struct fs)=>if K8 P 100 fs.toList 0 xs&&!P.stoodInHeld t&&!P.eqGuardType P.depth t then W4 xs ys else none
 | _=>none
theorem NK{P:Program}{γ:Gh}{w:World}{bs:zj}{u:zl}{t:TypeId}{xs ys:List V}{r:Bool}(h:Hu P t xs ys=some r)
  {x y:Value} (hx:Qz γ w bs u (.agg xs) x) (hy:Qz γ w bs u (.agg ys) y) (ox oy:Operand) :
  (do eqGuard .eql t ox oy x y; binOp .eql t x y).run P w = .ok (.bool r) w /\ (do eqGuard .neq t ox oy x y; binOp .neq t x y).run P w = .ok (.bool (!r)) w := by
 unfold Hu at h;split at h
 ·rename_i fs hu;split at h
  ·rename_i hc;simp only[zL,wC] at hc;obtain⟨⟨hf,hp⟩,hg⟩:=hc;obtain⟨vx,rfl,lx,cx⟩:=hx.QD;obtain⟨vy,rfl,ly,cy⟩:=hy.QD;have hfo:P.fieldsOf t=fs:=by simp[Program.fieldsOf,hu]
   have e:(Op.equalIn 10000 t (.agg vx.toArray) (.agg vy.toArray)).run P w=.ok r w:=by
    rw[show (10000:Nat)=9999+1 from rfl,run_equalIn_struct w 9999 t _ _ (by rw[hfo];exact hu) hp,hfo];refine UL (γ:=γ) (bs:=bs) (u:=u) 100 9999 _ _ fs.toList 0 xs ys r (by omega) hf h ?_ ?_
    ·intro i c hc;obtain⟨hlt,_⟩:=wF.1 hc;have hv:vx[i]?=some (vx[i]'(by omega)):=(by grind);grind
    ·intro i c hc;obtain⟨hlt,_⟩:=wF.1 hc;have hv:vy[i]?=some (vy[i]'(by omega)):=(by grind);grind
   grind [Sem.run_bind,run_eqGuard_agg,Result.andThen_ok,run_eql_struct,run_neq_struct]
  ·simp at h
 ·simp at h
def F6(P:Program)(e:TypeId)(c:V):Bool:=match P.underlying e,c with
 | some (.int _),.int _ _=>true
 | some .string,.str _=>true
 | some .bool,.bool _=>true
 | _,_=>false
def Ms(P:Program)(t:TypeId)(xs ys:List V):Option Bool:=
 match P.underlying t with
 | some (.array n e)=>if decide (xs.length=n)&&xs.all (F6 P e)&&decide (P.cellsOf e=1)&&(P.info? e).isSome&&!P.eqGuardType P.depth t then W4 xs ys else none
 | _=>none
theorem ES{P:Program}{w:World}{e:TypeId}{c:V}(hf:F6 P e c=true){zs:Array Value}{j:Nat}{z:Value}(hz:zs[j]?=some z):(part e zs j).run P w=.ok z w:=by
 unfold F6 at hf;split at hf
 ·simp_all [W9,part]
 ·simp_all [W9,part]
 ·simp_all [W9,part]
 ·simp at hf
theorem MG{P:Program}{γ:Gh}{w:World}{bs:zj}{u:zl}(d:Nat)(e:TypeId)(xs ys:Array Value) :
  ∀(as bs':List V) (j:Nat) (r:Bool),as.all (F6 P e)=true->W4 as bs'=some r->
   (∀(i:Nat) (c:V),as[i]?=some c->∃v,xs[j+i]?=some v/\Qz γ w bs u c v)->
   (∀(i:Nat) (c:V),bs'[i]?=some c->∃v,ys[j+i]?=some v/\Qz γ w bs u c v)->
   (Op.eqItems (d+1) e 1 xs ys (List.range' j as.length)).run P w=.ok r w
 | [],bs',j,r,_,he,_,_=>by
  cases bs' with
  | nil=>simp_all [W4,Op.eqItems]
  | cons=>simp[W4] at he
 | a :: as,bs',j,r,hf,he,hx,hy=>by
  cases bs' with
  | nil=>grind [W4]
  | cons b bs'=>
   simp only[List.all_cons,zL] at hf;obtain⟨hfa,hfr⟩:=hf;obtain⟨x,hx0,hxr⟩:=hx 0 a rfl;obtain⟨y,hy0,hyr⟩:=hy 0 b rfl;simp only[Nat.add_zero] at hx0 hy0;have hx':∀(i:Nat) (c:V),as[i]?=some c->∃v,xs[j+1+i]?=some v/\Qz γ w bs u c v:=λi c hc=>by
    have:=hx (i+1) c (by simpa using hc);grind
   have hy':∀(i:Nat) (c:V),bs'[i]?=some c->∃v,ys[j+1+i]?=some v/\Qz γ w bs u c v:=λi c hc=>by
    have:=hy (i+1) c (by simpa using hc);grind
   have px:(part e xs (j * 1)).run P w=.ok x w:=by rw[Nat.mul_one];exact ES hfa hx0
   have py:(part e ys (j * 1)).run P w=.ok y w:=by rw[Nat.mul_one];exact ES hfa hy0
   have fin:∀p,(Op.equalIn (d+1) e x y).run P w=.ok p w->(∃r',W4 as bs'=some r'/\r=(p&&r'))->(Op.eqItems (d+1) e 1 xs ys (List.range' j (a :: as).length)).run P w=.ok r w:=by
    intro p hp ⟨r',hr',hr⟩;have ih:=MG (γ:=γ) (w:=w) (bs:=bs) (u:=u) d e xs ys as bs' (j+1) r' hfr hr' hx' hy';rw[wV,List.range'_succ];simp only[Op.eqItems,zX,px,py,zZ,hp];cases p
    ·simp[hr]
    grind
   cases a<;>cases b<;>simp only[W4] at he<;>try (simp at he;done)
   case int.int k m k' m'=>
    split at he
    ·rename_i hkk;subst hkk;obtain⟨r',hr',hr⟩:=zJ.1 he;have:=hxr.Qf;subst this;have:=hyr.Qf;subst this;cases hu:P.underlying e with
     | none=>simp[F6,hu] at hfa
     | some dd=>
      cases dd<;>simp[F6,hu] at hfa;grind [run_equalIn_int]
    ·simp at he
   case str.str m m'=>
    obtain⟨r',hr',hr⟩:=zJ.1 he;have:=hxr.QE;subst this;have:=hyr.QE;subst this;cases hu:P.underlying e with
    | none=>simp[F6,hu] at hfa
    | some dd=>
     cases dd<;>simp[F6,hu] at hfa;grind [run_equalIn_string,KV,decide]
   case bool.bool m m'=>
    obtain⟨r',hr',hr⟩:=zJ.1 he;have:=hxr.QF;subst this;have:=hyr.QF;subst this;cases hu:P.underlying e with
    | none=>simp[F6,hu] at hfa
    | some dd=>
     cases dd<;>simp[F6,hu] at hfa;grind [run_equalIn_bool']
theorem KY{P:Program}{γ:Gh}{w:World}{bs:zj}{u:zl}{t:TypeId}{xs ys:List V}{r:Bool}(h:Ms P t xs ys=some r)
  {x y:Value} (hx:Qz γ w bs u (.agg xs) x) (hy:Qz γ w bs u (.agg ys) y):(Op.equal t x y).run P w=.ok r w:=by
 unfold Ms at h;split at h
 ·rename_i n e hu;split at h
  ·rename_i hc;simp only[zL,wC,zM] at hc;obtain⟨⟨⟨⟨hn,hf⟩,h1⟩,hi⟩,hg⟩:=hc;obtain⟨i,hi⟩:=Option.isSome_iff_exists.1 hi;obtain⟨vx,rfl,lx,cx⟩:=hx.QD;obtain⟨vy,rfl,ly,cy⟩:=hy.QD;show (Op.equalIn 10000 t (.agg vx.toArray) (.agg vy.toArray)).run P w=.ok r w;rw[show (10000:Nat)=9998+1+1 from rfl,run_equalIn_array w (9998+1) _ _ hu hi,h1,List.range_eq_range',<-hn];refine MG (γ:=γ) (bs:=bs) (u:=u) 9998 e _ _ xs ys 0 r hf h ?_ ?_
   ·intro i c hc;obtain⟨hlt,_⟩:=wF.1 hc;have hv:vx[i]?=some (vx[i]'(by omega)):=(by grind);grind
   ·intro i c hc;obtain⟨hlt,_⟩:=wF.1 hc;have hv:vy[i]?=some (vy[i]'(by omega)):=(by grind);grind
  ·simp at h
 ·simp at h
theorem Sn{P:Program}{γ:Gh}{w:World}{bs:zj}{u:zl}{t:TypeId}{xs ys:List V}{r:Bool}(h:Ms P t xs ys=some r)
  {x y:Value} (hx:Qz γ w bs u (.agg xs) x) (hy:Qz γ w bs u (.agg ys) y) (ox oy:Operand) :
  (do eqGuard .eql t ox oy x y; binOp .eql t x y).run P w = .ok (.bool r) w /\ (do eqGuard .neq t ox oy x y; binOp .neq t x y).run P w = .ok (.bool (!r)) w := by
 have e:=KY h hx hy;unfold Ms at h;split at h
 ·split at h
  ·rename_i hc;simp only[zL,wC,zM] at hc;obtain⟨vx,rfl,lx,cx⟩:=hx.QD;obtain⟨vy,rfl,ly,cy⟩:=hy.QD;have e:(Op.equalIn 10000 t (.agg vx.toArray) (.agg vy.toArray)).run P w=.ok r w:=e;constructor
   ·grind [Sem.run_bind,run_eqGuard_agg,Result.andThen_ok,run_eql_struct]
   grind [Sem.run_bind,run_eqGuard_agg,Result.andThen_ok,run_neq_struct]
  ·simp at h
 ·simp at h
def Gf(P:Program)(t:TypeId)(xs ys:List V):Option Bool:=
 match P.underlying t with
 | some (.array _ _)=>Ms P t xs ys
 | _=>Hu P t xs ys
theorem Ag{P:Program}{γ:Gh}{w:World}{bs:zj}{u:zl}{t:TypeId}{xs ys:List V}{r:Bool}(h:Gf P t xs ys=some r)
  {x y:Value} (hx:Qz γ w bs u (.agg xs) x) (hy:Qz γ w bs u (.agg ys) y) (ox oy:Operand) :
  (do eqGuard .eql t ox oy x y; binOp .eql t x y).run P w = .ok (.bool r) w /\ (do eqGuard .neq t ox oy x y; binOp .neq t x y).run P w = .ok (.bool (!r)) w := by
 grind [Sn,NK,Gf]
theorem Wy{P:Program}{w:World}(em:Bool)(n:Nat)(e:TypeId)(zs:Array Value){q:TypeInfo}(hi:P.info? e=some q)(h1:P.cellsOf e=1) :
  ∀(as:List V) (j:Nat),as.all (F6 P e)=true->j+as.length<=zs.size->
   (forIn (List.range' j as.length) PUnit.unit (λi _ => (do
     let s <-sizeOf e
     let c <-part e zs (i * s)
     Instr.checkKey em (n+1) e c
     pure (ForInStep.yield PUnit.unit))):Sem PUnit).run P w=.ok PUnit.unit w
 | [],j,_,_=>by simp
 | a :: as,j,hf,hl=>by
  simp only[List.all_cons,zL] at hf;simp only[wV] at hl;have hz:zs[j]?=some (zs[j]'(by omega)):=(by grind);have px:(part e zs (j * 1)).run P w=.ok (zs[j]'(by omega)) w:=by rw[Nat.mul_one];exact ES hf.1 hz
  have ck:(Instr.checkKey em (n+1) e (zs[j]'(by omega))).run P w=.ok () w:=by
   have hfa:=hf.1;unfold F6 at hfa;split at hfa
   ·simp_all [zO,Instr.checkKey]
   ·simp_all [zO,Instr.checkKey]
   ·simp_all [zO,Instr.checkKey]
   ·simp at hfa
  have ih:=Wy (P:=P) (w:=w) em n e zs hi h1 as (j+1) hf.2 (by omega);simp_all [wV,List.range'_succ,List.forIn_cons,zX,run_sizeOf,zZ,wI]
section
variable {γ:Gh} {w:World} {bs:zj} {u:zl} {v:Value}
theorem Qz.ZO{b off len:Nat}{k:Qd}(h:Qz γ w bs u (.ref b off len) v)(hk:bs b=some k) :
  (∃B o cap,v=.slice (some ⟨B,o+off * k.size,none⟩) len cap/\γ.loc b=some (B,o)/\off+len<=k.rows.length/\len<=cap/\JV w B (o+(off+cap) * k.size)/\k.size < J0/\k.rows.length<=off+cap)\/
   (∃B,v=.slice (some B) 0 0/\len=0/\k.rows.length=off/\k.size < J0)\/(v=.slice none 0 0/\len=0/\k.rows.length=off/\k.size < J0):=by
 cases h with
 | data h=>cases h
 | ref _ _ _ B o cap k' h1 h2 h3 h4 h5 h6 h7=>
  grind
 | ZC _ _ B k' h1 h6 h2=>
  grind
 | ZY _ _ k' h1 h6 h2=>
  grind
 | Qp _ _ _ _ h1=>grind
theorem Qz.Zh{b i off:Nat}{k:Qd}(h:Qz γ w bs u (.ptr b i off) v)(hk:bs b=some k) :
  ∃B o,v=.pointer (some ⟨B,o+(i * k.size+off),none⟩)/\γ.loc b=some (B,o):=by
 cases h with
 | data h=>cases h
 | ptr _ _ _ B o k' h1 h2=>
  grind
 | QH _ _ _ _ h1=>grind
theorem Qz.Za{b i off:Nat}{k:Qd}(h:Qz γ w bs u (.ptr b i off) v)(hk:bs b=some k):k.size < J0:=by
 cases h with
 | data h=>cases h
 | ptr _ _ _ B o k' h1 h2 h3=>
  grind
 | QH _ _ _ _ h1=>grind
theorem Qz.mE{b:Nat}{k:Qd}(h:Qz γ w bs u (.mp b) v)(hk:bs b=some k):∃B,v=.map (some B)/\γ.loc b=some (B,0)/\J0<=k.size:=by
 cases h with
 | data h=>cases h
 | mp _ B k' h1 h2 h3=>
  grind
 | QX _ _ h1=>grind
theorem WD.small{γ:Gh}{w:World}{bs:zj}{u:zl}{b:Nat}{k:Qd}(h:WD γ w bs u b k)(hz:k.size < J0):False:=Nat.not_le_of_lt hz h.1
end
theorem Addr.add_eq(B o n:Nat):(⟨B,o,none⟩:Addr).add n=⟨B,o+n,none⟩:=by
 grind [Addr.add]
theorem H2{s:Nat}:∀(rows:List (List V)) (_:∀r,r∈rows->r.length=s) (i j:Nat),j < s->rows.flatten[i * s+j]?=(rows[i]?).bind (·[j]?)
 | [],_,i,j,_=>by simp
 | r :: rows,h,i,j,hj=>by
  have hr:=h r (by simp);cases i with
  | zero=>grind
  | succ i=>
   have ih:=H2 rows (by grind) i j hj;grind
def Dd(P:Program)(t:TypeId):Bool:=match P.underlying t with|some (.pointer _)=>true|_=>false
def T8(P:Program)(t:TypeId):Bool:=match P.underlying t with|some (.slice _)=>true|_=>false
def XA(P:Program)(t:TypeId):Bool:=match P.underlying t with|some (.func _ _ _)=>true|_=>false
def CG(P:Program)(t:TypeId):Bool:=match P.underlying t with|some .bool=>true|_=>false
def eqV(P:Program)(look:zj)(t:TypeId)(x y:V):Option Bool:=
 match x,y with
 | .bool a,.bool b=>if CG P t then some (a==b) else none
 | .Zi,.Zi=>if Dd P t then some true else none
 | .snap _,.Zi=>if Dd P t then some false else none
 | .ptr b _ _,.Zi=>if Dd P t&&(look b).isSome then some false else none
 | .Qu,.Qu=>if T8 P t then some true else none
 | .sl _ _ (_ :: _),.Qu=>if T8 P t then some false else none
 | .ref b _ (_+1),.Qu=>if T8 P t&&(look b).isSome then some false else none
 | .Zd,.Zd=>if XA P t then some true else none
 | .fn _ _ _,.Zd=>if XA P t then some false else none
 | _,_=>none
theorem D3{P:Program}{w:World}{t:TypeId}{x y:Value}{r:Bool}(ox oy:Operand)(hq:∀op,(eqGuard op t ox oy x y).run P w=.ok () w)
  (he0 : ∀ d, (Op.equalIn (d + 1) t x y).run P w = .ok r w) (hb : binOp .eql t x y = (do pure (.bool (<- Op.equal t x y)))) (hb' : binOp .neq t x y = (do pure (.bool (!(<- Op.equal t x y))))) :
  (do eqGuard .eql t ox oy x y; binOp .eql t x y).run P w = .ok (.bool r) w /\ (do eqGuard .neq t ox oy x y; binOp .neq t x y).run P w = .ok (.bool (!r)) w := by
 have he:(Op.equal t x y).run P w=.ok r w:=he0 9999;simp_all
theorem Cu{P:Program}{γ:Gh}{w:World}{bs:zj}{u:zl}{t:TypeId}{x y:V}{r:Bool}(h:eqV P bs t x y=some r)
  {vx vy:Value} (hx:Qz γ w bs u x vx) (hy:Qz γ w bs u y vy) (ox oy:Operand) :
  (do eqGuard .eql t ox oy vx vy; binOp .eql t vx vy).run P w = .ok (.bool r) w /\ (do eqGuard .neq t ox oy vx vy; binOp .neq t vx vy).run P w = .ok (.bool (!r)) w := by
 unfold eqV at h;split at h
 ·split at h
  ·rename_i a b ht;simp only[zG] at h;subst h;have:=hx.QF;subst this;have:=hy.QF;subst this;have hu:P.underlying t=some .bool:=by grind [CG]
   exact D3 ox oy (λop=>by cases op<;>simp[eqGuard]) (λd=>by simp[Op.equalIn,zO hu]) rfl rfl
  ·simp at h
 ·split at h
  ·rename_i ht;simp only[zG] at h;subst h;have:=hx.Ej;subst this;have:=hy.Ej;subst this;obtain⟨e,hu⟩:∃e,P.underlying t=some (.pointer e):=by grind [Dd]
   exact D3 ox oy (λop=>by cases op<;>simp[eqGuard]) (λd=>by simp[Op.equalIn,zO hu]) rfl rfl
  ·simp at h
 ·split at h
  ·rename_i cells ht;simp only[zG] at h;subst h;obtain⟨B,o,vs,rfl,-,-⟩:=hx.HP;have:=hy.Ej;subst this;obtain⟨e,hu⟩:∃e,P.underlying t=some (.pointer e):=by grind [Dd]
   exact D3 ox oy (λop=>by cases op<;>simp[eqGuard]) (λd=>by simp[Op.equalIn,zO hu]) rfl rfl
  ·simp at h
 ·split at h
  ·rename_i b i off ht;simp only[zG] at h;subst h;simp only[zL,Option.isSome_iff_exists] at ht;obtain⟨ht,k,hk⟩:=ht;obtain⟨B,o,rfl,-⟩:=hx.Zh hk;have:=hy.Ej;subst this;obtain⟨e,hu⟩:∃e,P.underlying t=some (.pointer e):=by grind [Dd]
   exact D3 ox oy (λop=>by cases op<;>simp[eqGuard]) (λd=>by simp[Op.equalIn,zO hu]) rfl rfl
  ·simp at h
 ·split at h
  ·rename_i ht;simp only[zG] at h;subst h;have:=hx.QI;subst this;have:=hy.QI;subst this;obtain⟨e,hu⟩:∃e,P.underlying t=some (.slice e):=by grind [T8]
   exact D3 ox oy (λop=>by cases op<;>simp[eqGuard]) (λd=>by simp[Op.equalIn,zO hu]) rfl rfl
  ·simp at h
 ·split at h
  ·rename_i ht;simp only[zG] at h;subst h;obtain⟨_,-,hx0⟩|⟨B,o,cap,vs,rfl,-,-,-,-⟩:=hx.HB
   ·simp at hx0
   have:=hy.QI;subst this;obtain⟨e,hu⟩:∃e,P.underlying t=some (.slice e):=by grind [T8]
   exact D3 ox oy (λop=>by cases op<;>simp[eqGuard]) (λd=>by simp[Op.equalIn,zO hu]) rfl rfl
  ·simp at h
 ·split at h
  ·rename_i b off len ht;simp only[zG] at h;subst h;simp only[zL,Option.isSome_iff_exists] at ht;obtain⟨ht,k,hk⟩:=ht;have:=hy.QI;subst this;obtain⟨e,hu⟩:∃e,P.underlying t=some (.slice e):=by grind [T8]
   rcases hx.ZO hk with⟨B,o,cap,rfl,-⟩|⟨B,_,h0,-⟩|⟨-,h0,-⟩
   rotate_left
   ·simp at h0
   ·simp at h0
   exact D3 ox oy (λop=>by cases op<;>simp[eqGuard]) (λd=>by simp[Op.equalIn,zO hu]) rfl rfl
  ·simp at h
 ·split at h
  ·rename_i ht;simp only[zG] at h;subst h;have:=hx.AT;subst this;have:=hy.AT;subst this;obtain⟨a,b,c,hu⟩:∃a b c,P.underlying t=some (.func a b c):=by grind [XA]
   exact D3 ox oy (λop=>by cases op<;>simp[eqGuard]) (λd=>by simp[Op.equalIn,zO hu]) rfl rfl
  ·simp at h
 ·split at h
  ·rename_i ht;simp only[zG] at h;subst h;obtain⟨fs,cs,rfl,-⟩:=hx.Hq;have:=hy.AT;subst this;obtain⟨a,b,c,hu⟩:∃a b c,P.underlying t=some (.func a b c):=by grind [XA]
   exact D3 ox oy (λop=>by cases op<;>simp[eqGuard]) (λd=>by simp[Op.equalIn,zO hu]) rfl rfl
  ·simp at h
 ·simp at h
def RT(P:Program)(look:zj)(op:BinOp)(t:TypeId)(x y:V):Option V:=
 match x,y with
 | .int k a,.int k' b=>match op with
  | .shl|.shr=>Mk op k a b
  | _=>if k=k' then OY op k a b else none
 | .str a,.str b=>oM op a b
 | .agg xs,.agg ys=>match op with
  | .eql=>(Gf P t xs ys).map .bool
  | .neq=>(Gf P t xs ys).map λr=>.bool (!r)
  | _=>none
 | x,y=>match op with
  | .eql=>(eqV P look t x y).map .bool
  | .neq=>(eqV P look t x y).map λr=>.bool (!r)
  | _=>none
theorem uW{P:Program}{γ:Gh}{w:World}{bs:zj}{u:zl}{op:BinOp}{t:TypeId}{x y c:V}(h:RT P bs op t x y=some c)
  {vx vy:Value} (hx:Qz γ w bs u x vx) (hy:Qz γ w bs u y vy) (ox oy:Operand) :
  ∃ v, (do eqGuard op t ox oy vx vy; binOp op t vx vy).run P w = .ok v w /\ Qz γ w bs u c v := by
 unfold RT at h;split at h
 ·rename_i k a k' b;have:=hx.Qf;subst this;have:=hy.Qf;subst this;have key : ∀ {v}, (binOp op t (.int k a) (.int k' b)).run P w = .ok v w -> (do eqGuard op t ox oy (.int k a) (.int k' b); binOp op t (.int k a) (.int k' b)).run P w = .ok v w := by
   grind [Sem.run_bind,Xd,Result.andThen_ok]
  split at h
  ·obtain⟨v,h1,h2⟩:=Ao (P:=P) (w:=w) (t:=t) (yk:=k') h;exact⟨v,key h1,.data (h2 _)⟩
  ·obtain⟨v,h1,h2⟩:=Ao (P:=P) (w:=w) (t:=t) (yk:=k') h;exact⟨v,key h1,.data (h2 _)⟩
  ·split at h
   ·rename_i hkk;subst hkk;obtain⟨v,h1,h2⟩:=uU (P:=P) (w:=w) (t:=t) h;exact⟨v,key h1,.data (h2 _)⟩
   ·simp at h
 ·rename_i a b;have:=hx.QE;subst this;have:=hy.QE;subst this;obtain⟨v,h1,h2⟩:=uZ (P:=P) (w:=w) (t:=t) h;exact⟨v,by rw[zX,Xe,zZ,h1],.data (h2 _)⟩
 ·rename_i xs ys;split at h
  ·obtain⟨r,hr,rfl⟩:=zJ.1 h;exact⟨_,(Ag hr hx hy ox oy).1,.data (.bool _)⟩
  ·obtain⟨r,hr,rfl⟩:=zJ.1 h;exact⟨_,(Ag hr hx hy ox oy).2,.data (.bool _)⟩
  ·simp at h
 ·split at h
  ·obtain⟨r,hr,rfl⟩:=zJ.1 h;exact⟨_,(Cu hr hx hy ox oy).1,.data (.bool _)⟩
  ·obtain⟨r,hr,rfl⟩:=zJ.1 h;exact⟨_,(Cu hr hx hy ox oy).2,.data (.bool _)⟩
  ·simp at h
def unV(op:UnOp)(x:V):Option V:=
 match op,x with
 | .neg,.int k n=>some (.int k (k.wrap (0 - n)))
 | .xor,.int k n=>OY .xor k (if k.signed then -1 else k.max) n
 | .not,.bool b=>some (.bool (!b))
 | _,_=>none
theorem lK{P:Program}{γ:Gh}{w:World}{bs:zj}{u:zl}{op:UnOp}{x c:V}(h:unV op x=some c){vx:Value}(hx:Qz γ w bs u x vx) :
  ∃v,(Op.unary op vx).run P w=.ok v w/\Qz γ w bs u c v:=by
 unfold unV at h;split at h
 ·have:=hx.Qf;subst this;simp only[zG] at h;subst h;exact⟨_,by simp[Op.unary,Op.intArith],.data (.int _ _)⟩
 ·have:=hx.Qf;subst this;simp only[OY,zG] at h;subst h;exact⟨_,by simp[Op.unary,Op.intBits],.data (.int _ _)⟩
 ·have:=hx.QF;subst this;simp only[zG] at h;subst h;exact⟨_,by simp[Op.unary],.data (.bool _)⟩
 ·simp at h
def xX(P:Program)(src dst:TypeId)(x:V):Option V:=
 match P.underlying src,P.underlying dst,x with
 | some _,some (.int k),.int _ n=>some (.int k (k.wrap n))
 | some _,some .string,.str s=>some (.str s)
 | _,_,_=>none
theorem TC{P:Program}{γ:Gh}{w:World}{bs:zj}{u:zl}{s d:TypeId}{x c:V}(h:xX P s d x=some c){vx:Value}(hx:Qz γ w bs u x vx) :
  ∃v,(convert s d vx).run P w=.ok v w/\Qz γ w bs u c v:=by
 unfold xX at h;split at h
 ·rename_i ds k k' n hs hd;have:=hx.Qf;subst this;simp only[zG] at h;subst h;exact⟨_,by simp_all [zO,convert,Conv.intToInt],.data (.int _ _)⟩
 ·rename_i ds st hs hd;have:=hx.QE;simp_all [zG,zO,convert]
 ·simp at h
def R4(γ:Gh)(w:World)(bs:zj)(u:zl)(B o:Nat)(cells:List V):Prop:=
 ∀(j:Nat) (c:V),cells[j]?=some c->∃v,cellAt w B (o+j)=some v/\Qz γ w bs u c v
theorem R4.drop{γ:Gh}{w:World}{bs:zj}{u:zl}{B o:Nat}{cells:List V}(h:R4 γ w bs u B o cells)(n:Nat) :
  R4 γ w bs u B (o+n) (cells.drop n):=λj c hc=>by
 rw[List.getElem?_drop] at hc;obtain⟨v,h1,h2⟩:=h (n+j) c hc;grind
theorem R4.list{γ:Gh}{w:World}{bs:zj}{u:zl}{B o:Nat}{cells:List V}(h:R4 γ w bs u B o cells) :
  ∃vs:List Value,vs.length=cells.length/\(∀(j:Nat) (v:Value),vs[j]?=some v->cellAt w B (o+j)=some v)/\
   ∀(j:Nat) (c:V) (v:Value),cells[j]?=some c->vs[j]?=some v->Qz γ w bs u c v:=by
 induction cells generalizing o with
 | nil=>simp_all
 | cons c cells ih=>
  obtain⟨v,h1,h2⟩:=h 0 c rfl;have hd:R4 γ w bs u B (o+1) cells:=h.drop 1;obtain⟨vs,l1,l2,l3⟩:=ih hd;refine⟨v :: vs,by simp[l1],λj x hx=>?_,λj d x hd hx=>?_⟩
  ·grind
  grind
def N5(P:Program)(t:TypeId)(cells:List V):Option V:=
 match P.info? t with
 | none=>none
 | some i=>match P.underlying t with
  | none=>none
  | some (.struct _)=>if i.size<=cells.length then some (.agg (cells.take i.size)) else none
  | some (.array _ _)=>if i.size<=cells.length then some (.agg (cells.take i.size)) else none
  | some _=>cells[0]?
theorem DX{P:Program}{γ:Gh}{w:World}{bs:zj}{u:zl}{B o n:Nat}{cells:List V}(h:R4 γ w bs u B o cells)(hn:n<=cells.length) :
  ∃vs:Array Value,(loadCells ⟨B,o,none⟩ n).run P w=.ok vs w/\Qz γ w bs u (.agg (cells.take n)) (.agg vs):=by
 obtain⟨vs,l1,l2,l3⟩:=h.list;refine⟨(vs.take n).toArray,?_,.agg _ _ (by simp[l1]) λj c v hc hv=>?_⟩
 ·have:=run_loadCells_list (P:=P) w ⟨B,o,none⟩ (vs.take n) (λj v hv=>by
   rw[Addr.add_eq];rw[List.getElem?_take] at hv;split at hv
   ·exact l2 j v hv
   ·simp at hv)
  grind
 grind
theorem YV{P:Program}{γ:Gh}{w:World}{bs:zj}{u:zl}{t:TypeId}{B o:Nat}{cells:List V}{c:V}
  (h:N5 P t cells=some c) (hc:R4 γ w bs u B o cells):∃v,(loadVar t ⟨B,o,none⟩).run P w=.ok v w/\Qz γ w bs u c v:=by
 unfold N5 at h;cases hi:P.info? t with
 | none=>simp[hi] at h
 | some i=>
  cases hu:P.underlying t with
  | none=>grind
  | some d=>
   rw[hu,hi] at h;cases d<;>simp only[] at h
   case struct fs=>
    split at h<;>simp at h;rename_i hn;subst h;obtain⟨vs,h1,h2⟩:=DX (P:=P) hc hn;simp_all [W9,loadVar,sizeOf,typeInfo]
   case array n e=>
    split at h<;>simp at h;rename_i hn;subst h;obtain⟨vs,h1,h2⟩:=DX (P:=P) hc hn;simp_all [W9,loadVar,sizeOf,typeInfo]
   all_goals
    obtain⟨v,h1,h2⟩:=hc 0 c h;have h1':w.cell? ⟨B,o,none⟩=some v:=h1;simp_all [W9,loadVar]
def JR(look:zj)(c:V):Option (List V):=
 match c with
 | .snap cells=>some cells
 | .ptr b i off=>match look b with
  | some k=>match k.rows[i]? with
   | some r=>some (r.drop off)
   | none=>none
  | none=>none
 | _=>none
theorem X3.row{γ:Gh}{w:World}{bs:zj}{u:zl}{b:Nat}{k:Qd}(h:X3 γ w bs u b k){B o:Nat}(hl:γ.loc b=some (B,o)){i:Nat}{r:List V}(hr:k.rows[i]?=some r)(hz:k.size < J0) :
  R4 γ w bs u B (o+i * k.size) r:=by
 rcases h with⟨h0,_⟩|hm|⟨_,B',o',cs,e,h1,_,h3,h4,_,h6,_,_⟩
 ·grind
 ·exact absurd hz (Nat.not_lt_of_le hm.1)
 rw[hl] at h1;simp only[zG,zT] at h1;obtain⟨rfl,rfl⟩:=h1;intro j c hc;have hlen:=h4 r (wd hr);have hj:j < k.size:=by grind
 obtain⟨v,hv,hrep,_⟩:=h6 (i * k.size+j) c (by grind [H2]);refine⟨v,?_,hrep⟩;rw[h3.cellAt];grind
theorem Qs.JR{G:zi}{γ:Gh}{st:St}{tmps:Array Value}{w:World}(h:Qs G γ st tmps w){c:V}{cells:List V}(hc:JR st.b c=some cells)
  {v:Value} (hr:Qz γ w st.b st.u c v):∃B o,v=.pointer (some ⟨B,o,none⟩)/\R4 γ w st.b st.u B o cells:=by
 unfold EV.JR at hc;split at hc
 ·rename_i cs;simp only[zG] at hc;subst hc;obtain⟨B,o,vs,rfl,h1,h2⟩:=hr.HP;exact⟨B,o,rfl,λj c hj=>⟨vs j,(h1 j c hj).2,.data (h2 j c hj)⟩⟩
 ·rename_i b i off;split at hc
  ·rename_i k hk;split at hc
   ·rename_i r Zr;simp only[zG] at hc;subst hc;obtain⟨B,o,rfl,hl⟩:=hr.Zh hk;refine⟨B,o+(i * k.size+off),rfl,?_⟩;have:=((h.b b k hk).row hl Zr (hr.Za hk)).drop off;grind
   ·simp at hc
  ·simp at hc
 ·simp at hc
def Ie(P:Program)(look:zj)(t:TypeId)(c:V):Option V:=(JR look c).bind (N5 P t)
theorem TB{P:Program}{G:zi}{γ:Gh}{st:St}{tmps:Array Value}{w:World}(hs:Qs G γ st tmps w){t:TypeId}{c d:V}(h:Ie P st.b t c=some d)
  {v:Value} (hr:Qz γ w st.b st.u c v):∃x,(Instr.loadAt t v).run P w=.ok x w/\Qz γ w st.b st.u d x:=by
 obtain⟨cells,h1,h2⟩:=wq.1 h;obtain⟨B,o,rfl,hc⟩:=hs.JR h1 hr;grind [YV,Instr.loadAt,Instr.sureAddr]
theorem OG{γ:Gh}{w:World}{bs:zj}{u:zl}{cells:List V}{B o n:Nat}{vs:Nat->Value}
  (h1:∀(i:Nat) (c:V),cells[i]?=some c->o+i < γ.Qr B/\cellAt w B (o+i)=some (vs i)) (h2:∀(i:Nat) (c:V),cells[i]?=some c->K9 γ.Qr w c (vs i)) :
  Qz γ w bs u (.snap (cells.drop n)) (.pointer (some ⟨B,o+n,none⟩)):=
 .data (.snap _ B (o+n) (λi=>vs (n+i))
  (by grind)
  (by grind))
def ZE(P:Program)(look:zj)(s:TypeId)(c:V)(f:Nat):Option V:=
 match P.underlying s with
 | some (.struct fs)=>match fs[f]? with
  | some fd=>match P.info? fd.type with
   | some i=>if i.size=0 then none else match c with
    | .snap cells=>some (.snap (cells.drop fd.offset))
    | .ptr b r off=>match look b with
     | some _=>some (.ptr b r (off+fd.offset))
     | none=>none
    | _=>none
   | none=>none
  | none=>none
 | _=>none
theorem Af{P:Program}{γ:Gh}{w:World}{bs:zj}{u:zl}{s:TypeId}{c d:V}{f:Nat}(h:ZE P bs s c f=some d)
  {v:Value} (hr:Qz γ w bs u c v):∃x,(Instr.fieldAt s v f).run P w=.ok x w/\Qz γ w bs u d x:=by
 unfold ZE at h;split at h
 ·rename_i fs hu;split at h
  ·rename_i fd hf;split at h
   ·rename_i i hi;split at h
    ·simp at h
    ·rename_i hz;have place:∀B o,(fieldPlace ⟨B,o,none⟩ fd).run P w=.ok ⟨B,o+fd.offset,none⟩ w:=λB o=>by
      simp[fieldPlace,sizeOf,typeInfo,hi,hz,Addr.add_eq]
     split at h
     ·rename_i cells;simp only[zG] at h;subst h;obtain⟨B,o,vs,rfl,h1,h2⟩:=hr.HP;simp_all [zO,OG,Instr.fieldAt,Instr.sureAddr]
     ·rename_i b r off;split at h
      ·rename_i k hk;simp only[zG] at h;subst h;obtain⟨B,o,rfl,hl⟩:=hr.Zh hk;refine⟨_,by simp[Instr.fieldAt,zO hu,hf,Instr.sureAddr,place];rfl,?_⟩;have:=Qz.ptr (γ:=γ) (w:=w) (u:=u) b r (off+fd.offset) B o k hk hl (hr.Za hk);grind
      ·simp at h
     ·simp at h
   ·simp at h
  ·simp at h
 ·simp at h
def N6(P:Program)(look:zj)(t:TypeId)(c x:V):Option V:=
 match x with
 | .int _ i=>match P.underlying t with
  | some (.array len e)=>match P.info? e with
   | some ei=>if 0<=i/\i < len then match c with
     | .snap cells=>some (.snap (cells.drop (i.toNat * ei.size)))
     | .ptr b r off=>match look b with
      | some _=>some (.ptr b r (off+i.toNat * ei.size))
      | none=>none
     | _=>none
    else none
   | none=>none
  | some (.slice e)=>match P.info? e with
   | some ei=>match c with
    | .sl _ size rows=>if size=ei.size then (if 0<=i then (rows[i.toNat]?).map .snap else none) else none
    | .ref b off len=>match look b with
     | some k=>if k.size=ei.size then (if 0<=i/\i < len then some (.ptr b (off+i.toNat) 0) else none) else none
     | none=>none
    | _=>none
   | none=>none
  | _=>none
 | _=>none
theorem Yf{P:Program}{w:World}{t e:TypeId}{len:Nat}{ei:TypeInfo}{k:IntKind}{i:Int}{B o:Nat}(hu:P.underlying t=some (.array len e))(hi:P.info? e=some ei)
  (hb:0<=i/\i < len):(Instr.indexAt t (.pointer (some ⟨B,o,none⟩)) (.int k i)).run P w=.ok (.pointer (some ⟨B,o+i.toNat * ei.size,none⟩)) w:=by
 simp[Instr.indexAt,asIntOf,zO hu,Instr.sureAddr,hb,sizeOf,typeInfo,hi,Addr.add_eq]
theorem Wz{P:Program}{w:World}{t e:TypeId}{len cap:Nat}{ei:TypeInfo}{k:IntKind}{i:Int}{B o:Nat}(hu:P.underlying t=some (.slice e))(hi:P.info? e=some ei)
  (hb:0<=i/\i < len):(Instr.indexAt t (.slice (some ⟨B,o,none⟩) len cap) (.int k i)).run P w=.ok (.pointer (some ⟨B,o+i.toNat * ei.size,none⟩)) w:=by
 simp[Instr.indexAt,asIntOf,zO hu,Instr.sureAddr,hb,sizeOf,typeInfo,hi,Addr.add_eq]
theorem Al{P:Program}{γ:Gh}{w:World}{bs:zj}{u:zl}{t:TypeId}{c x d:V}(h:N6 P bs t c x=some d)
  {v vx:Value} (hr:Qz γ w bs u c v) (hx:Qz γ w bs u x vx):∃y,(Instr.indexAt t v vx).run P w=.ok y w/\Qz γ w bs u d y:=by
 unfold N6 at h;split at h
 ·rename_i kk i;have:=hx.Qf;subst this;split at h
  ·rename_i len e hu;split at h
   ·rename_i ei hi;split at h
    ·rename_i hb;split at h
     ·simp only[zG] at h;subst h;obtain⟨B,o,vs,rfl,h1,h2⟩:=hr.HP;exact⟨_,Yf hu hi hb,OG h1 h2⟩
     ·rename_i b r off;split at h
      ·rename_i k hk;simp only[zG] at h;subst h;obtain⟨B,o,rfl,hl⟩:=hr.Zh hk;refine⟨_,Yf hu hi hb,?_⟩;have:=Qz.ptr (γ:=γ) (w:=w) (u:=u) b r (off+i.toNat * ei.size) B o k hk hl (hr.Za hk);grind
      ·simp at h
     ·simp at h
    ·simp at h
   ·simp at h
  ·rename_i e hu;split at h
   ·rename_i ei hi;split at h
    ·rename_i own size rows;split at h
     ·rename_i hsz;split at h
      ·rename_i h0;obtain⟨r,Zr,rfl⟩:=zJ.1 h;obtain⟨_,-,hr0⟩|⟨B,o,cap,vs,rfl,h1,h2,h3,h4⟩:=hr.HB
       ·grind
       have hlt:i.toNat < rows.length:=(by grind);refine⟨_,Wz hu hi ⟨h0,by omega⟩,?_⟩;subst hsz;have hlen:=h2 r (wd Zr);have hg:∀(j:Nat) (c:V),r[j]?=some c->rows.flatten[i.toNat * ei.size+j]?=some c:=(by grind [H2,List.getElem?_eq_some_iff]);refine .data (.snap r B (o+i.toNat * ei.size) (λj=>vs (i.toNat * ei.size+j)) (λj c hc=>?_) (by grind));grind
      ·simp at h
     ·simp at h
    ·rename_i b off len;split at h
     ·rename_i k hk;split at h
      ·rename_i hsz;split at h
       ·rename_i hb;simp only[zG] at h;subst h;rcases hr.ZO hk with⟨B,o,cap,rfl,hl,h1,h2,h3,hz,_⟩|⟨B,rfl,rfl,_⟩|⟨rfl,rfl,_⟩
        ·refine⟨_,Wz hu hi hb,?_⟩;have:=Qz.ptr (γ:=γ) (w:=w) (u:=u) b (off+i.toNat) 0 B o k hk hl hz;grind
        ·omega
        ·omega
       ·simp at h
      ·simp at h
     ·simp at h
    ·simp at h
   ·simp at h
  ·simp at h
 ·simp at h
def iL(lo:Option V)(h:Nat):Option Nat:=
 match lo with
 | none=>some 0
 | some (.int _ l)=>if 0<=l/\l<=h then some l.toNat else none
 | _=>none
def VU(n:Nat)(hi mx:Option V):Option Nat:=
 match hi,mx with
 | none,none=>some n
 | some (.int _ h),none=>if 0<=h/\h<=n then some h.toNat else none
 | some (.int _ h),some (.int _ m)=>if 0<=h/\h<=m/\m<=n then some h.toNat else none
 | _,_=>none
def IB(γ:Gh)(w:World)(bs:zj)(u:zl):Option V->Option Value->Prop
 | none,none=>True
 | some c,some v=>Qz γ w bs u c v
 | _,_=>False
theorem N0{P:Program}{γ:Gh}{w:World}{bs:zj}{u:zl}{n cap:Nat}(hcap:n<=cap)(sl:Bool){lo hi mx:Option V}{l h:Nat}(hh:VU n hi mx=some h)(hl:iL lo h=some l)
  {vlo vhi vmx:Option Value} (rlo:IB γ w bs u lo vlo) (rhi:IB γ w bs u hi vhi) (rmx:IB γ w bs u mx vmx) :
  l<=h/\h<=n/\∃m,h<=m/\m<=cap/\(Instr.sliceBounds sl n cap vlo vhi vmx).run P w=.ok (l,h,m) w:=by
 have hlo:l<=h/\∀code,(match vlo with|some v=>Instr.sliceBound v h code|none=>pure 0:Sem Nat).run P w=.ok l w:=by
  unfold iL at hl;split at hl
  ·simp only[zG] at hl;subst hl;cases vlo with
   | none=>simp_all
   | some v=>exact rlo.elim
  ·rename_i k x;split at hl<;>simp at hl;rename_i hb;subst hl;cases vlo with
   | none=>exact rlo.elim
   | some v=>
    have:v=.int k x:=Qz.Qf rlo;simp_all [Instr.sliceBound,asIntOf]
  ·simp at hl
 refine⟨hlo.1,?_⟩;unfold VU at hh;split at hh
 ·simp only[zG] at hh;subst hh;cases vhi with
  | some v=>exact rhi.elim
  | none=>
   cases vmx with
   | some v=>exact rmx.elim
   | none=>exact⟨zQ _,cap,hcap,zQ _,by
     simp only[Instr.sliceBounds,zX,wI,zZ];have:=hlo.2 (if (none:Option Value).isSome=true then .slice3C else .sliceB);cases vlo<;>simp_all⟩
 ·rename_i k x;split at hh<;>simp at hh;rename_i hb;subst hh;cases vmx with
  | some v=>exact rmx.elim
  | none=>
   cases vhi with
   | none=>exact rhi.elim
   | some v=>
    have:v=.int k x:=Qz.Qf rhi;subst this;refine⟨by omega,cap,by omega,zQ _,?_⟩;have h1:∀code,(Instr.sliceBound (.int k x) cap code).run P w=.ok x.toNat w:=λcode=>by simp[Instr.sliceBound,asIntOf,hb,show x<=cap by omega]
    simp only[Instr.sliceBounds,zX,wI,zZ,h1];have:=hlo.2 (if (none:Option Value).isSome=true then .slice3C else .sliceB);cases vlo<;>simp_all
 ·rename_i k x k' y;split at hh<;>simp at hh;rename_i hb;subst hh;cases vmx with
  | none=>exact rmx.elim
  | some vm=>
   cases vhi with
   | none=>exact rhi.elim
   | some v=>
    have:v=.int k x:=Qz.Qf rhi;subst this;have:vm=.int k' y:=Qz.Qf rmx;subst this;have e:(y.toNat:Int)=y:=by omega
    refine⟨by omega,y.toNat,by omega,by omega,?_⟩;have h1:∀code,(Instr.sliceBound (.int k' y) cap code).run P w=.ok y.toNat w:=λcode=>by simp[Instr.sliceBound,asIntOf,show 0<=y by omega,show y<=cap by omega]
    have h2:∀code,(Instr.sliceBound (.int k x) y.toNat code).run P w=.ok x.toNat w:=(by grind [run_sliceBound]);simp only[Instr.sliceBounds,zX,zZ,h1,h2];have:=hlo.2 (if (some (Value.int k' y)).isSome=true then .slice3C else .sliceB);cases vlo<;>simp_all
 ·simp at hh
def hiR(n N:Nat)(hi mx:Option V):Option Nat:=
 match hi,mx with
 | none,none=>some n
 | some (.int _ h),none=>if 0<=h/\(h<=n\/h<=N) then some h.toNat else none
 | some (.int _ h),some (.int _ m)=>if 0<=h/\h<=m/\m=N then some h.toNat else none
 | _,_=>none
theorem Qyw{n N h:Nat}{hi:Option V}(e:VU n hi none=some h):hiR n N hi none=some h:=by
 unfold VU at e;unfold hiR;grind
theorem Wj{P:Program}{γ:Gh}{w:World}{bs:zj}{u:zl}{n N cap:Nat}(hcap:n<=cap)(hN:N<=cap){lo hi mx:Option V}{l h:Nat}(hh:hiR n N hi mx=some h)(hl:iL lo h=some l)
  {vlo vhi vmx:Option Value} (rlo:IB γ w bs u lo vlo) (rhi:IB γ w bs u hi vhi) (rmx:IB γ w bs u mx vmx) :
  l<=h/\(h<=n\/h<=N)/\∃m,h<=m/\m<=cap/\N<=m/\(Instr.sliceBounds true n cap vlo vhi vmx).run P w=.ok (l,h,m) w:=by
 unfold hiR at hh;split at hh
 ·obtain⟨a1,a2,m,a3,a4,a5⟩:=N0 (P:=P) hcap true (by unfold VU;exact hh) hl rlo rhi rmx;refine⟨a1,.inl a2,m,a3,a4,?_,a5⟩;cases vhi with
  | some v=>exact rhi.elim
  | none=>
   cases vmx with
   | some v=>exact rmx.elim
   | none=>
    simp only[Instr.sliceBounds,zX,wI,zZ] at a5;cases vlo with
    | none=>simp at a5;omega
    | some v=>
     simp only[zX] at a5;cases hs:(Instr.sliceBound v n (if (none:Option Value).isSome=true then .slice3C else .sliceB)).run P w<;>rw[hs] at a5<;>simp at a5;omega
 ·rename_i k x;split at hh<;>simp at hh;rename_i hb;subst hh;have e:(x.toNat:Int)=x:=by omega
  obtain⟨a1,a2,m,a3,a4,a5⟩:=N0 (P:=P) (n:=cap) (zQ cap) true (hi:=some (.int k x)) (mx:=none) (h:=x.toNat) (by simp only[VU];grind) hl rlo rhi rmx;cases vhi with
  | none=>exact rhi.elim
  | some v=>
   cases vmx with
   | some v=>exact rmx.elim
   | none=>
    refine⟨a1,by omega,cap,by omega,zQ _,hN,?_⟩;have:v=.int k x:=Qz.Qf rhi;subst this;have h1:∀code,(Instr.sliceBound (.int k x) cap code).run P w=.ok x.toNat w:=λcode=>by simp_all [Instr.sliceBound,asIntOf]
    simp only[Instr.sliceBounds,zX,wI,zZ,h1] at a5 ⊢;cases vlo with
    | none=>simp_all
    | some v=>
     simp only[zX] at a5 ⊢;cases hs:(Instr.sliceBound v x.toNat (if (none:Option Value).isSome=true then .slice3C else .sliceB)).run P w<;>rw[hs] at a5<;>simp at a5;simp[a5]
 ·rename_i k x k' y;split at hh<;>simp at hh;rename_i hb;subst hh;obtain⟨a1,a2,m,a3,a4,a5⟩:=N0 (P:=P) (n:=cap) (zQ cap) true (hi:=some (.int k x)) (mx:=some (.int k' y)) (h:=x.toNat) (by simp only[VU];grind) hl rlo rhi rmx;cases vhi with
  | none=>exact rhi.elim
  | some v=>
   cases vmx with
   | none=>exact rmx.elim
   | some vm=>
    have:v=.int k x:=Qz.Qf rhi;subst this;have:vm=.int k' y:=Qz.Qf rmx;subst this;have h1:∀code,(Instr.sliceBound (.int k' y) cap code).run P w=.ok y.toNat w:=λcode=>by simp_all [Instr.sliceBound,asIntOf]
    have h2:∀code,(Instr.sliceBound (.int k x) y.toNat code).run P w=.ok x.toNat w:=(by grind [run_sliceBound]);refine⟨a1,by omega,y.toNat,by omega,by omega,by omega,?_⟩;simp only[Instr.sliceBounds,zX,zZ,h1,h2] at a5 ⊢;cases vlo with
    | none=>simp_all
    | some v=>
     simp only[zX] at a5 ⊢;cases hs:(Instr.sliceBound v x.toNat (if (some (Value.int k' y)).isSome=true then .slice3C else .sliceB)).run P w<;>rw[hs] at a5<;>simp at a5;simp[a5]
 ·simp at hh
def HS(P:Program)(look:zj)(t:TypeId)(c:V)(lo hi mx:Option V):Option V:=
 match P.underlying t with
 | some .string=>match c,mx with
  | .str s,none=>(VU s.size hi none).bind λh=>(iL lo h).map λl=>.str (s.extract l h)
  | _,_=>none
 | some (.slice e)=>match P.info? e with
  | none=>none
  | some ei=>match c with
   | .Qu=>(VU 0 hi mx).bind λh=>(iL lo h).map λ_=>.Qu
   | .sl _ size rows=>if size=ei.size then (VU rows.length hi mx).bind λh=>(iL lo h).map λl=>.sl false size ((rows.take h).drop l) else none
   | .ref b off len=>match look b with
    | some k=>if k.size=ei.size then (hiR len (k.rows.length - off) hi mx).bind λh=>(iL lo h).map λl=>.ref b (off+l) (h - l) else none
    | none=>none
   | _=>none
 | _=>none
theorem JY{s:Nat}(rows:List (List V))(hs:∀r,r∈rows->r.length=s)(l h j:Nat)(c:V)(hc:((rows.take h).drop l).flatten[j]?=some c) :
  rows.flatten[l * s+j]?=some c:=by
 rcases qk s with h0|hpos
 ·grind [List.mem_of_mem_take,List.mem_of_mem_drop,List.length_eq_zero_iff,List.flatten_eq_nil_iff]
 ·have hs':∀r,r∈(rows.take h).drop l->r.length=s:=(by grind)
  have e:j=(j / s) * s+j % s:=by grind [Nat.mul_comm,Nat.div_add_mod]
  have hm:=Nat.mod_lt j hpos;rw[e,H2 _ hs' _ _ hm] at hc;rw[e,show l * s+(j / s * s+j % s)=(l+j / s) * s+j % s by rw[wK];omega,H2 _ hs _ _ hm];grind
theorem So{P:Program}{γ:Gh}{w:World}{bs:zj}{u:zl}{t:TypeId}{c d:V}{lo hi mx:Option V}(h:HS P bs t c lo hi mx=some d)
  {v:Value} {vlo vhi vmx:Option Value} (hr:Qz γ w bs u c v) (rlo:IB γ w bs u lo vlo) (rhi:IB γ w bs u hi vhi) (rmx:IB γ w bs u mx vmx) :
  ∃y,(Instr.sliceAt t v vlo vhi vmx).run P w=.ok y w/\Qz γ w bs u d y:=by
 unfold HS at h;split at h
 ·rename_i hu;split at h
  ·rename_i s;obtain⟨hh,h1,h2⟩:=wq.1 h;obtain⟨ll,h3,rfl⟩:=zJ.1 h2;have:=hr.QE;subst this;cases vmx with
   | some x=>exact rmx.elim
   | none=>
    obtain⟨_,_,m,_,_,hb⟩:=N0 (P:=P) (zQ s.size) false h1 h3 rlo rhi (show IB γ w bs u none none from trivial);exact⟨_,by simp[Instr.sliceAt,Instr.slice,zO hu,hb],.data (.str _)⟩
  ·simp at h
 ·rename_i e hu;split at h
  ·simp at h
  ·rename_i ei hi';split at h
   ·obtain⟨hh,h1,h2⟩:=wq.1 h;obtain⟨ll,h3,rfl⟩:=zJ.1 h2;have:=hr.QI;subst this;obtain⟨a1,a2,m,a3,a4,hb⟩:=N0 (P:=P) (zQ 0) true h1 h3 rlo rhi rmx;obtain rfl:m=0:=by omega
    obtain rfl:hh=0:=by omega
    obtain rfl:ll=0:=by omega
    exact⟨_,by simp[Instr.sliceAt,Instr.slice,zO hu,hb,sizeOf,typeInfo,hi'],.data .Qu⟩
   ·rename_i own size rows;split at h
    ·rename_i hsz;obtain⟨hh,h1,h2⟩:=wq.1 h;obtain⟨ll,h3,rfl⟩:=zJ.1 h2;obtain⟨a,rfl,rfl⟩|⟨B,o,cap,vs,rfl,b1,b2,b3,b4⟩:=hr.HB
     ·obtain⟨a1,a2,m,a3,a4,hb⟩:=N0 (P:=P) (zQ 0) true h1 h3 rlo rhi rmx;obtain rfl:m=0:=by omega
      obtain rfl:hh=0:=by simpa using a2
      obtain rfl:ll=0:=by omega
      cases a with
      | none=>exact⟨_,by simp[Instr.sliceAt,Instr.slice,zO hu,hb,sizeOf,typeInfo,hi'],.data (.Zc false size)⟩
      | some a=>exact⟨_,by simp[Instr.sliceAt,Instr.slice,zO hu,hb,sizeOf,typeInfo,hi'],.data (.Zc false size (some a))⟩
     obtain⟨a1,a2,m,a3,a4,hb⟩:=N0 (P:=P) b1 true h1 h3 rlo rhi rmx;have hlen:((rows.take hh).drop ll).length=hh - ll:=by simp;omega
     have hs':∀r,r∈(rows.take hh).drop ll->r.length=size:=(by grind);by_cases hml:m=ll
     ·refine⟨.slice (some ⟨B,o,none⟩) (hh - ll) (m - ll),by simp_all [zO,Instr.sliceAt,Instr.slice,sizeOf,typeInfo],?_⟩;have hz:(rows.take hh).drop ll=[]:=(by grind);rw[<-hlen];refine .data (.sl false size _ B o (m - ll) vs (by grind) hs' ?_ ?_)<;>(grind)
     ·refine⟨.slice (some ⟨B,o+ll * size,none⟩) (hh - ll) (m - ll),by
       simp_all [zO,Addr.add_eq,Instr.sliceAt,Instr.slice,sizeOf,typeInfo],?_⟩
      rw[<-hlen];refine .data (.sl false size _ B (o+ll * size) (m - ll) (λj=>vs (ll * size+j)) (by grind) hs' (λi c hc=>?_) (by grind [JY]));have:=b3 _ c (JY rows b2 ll hh i c hc);grind
    ·simp at h
   ·rename_i b off len;split at h
    ·rename_i k hk;split at h
     ·rename_i hsz;obtain⟨hh,h1,h2⟩:=wq.1 h;obtain⟨ll,h3,rfl⟩:=zJ.1 h2;rcases hr.ZO hk with⟨B,o,cap,rfl,hl,c1,c2,c3,hz,hcp⟩|⟨B,rfl,rfl,c1,hz⟩|⟨rfl,rfl,c1,hz⟩
      ·obtain⟨a1,a2,m,a3,a4,a5,hb⟩:=Wj (P:=P) c2 (by grind) h1 h3 rlo rhi rmx;by_cases hml:m=ll
       ·refine⟨.slice (some ⟨B,o+off * k.size,none⟩) (hh - ll) (m - ll),by simp_all [zO,Instr.sliceAt,Instr.slice,sizeOf,typeInfo],?_⟩;have e1:hh - ll=0:=by omega
        have e2:m - ll=0:=by omega
        rw[e1,e2];exact .ZC b (off+ll) _ k hk hz (by omega)
       ·refine⟨.slice (some ⟨B,o+off * k.size+ll * ei.size,none⟩) (hh - ll) (m - ll),by
         simp_all [zO,Addr.add_eq,Instr.sliceAt,Instr.slice,sizeOf,typeInfo],?_⟩
        have hroom:JV w B (o+(off+ll+(m - ll)) * k.size):=by
         obtain⟨cs,e',fz,r1,r2⟩:=c3;refine⟨cs,e',fz,r1,Nat.le_trans ?_ r2⟩;have:(off+ll+(m - ll)) * k.size<=(off+cap) * k.size:=wT _ (by omega);omega
        have:=Qz.ref (γ:=γ) (w:=w) (u:=u) b (off+ll) (hh - ll) B o (m - ll) k hk hl (by omega) (by omega) hroom hz (by omega);grind
      ·obtain⟨a1,a2,m,a3,a4,a5,hb⟩:=Wj (P:=P) (zQ 0) (by grind) h1 h3 rlo rhi rmx;obtain rfl:m=0:=by omega
       obtain rfl:hh=0:=by omega
       obtain rfl:ll=0:=by omega
       exact⟨_,by simp[Instr.sliceAt,Instr.slice,zO hu,hb,sizeOf,typeInfo,hi'],.ZC b (off+0) B k hk hz (by omega)⟩
      ·obtain⟨a1,a2,m,a3,a4,a5,hb⟩:=Wj (P:=P) (zQ 0) (by grind) h1 h3 rlo rhi rmx;obtain rfl:m=0:=by omega
       obtain rfl:hh=0:=by omega
       obtain rfl:ll=0:=by omega
       exact⟨_,by simp[Instr.sliceAt,Instr.slice,zO hu,hb,sizeOf,typeInfo,hi'],.ZY b (off+0) k hk hz (by omega)⟩
     ·simp at h
    ·simp at h
   ·simp at h
 ·simp at h
def VZ(P:Program)(look:zj)(t:TypeId)(c:V):Option V:=
 match P.underlying t,c with
 | some .string,.str s=>some (.int .i64 s.size)
 | some (.slice _),.Qu=>some (.int .i64 0)
 | some (.slice _),.sl _ _ rows=>some (.int .i64 rows.length)
 | some (.slice _),.ref b _ len=>match look b with|some _=>some (.int .i64 len)|none=>none
 | some (.array n _),_=>some (.int .i64 n)
 | _,_=>none
theorem uJ{P:Program}{γ:Gh}{w:World}{bs:zj}{u:zl}{t ty:TypeId}{ts:Array TypeId}{c d:V}(h:VZ P bs t c=some d)(ht:ts[0]?=some t)
  {v:Value} {vs:Array Value} (hr:Qz γ w bs u c v) (hv:vs[0]?=some v):∃y,(Builtin.len_ ts ty vs).run P w=.ok y w/\Qz γ w bs u d y:=by
 unfold VZ at h;split at h
 ·rename_i s hu;simp only[zG] at h;subst h;have:=hr.QE;subst this;exact⟨_,by simp[Builtin.len_,ht,hv,zO hu,goInt],.data (.int _ _)⟩
 ·rename_i e hu;simp only[zG] at h;subst h;have:=hr.QI;subst this;exact⟨_,by simp[Builtin.len_,ht,hv,zO hu,goInt],.data (.int _ _)⟩
 ·rename_i e own size rows hu;simp only[zG] at h;subst h;obtain⟨a,rfl,rfl⟩|⟨B,o,cap,xs,rfl,-⟩:=hr.HB
  ·exact⟨_,by simp[Builtin.len_,ht,hv,zO hu,goInt],.data (.int _ _)⟩
  exact⟨_,by simp[Builtin.len_,ht,hv,zO hu,goInt],.data (.int _ _)⟩
 ·rename_i e b off len hu;split at h
  ·rename_i k hk;simp only[zG] at h;subst h;rcases hr.ZO hk with⟨B,o,cap,rfl,-⟩|⟨B,rfl,rfl,-⟩|⟨rfl,rfl,-⟩
   ·exact⟨_,by simp[Builtin.len_,ht,hv,zO hu,goInt],.data (.int _ _)⟩
   ·exact⟨_,by simp[Builtin.len_,ht,hv,zO hu,goInt],.data (.int _ _)⟩
   ·exact⟨_,by simp[Builtin.len_,ht,hv,zO hu,goInt],.data (.int _ _)⟩
  ·simp at h
 ·rename_i n e hu;simp only[zG] at h;subst h;exact⟨_,by simp[Builtin.len_,ht,hv,zO hu,goInt],.data (.int _ _)⟩
 ·simp at h
def Gk(P:Program)(t:TypeId)(c x:V):Option V:=
 match P.underlying t,c,x with
 | some .string,.str s,.int _ i=>if 0<=i/\i < s.size then some (.int .u8 (s.data.getD i.toNat 0).toNat) else none
 | some (.array len e),.agg cells,.int _ i=>match P.info? e with
  | some ei=>if 0<=i/\i < len then Ca P e cells (i.toNat * ei.size) else none
  | none=>none
 | _,_,_=>none
theorem Sf{P:Program}{γ:Gh}{w:World}{bs:zj}{u:zl}{t:TypeId}{c x d:V}(h:Gk P t c x=some d)
  {v vx:Value} (hr:Qz γ w bs u c v) (hx:Qz γ w bs u x vx):∃y,(Instr.index t v vx).run P w=.ok y w/\Qz γ w bs u d y:=by
 unfold Gk at h;split at h
 ·rename_i s k i hu;split at h<;>simp at h;rename_i hb;subst h;have:=hr.QE;subst this;have:=hx.Qf;subst this;have hlt:i.toNat < s.data.size:=by simp_all
  have e:s[i.toNat]?=some (s.data.getD i.toNat 0):=by
   have:s.data.getD i.toNat 0=s.data[i.toNat]:=by simp_all
   rw[this];exact getElem?_pos s i.toNat hlt
  exact⟨_,by simp[Instr.index,asIntOf,zO hu,hb.1,e],.data (.int _ _)⟩
 ·rename_i len e cells k i hu;split at h
  ·rename_i ei hi;split at h
   ·rename_i hb;have:=hx.Qf;subst this;obtain⟨vs,rfl,hl,hc⟩:=hr.QD;obtain⟨y,hy,hd⟩:=OS h hl hc;simp_all [zO,Instr.index,asIntOf,sizeOf,typeInfo]
   ·simp at h
  ·simp at h
 ·simp at h
def U4(γ:Gh)(w:World)(bs:zj)(u:zl)(cells:List V)(vs:Array Value):Prop:=
 vs.size=cells.length/\∀(i:Nat) (c:V) (v:Value),cells[i]?=some c->vs[i]?=some v->Qz γ w bs u c v
theorem U4.agg{γ:Gh}{w:World}{bs:zj}{u:zl}{cells:List V}{vs:Array Value}(h:U4 γ w bs u cells vs):Qz γ w bs u (.agg cells) (.agg vs):=by
 have:=Qz.agg (γ:=γ) (w:=w) (bs:=bs) (u:=u) cells vs.toList (by simpa using h.1) (λi c v hc hv=>h.2 i c v hc (by simpa using hv));omega
theorem Qz.xB{γ:Gh}{w:World}{bs:zj}{u:zl}{c:V}{v:Value}(h:Qz γ w bs u c v){cs:List V}(hc:c.cellsOf=some cs):U4 γ w bs u cs v.cells:=by
 obtain⟨vs,h1,h2,h3⟩:=h.cells hc;rw[h1];exact⟨by simpa using h2,(by grind)⟩
def LD(P:Program)(t:TypeId):Option (List V):=
 match P.info? t with
 | some i=>match i.zero with
  | some z=>z.cells.toList.mapM KJ
  | none=>none
 | none=>none
def Fj(l:Option (List V)):Option (List V):=match l with
 | some cs=>if cs.length < J0 then some cs else none
 | none=>none
theorem O7{l:Option (List V)}{cs:List V}(h:Fj l=some cs):l=some cs/\cs.length < J0:=by
 unfold Fj at h;grind
def zeroV(P:Program)(t:TypeId):Option (List V):=Fj (LD P t)
theorem Mr{γ:Gh}{w:World}{bs:zj}{u:zl}:∀{l:List Value} {cs:List V},l.mapM KJ=some cs->U4 γ w bs u cs l.toArray
 | [],cs,h=>by simp at h;subst h;exact⟨rfl,(by grind)⟩
 | x :: l,cs,h=>by
  simp only[List.mapM_cons,Option.bind_eq_bind,wq,Option.pure_def,zG] at h;obtain⟨c,h1,cs',h2,rfl⟩:=h;have ih:=Mr (γ:=γ) (w:=w) (bs:=bs) (u:=u) h2;refine⟨by have:=ih.1;grind,λi d v hd hv=>?_⟩;cases i with
  | zero=>simp at hd hv;subst hd;subst hv;exact .data (Dy h1)
  | succ i=>exact ih.2 i d v (by simpa using hd) (by simpa using hv)
theorem Uh{P:Program}{γ:Gh}{w:World}{bs:zj}{u:zl}{t:TypeId}{cs:List V}(h:zeroV P t=some cs) :
  ∃z,(zeroValue t).run P w=.ok z w/\U4 γ w bs u cs z.cells:=by
 replace h:=(O7 h).1;unfold LD at h;split at h
 ·rename_i i hi;split at h
  ·rename_i z hz;refine⟨z,by simp[zeroValue,typeInfo,hi,hz],?_⟩;have:=Mr (γ:=γ) (w:=w) (bs:=bs) (u:=u) h;omega
  ·simp at h
 ·simp at h
def N9(cells:List V)(off:Nat)(cs:List V):List V:=cells.take off++cs++cells.drop (off+cs.length)
theorem Ln(off:Nat):∀(l:List Value) (j0:Nat) (cs:Array Value),off+j0+l.length<=cs.size->
  ((l.zipIdx j0).foldl (λcs x=>cs.setIfInBounds (off+x.2) x.1) cs).size=cs.size/\
  ∀i:Nat,((l.zipIdx j0).foldl (λcs x=>cs.setIfInBounds (off+x.2) x.1) cs)[i]?=if off+j0<=i/\i < off+j0+l.length then l[i - (off+j0)]? else cs[i]?
 | [],j0,cs,_=>⟨rfl,λi=>by rw[if_neg (by simp)];rfl⟩
 | x :: l,j0,cs,h=>by
  simp only[wV] at h;obtain⟨h1,h2⟩:=Ln off l (j0+1) (cs.setIfInBounds (off+j0) x) (by simp;omega);simp only[List.zipIdx_cons,List.foldl_cons];grind
theorem PO{γ:Gh}{w:World}{bs:zj}{u:zl}{cells cs:List V}{vs xs:Array Value}(h:U4 γ w bs u cells vs)(hx:U4 γ w bs u cs xs){off:Nat}(ho:off+cs.length<=cells.length) :
  U4 γ w bs u (N9 cells off cs) (xs.zipIdx.foldl (λa x=>a.setIfInBounds (off+x.2) x.1) vs):=by
 have e:xs.zipIdx.foldl (λa x=>a.setIfInBounds (off+x.2) x.1) vs=(xs.toList.zipIdx 0).foldl (λa x=>a.setIfInBounds (off+x.2) x.1) vs:=by
  rw[<-Array.foldl_toList];simp
 rw[e];have hxl:xs.toList.length=cs.length:=by simpa using hx.1
 obtain⟨h1,h2⟩:=Ln off xs.toList 0 vs (by rw[hxl,h.1];omega);refine⟨by rw[h1,h.1];simp[N9];omega,λi c v hc hv=>?_⟩;rw[h2] at hv;simp only[Nat.add_zero,hxl] at hv;unfold N9 at hc;have lt:(cells.take off).length=off:=by simp;omega
 by_cases h3:i < off
 ·rw[if_neg (by omega)] at hv;rw[List.append_assoc,wD (by omega),List.getElem?_take,if_pos h3] at hc;exact h.2 i c v hc hv
 ·rw[List.append_assoc,wJ (by omega),lt] at hc;by_cases h4:i < off+cs.length
  ·rw[if_pos (by omega)] at hv;rw[wD (by omega)] at hc;exact hx.2 _ c v hc (by simpa using hv)
  ·rw[if_neg (by omega)] at hv;rw[wJ (by omega),List.getElem?_drop] at hc;rw[show off+cs.length+(i - off - cs.length)=i by omega] at hc;exact h.2 i c v hc hv
def IQ(place:Nat->Option (Nat×Nat))(cells:List V):List (Nat×V)->Option (List V)
 | []=>some cells
 | (i,c) :: rest=>match place i,c.cellsOf with
  | some (off,size),some cs=>if cs.length=size/\off+cs.length<=cells.length then IQ place (N9 cells off cs) rest else none
  | _,_=>none
theorem Ed{γ:Gh}{w:World}{bs:zj}{u:zl}(place:Nat->Option (Nat×Nat)) :
  ∀(parts:List (Nat×V)) (xs:List (Nat×Value)) (cells out:List V) (vs:Array Value),IQ place cells parts=some out->U4 γ w bs u cells vs->
   xs.length=parts.length->(∀(j:Nat) (p:Nat×V) (x:Nat×Value),parts[j]?=some p->xs[j]?=some x->p.1=x.1/\Qz γ w bs u p.2 x.2)->
   ∃r,Instr.fill place vs xs=some r/\U4 γ w bs u out r
 | [],[],cells,out,vs,h,hc,_,_=>by simp[IQ] at h;subst h;exact⟨vs,rfl,hc⟩
 | [],x :: xs,_,_,_,_,_,hl,_=>by simp at hl
 | p :: parts,[],_,_,_,_,_,hl,_=>by simp at hl
 | (i,c) :: parts,(i',x) :: xs,cells,out,vs,h,hc,hl,hp=>by
  obtain⟨e,hr⟩:=hp 0 _ _ rfl rfl;simp only at e hr;subst e;unfold IQ at h;split at h
  ·rename_i off size cs hpl hcs;split at h
   ·rename_i hb;have hx:=hr.xB hcs;have hc':=PO hc hx hb.2;obtain⟨r,h1,h2⟩:=Ed place parts xs _ out _ h hc' (by simpa using hl) (λj p x hj hk=>hp (j+1) p x (by simpa using hj) (by simpa using hk));refine⟨r,?_,h2⟩;unfold Instr.fill;rw[hpl];have hxs:x.cells.size=size:=by rw[hx.1,hb.1]
    have hvs:¬(off+x.cells.size > vs.size):=by rw[hx.1,hc.1];omega
    grind
   ·simp at h
  ·simp at h
def Cd(P:Program)(fs:Array Field):Option (List (Nat×Nat)):=fs.toList.mapM λf=>(P.info? f.type).map λi=>(f.offset,i.size)
theorem Hr{P:Program}{w:World}:∀(l:List Field) (pl:List (Nat×Nat)),(l.mapM λf=>(P.info? f.type).map λi=>(f.offset,i.size))=some pl->
  (l.mapM (λf : Field => do pure (f.offset, <- sizeOf f.type)) : Sem (List (Nat × Nat))).run P w = .ok pl w
 | [],pl,h=>by simp_all
 | f :: l,pl,h=>by
  simp only[List.mapM_cons,Option.bind_eq_bind,wq,Option.pure_def,zG,zJ] at h;obtain⟨p,⟨i,hi,rfl⟩,pl',h2,rfl⟩:=h;have ih:=Hr (w:=w) l pl' h2;simp_all [List.mapM_cons,zX,zZ,pure,sizeOf,typeInfo]
theorem run_places{P:Program}{w:World}{fs:Array Field}{pl:List (Nat×Nat)}(h:Cd P fs=some pl) :
  (fs.mapM (λf => do pure (f.offset, <- sizeOf f.type)) : Sem (Array (Nat × Nat))).run P w = .ok pl.toArray w := by
 rw[Array.mapM_eq_mapM_toList,Sem.run_map,Hr _ pl h,zZ]
def BJ(P:Program)(t:TypeId)(parts:List (Nat×V)):Option V:=
 match zeroV P t with
 | none=>none
 | some z=>match P.underlying t with
  | some (.struct fs)=>match Cd P fs with
   | some pl=>(IQ (pl[·]?) z parts).map .agg
   | none=>none
  | some (.array _ e)=>match P.info? e with
   | some ei=>(IQ (λi=>some (i * ei.size,ei.size)) z parts).map .agg
   | none=>none
  | _=>none
theorem Sr{P:Program}{γ:Gh}{w:World}{bs:zj}{u:zl}{t:TypeId}{parts:List (Nat×V)}{c:V}(h:BJ P t parts=some c){xs:Array (Nat×Value)}
  (hl:xs.size=parts.length) (hp:∀(j:Nat) (p:Nat×V) (x:Nat×Value),parts[j]?=some p->xs[j]?=some x->p.1=x.1/\Qz γ w bs u p.2 x.2) :
  ∃v,(Instr.build t xs).run P w=.ok v w/\Qz γ w bs u c v:=by
 unfold BJ at h;split at h
 ·simp at h
 ·rename_i z hz;obtain⟨zv,hz1,hz2⟩:=Uh (γ:=γ) (w:=w) (bs:=bs) (u:=u) hz;have hp':∀(j:Nat) (p:Nat×V) (x:Nat×Value),parts[j]?=some p->xs.toList[j]?=some x->p.1=x.1/\Qz γ w bs u p.2 x.2:=(by grind);split at h
  ·rename_i fs hu;split at h
   ·rename_i pl hpl;obtain⟨out,ho,rfl⟩:=zJ.1 h;obtain⟨r,h1,h2⟩:=Ed (γ:=γ) (w:=w) (bs:=bs) (u:=u) _ parts xs.toList z out zv.cells ho hz2 (by simpa using hl) hp';have h1':Instr.fill (λi=>pl.toArray[i]?) zv.cells xs.toList=some r:=by simpa using h1
    refine⟨.agg r,?_,h2.agg⟩;have e:=run_places (w:=w) hpl;simp only[Instr.build,zX,hz1,zZ,zO hu,e,h1'];rfl
   ·simp at h
  ·rename_i n e hu;split at h
   ·rename_i ei hi;obtain⟨out,ho,rfl⟩:=zJ.1 h;obtain⟨r,h1,h2⟩:=Ed (γ:=γ) (w:=w) (bs:=bs) (u:=u) _ parts xs.toList z out zv.cells ho hz2 (by simpa using hl) hp';refine⟨.agg r,?_,h2.agg⟩;simp only[Instr.build,zX,hz1,zZ,zO hu,sizeOf,typeInfo,hi,run_program,wI,h1]
   ·simp at h
  ·simp at h
def rO(e:Operand->Option V)(xs:List Operand):Option (List V):=xs.mapM e
theorem Kd{G:zi}{γ:Gh}{st:St}{a:Act}{w:World}(h:Qs G γ st a.tmps w):∀{xs:List Operand} {cs:List V},rO (st.ev G) xs=some cs->
  U4 γ w st.b st.u cs (xs.map a.eval).toArray
 | [],cs,hc=>by simp[rO] at hc;subst hc;exact⟨rfl,(by grind)⟩
 | x :: xs,cs,hc=>by
  simp only[rO,List.mapM_cons,Option.bind_eq_bind,wq,Option.pure_def,zG] at hc;obtain⟨c,h1,cs',h2,rfl⟩:=hc;have ih:=Kd h (xs:=xs) (cs:=cs') h2;refine⟨by have:=ih.1;grind,λi d v hd hv=>?_⟩;cases i with
  | zero=>simp at hd hv;subst hd;subst hv;exact h.ev h1
  | succ i=>exact ih.2 i d v (by simpa using hd) (by simpa using hv)
theorem U4.Qqx{γ:Gh}{w:World}{bs:zj}{u:zl}{f:FuncId}{first captured:List V}{fs cs:Array Value}(h1:U4 γ w bs u first fs)(h2:U4 γ w bs u captured cs) :
  Qz γ w bs u (.fn f first captured) (.func (.func f) fs cs):=by
 have:=Qz.fn (γ:=γ) (w:=w) (bs:=bs) (u:=u) f first captured fs.toList cs.toList (by simpa using h1.1) (by simpa using h2.1)
  (λi c v hc hv=>h1.2 i c v hc (by simpa using hv)) (λi c v hc hv=>h2.2 i c v hc (by simpa using hv))
 omega
def rL(e:Operand->Option V)(x:Option Operand):Option (Option V):=
 match x with
 | none=>some none
 | some x=>(e x).map some
theorem Ga{G:zi}{γ:Gh}{st:St}{a:Act}{w:World}(h:Qs G γ st a.tmps w){x:Option Operand}{c:Option V}(hc:rL (st.ev G) x=some c) :
  IB γ w st.b st.u c (x.map a.eval):=by
 cases x with
 | none=>simp[rL] at hc;subst hc;trivial
 | some x=>
  simp only[rL,zJ] at hc;obtain⟨d,h1,rfl⟩:=hc;exact h.ev h1
def Hj(e:Operand->Option V)(ps:List (Nat×Operand)):Option (List (Nat×V)):=ps.mapM λp=>(e p.2).map λc=>(p.1,c)
theorem JW{G:zi}{γ:Gh}{st:St}{a:Act}{w:World}(h:Qs G γ st a.tmps w):∀{xs:List (Nat×Operand)} {cs:List (Nat×V)},Hj (st.ev G) xs=some cs->
  xs.length=cs.length/\∀(j:Nat) (p:Nat×V) (x:Nat×Value),cs[j]?=some p->(xs.map λy=>(y.1,a.eval y.2))[j]?=some x->p.1=x.1/\Qz γ w st.b st.u p.2 x.2
 | [],cs,hc=>by simp[Hj] at hc;subst hc;exact⟨rfl,λj p x hp=>by simp at hp⟩
 | x :: xs,cs,hc=>by
  simp only[Hj,List.mapM_cons,Option.bind_eq_bind,wq,Option.pure_def,zG,zJ] at hc;obtain⟨p,⟨c,h1,rfl⟩,cs',h2,rfl⟩:=hc;obtain⟨l,ih⟩:=JW h (xs:=xs) (cs:=cs') h2;refine⟨by simp[l],λj p y hp hy=>?_⟩;cases j with
  | zero=>simp at hp hy;subst hp;subst hy;exact⟨rfl,h.ev h1⟩
  | succ j=>grind
def nJ(isMax:Bool):V->List V->Option V
 | c,[]=>some c
 | .int k x,.int k' y :: rest=>if k=k' then nJ isMax (.int k (if isMax then (if y > x then y else x) else (if y < x then y else x))) rest else none
 | _,_=>none
theorem NW{P:Program}{γ:Gh}{w:World}{bs:zj}{u:zl}:∀(cs:List V) (vs:List Value) (c d:V) (v:Value),nJ true c cs=some d->Qz γ w bs u c v->vs.length=cs.length->
  (∀(i:Nat) (c:V) (v:Value),cs[i]?=some c->vs[i]?=some v->Qz γ w bs u c v)->∃y,(vs.foldlM Builtin.max2 v).run P w=.ok y w/\Qz γ w bs u d y
 | [],[],c,d,v,h,hr,_,_=>by simp[nJ] at h;subst h;exact⟨v,rfl,hr⟩
 | [],_ :: _,_,_,_,_,_,hl,_=>by simp at hl
 | _ :: _,[],_,_,_,_,_,hl,_=>by simp at hl
 | e :: cs,x :: vs,c,d,v,h,hr,hl,hp=>by
  have h0:=hp 0 e x rfl rfl;cases c<;>cases e<;>simp only[nJ] at h<;>try (simp at h;done)
  split at h
  ·rename_i hk;subst hk;have:=hr.Qf;subst this;have:=h0.Qf;subst this;simp only[if_true] at h;obtain⟨y,h1,h2⟩:=NW (P:=P) cs vs _ d _ h (.data (.int _ _)) (by simpa using hl) (λi c v hc hv=>hp (i+1) c v (by simpa using hc) (by simpa using hv));grind [Builtin.max2]
  ·simp at h
theorem NH{P:Program}{γ:Gh}{w:World}{bs:zj}{u:zl}:∀(cs:List V) (vs:List Value) (c d:V) (v:Value),nJ false c cs=some d->Qz γ w bs u c v->vs.length=cs.length->
  (∀(i:Nat) (c:V) (v:Value),cs[i]?=some c->vs[i]?=some v->Qz γ w bs u c v)->∃y,(vs.foldlM Builtin.min2 v).run P w=.ok y w/\Qz γ w bs u d y
 | [],[],c,d,v,h,hr,_,_=>by simp[nJ] at h;subst h;exact⟨v,rfl,hr⟩
 | [],_ :: _,_,_,_,_,_,hl,_=>by simp at hl
 | _ :: _,[],_,_,_,_,_,hl,_=>by simp at hl
 | e :: cs,x :: vs,c,d,v,h,hr,hl,hp=>by
  have h0:=hp 0 e x rfl rfl;cases c<;>cases e<;>simp only[nJ] at h<;>try (simp at h;done)
  split at h
  ·rename_i hk;subst hk;have:=hr.Qf;subst this;have:=h0.Qf;subst this;simp only[Bool.false_eq_true,if_false] at h;obtain⟨y,h1,h2⟩:=NH (P:=P) cs vs _ d _ h (.data (.int _ _)) (by simpa using hl) (λi c v hc hv=>hp (i+1) c v (by simpa using hc) (by simpa using hv));grind [Builtin.min2]
  ·simp at h
def IG(P:Program)(look:zj)(b:Builtin)(ts:Array TypeId)(cs:List V):Option V:=
 match b,ts[0]?,cs with
 | .len,some t,[c]=>VZ P look t c
 | .max,_,c :: rest=>nJ true c rest
 | .min,_,c :: rest=>nJ false c rest
 | _,_,_=>none
def Qqk:List V->Option Int
 | [.int .u8 n]=>some n
 | _=>none
def Ar:List (List V)->Option (List Int)
 | []=>some []
 | r :: rs=>match Qqk r,Ar rs with
  | some n,some ns=>some (n :: ns)
  | _,_=>none
theorem OT:∀{rows:List (List V)} {ns:List Int},Ar rows=some ns->ns.length=rows.length/\∀(i:Nat) (n:Int),ns[i]?=some n->rows[i]?=some [.int .u8 n]
 | [],ns,h=>by simp[Ar] at h;subst h;exact⟨rfl,λi n h=>by simp at h⟩
 | r :: rs,ns,h=>by
  simp only[Ar] at h;split at h
  ·rename_i n ns' h1 h2;simp only[zG] at h;subst h;obtain⟨k1,k2⟩:=OT h2;have hr:r=[.int .u8 n]:=by
    unfold Qqk at h1;grind
   grind
  ·simp at h
def DS(P:Program)(look:zj)(s d:TypeId)(c:V):Option V:=
 match c with
 | .ref b off len=>match P.underlying s,P.underlying d with
  | some (.slice e),some .string=>match P.underlying e with
   | some (.int .u8)=>match look b with
    | some k=>if k.size=1/\off+len<=k.rows.length then (Ar ((k.rows.drop off).take len)).map λns=>.str (strOfNums ns) else none
    | none=>none
   | _=>none
  | _,_=>none
 | c=>xX P s d c
theorem OB{P:Program}{G:zi}{γ:Gh}{st:St}{tmps:Array Value}{w:World}(hs:Qs G γ st tmps w){s d:TypeId}{x c:V}(h:DS P st.b s d x=some c){vx:Value}(hx:Qz γ w st.b st.u x vx) :
  ∃v,(convert s d vx).run P w=.ok v w/\Qz γ w st.b st.u c v:=by
 unfold DS at h;split at h
 ·rename_i b off len;split at h
  ·rename_i e h1 h2;split at h
   ·rename_i h3;split at h
    ·rename_i k hk;split at h
     ·rename_i hz;obtain⟨ns,hn,rfl⟩:=zJ.1 h;obtain⟨hl,hg⟩:=OT hn;have hl':ns.length=len:=by grind
      have empty:len=0->strOfNums ns=zg:=λe0=>by
       have:ns=[]:=(by grind);subst this;rfl
      cases hx with
      | data hd=>cases hd
      | ref _ _ _ B o cap k' a1 a2 a3 a4 a5 _ _=>
       rw[hk] at a1;simp only[zG] at a1;subst a1;refine⟨_,run_convert_bytes_arg w s e h1 h3 B (o+off * k.size) len cap ns hl' (λi hi=>?_) d h2,.data (.str _)⟩;have hi':i < ns.length:=by omega
       have hr:=hg i ns[i] (wA hi');rw[List.getElem?_take_of_lt hi,List.getElem?_drop] at hr;obtain⟨v,v1,v2⟩:=((hs.b b k hk).row a2 hr (by grind)) 0 _ rfl;have:=v2.Qf;subst this;unfold cellAt at v1;grind
      | ZC _ _ B k' a1 _ a2=>
       have e0:ns=[]:=(by grind);subst e0;refine⟨.string (strOfNums []),?_,.data (.str _)⟩;have hz:(loadCells B 0).run P w=.ok (([]:List Int).map (Value.int .u8)).toArray w:=rfl;simp_all [run_convert_bytes_string,run_bytesToString]
      | ZY _ _ k' a1 _ a2=>
       refine⟨_,run_convert_bytes_nil w s e h1 h3 0 0 d h2,?_⟩;rw[empty rfl];exact .data (.str _)
      | Qp _ _ _ _ a1 a2 a3=>grind
     ·simp at h
    ·simp at h
   ·simp at h
  ·simp at h
 ·exact TC h hx
def Jp(P:Program)(e:Operand->Option V)(look:zj)(op:Op):Option V:=
 match op with
 | .move x=>e x
 | .assign x=>e x
 | .pick c a b=>match e c with
  | some (.bool true)=>e a
  | some (.bool false)=>e b
  | _=>none
 | .nilCheck x=>match e x with
  | some (.snap cs)=>some (.snap cs)
  | some (.ptr b i off)=>match look b with|some _=>some (.ptr b i off)|none=>none
  | some (.fn f x y)=>some (.fn f x y)
  | _=>none
 | .binOp op t x y _=>match e x,e y with
  | some cx,some cy=>RT P look op t cx cy
  | _,_=>none
 | .unOp op _ x=>(e x).bind (unV op)
 | .convert s d x=>(e x).bind (DS P look s d)
 | .makeFunc (.func f) first captured=>match rO e first.toList,rO e captured.toList with
  | some a,some b=>some (.fn f a b)
  | _,_=>none
 | .load t x=>(e x).bind (Ie P look t)
 | .fieldAddr s x f=>(e x).bind λc=>ZE P look s c f
 | .field t x f=>(e x).bind λc=>Be P t c f
 | .indexAddr t x i=>match e x,e i with
  | some c,some d=>N6 P look t c d
  | _,_=>none
 | .index t x i=>match e x,e i with
  | some c,some d=>Gk P t c d
  | _,_=>none
 | .slice t x lo hi mx=>match e x,rL e lo,rL e hi,rL e mx with
  | some c,some l,some h,some m=>HS P look t c l h m
  | _,_,_,_=>none
 | .extract x i=>match e x with
  | some (.Qc cs)=>cs[i]?
  | _=>none
 | .build t ps=>(Hj e ps.toList).bind (BJ P t)
 | .call { callee:=.builtin b,args,argTypes }=>(rO e args.toList).bind (IG P look b argTypes)
 | _=>none
theorem EG{P:Program}{G:zi}{γ:Gh}{st:St}{a:Act}{w:World}(hs:Qs G γ st a.tmps w){o:Oper}{c:V}(h:Jp P (st.ev G) st.b o.op=some c) :
  ∃v,(execOp a.eval o).run P w=.ok (.value v) w/\Qz γ w st.b st.u c v:=by
 have lift : ∀ {s : Sem Value} {c : V}, (execOp a.eval o = do pure (.value (<- s))) -> (∃ v, s.run P w = .ok v w /\ Qz γ w st.b st.u c v) -> ∃ v, (execOp a.eval o).run P w = .ok (.value v) w /\ Qz γ w st.b st.u c v := by
  simp_all
 unfold Jp at h;split at h
 case h_1 x ho=>exact⟨a.eval x,by simp[execOp,ho],hs.ev h⟩
 case h_2 x ho=>exact⟨a.eval x,by simp[execOp,ho],hs.ev h⟩
 case h_3 x y z ho=>
  split at h
  ·rename_i hc;have:=(hs.ev hc).QF;exact⟨a.eval y,by simp[execOp,ho,this,asBool],hs.ev h⟩
  ·rename_i hc;have:=(hs.ev hc).QF;exact⟨a.eval z,by simp[execOp,ho,this,asBool],hs.ev h⟩
  ·simp at h
 case h_4 x ho=>
  split at h
  ·rename_i cs hc;simp only[zG] at h;subst h;have hr:=hs.ev hc;obtain⟨B,o',vs,hv,-⟩:=hr.HP;simp_all [execOp]
  ·rename_i b i off hc;split at h
   ·rename_i k hk;simp only[zG] at h;subst h;have hr:=hs.ev hc;obtain⟨B,o',hv,-⟩:=hr.Zh hk;simp_all [execOp]
   ·simp at h
  ·rename_i f x' y' hc;simp only[zG] at h;subst h;have hr:=hs.ev hc;obtain⟨fs,cs,hv,-⟩:=hr.Hq;simp_all [execOp]
  ·simp at h
 case h_5 op t x y _ ho=>
  split at h
  ·rename_i cx cy h1 h2;exact lift (s := do eqGuard op t x y (a.eval x) (a.eval y); binOp op t (a.eval x) (a.eval y)) (by simp only [execOp, ho]) (uW h (hs.ev h1) (hs.ev h2) x y)
  ·simp at h
 case h_6 op _ x ho=>
  obtain⟨d,h1,h2⟩:=wq.1 h;exact lift (s:=Op.unary op (a.eval x)) (by simp only[execOp,ho]) (lK h2 (hs.ev h1))
 case h_7 s d x ho=>
  obtain⟨d',h1,h2⟩:=wq.1 h;exact lift (s:=convert s d (a.eval x)) (by simp only[execOp,ho]) (OB hs h2 (hs.ev h1))
 case h_8 f first captured ho=>
  split at h
  ·rename_i fa fb h1 h2;simp only[zG] at h;subst h;refine⟨.func (.func f) (first.map a.eval) (captured.map a.eval),by simp[execOp,ho,Instr.makeFunc],?_⟩;have e1:=Kd hs h1;have e2:=Kd hs h2;have k1:(first.toList.map a.eval).toArray=first.map a.eval:=(by grind)
   have k2:(captured.toList.map a.eval).toArray=captured.map a.eval:=(by grind);grind [U4.Qqx]
  ·simp at h
 case h_9 t x ho=>
  obtain⟨d,h1,h2⟩:=wq.1 h;exact lift (s:=Instr.loadAt t (a.eval x)) (by simp only[execOp,ho]) (TB hs h2 (hs.ev h1))
 case h_10 s x f ho=>
  obtain⟨d,h1,h2⟩:=wq.1 h;exact lift (s:=Instr.fieldAt s (a.eval x) f) (by simp only[execOp,ho]) (Af h2 (hs.ev h1))
 case h_11 t x f ho=>
  obtain⟨d,h1,h2⟩:=wq.1 h;exact lift (s:=Instr.field t (a.eval x) f) (by simp only[execOp,ho]) (Sg h2 (hs.ev h1))
 case h_12 t x i ho=>
  split at h
  ·rename_i cx cy h1 h2;exact lift (s:=Instr.indexAt t (a.eval x) (a.eval i)) (by simp only[execOp,ho]) (Al h (hs.ev h1) (hs.ev h2))
  ·simp at h
 case h_13 t x i ho=>
  split at h
  ·rename_i cx cy h1 h2;exact lift (s:=Instr.index t (a.eval x) (a.eval i)) (by simp only[execOp,ho]) (Sf h (hs.ev h1) (hs.ev h2))
  ·simp at h
 case h_14 t x lo hi mx ho=>
  split at h
  ·rename_i cx l hh m h1 h2 h3 h4;exact lift (s:=Instr.sliceAt t (a.eval x) (lo.map a.eval) (hi.map a.eval) (mx.map a.eval)) (by simp only[execOp,ho]) (So h (hs.ev h1) (Ga hs h2) (Ga hs h3) (Ga hs h4))
  ·simp at h
 case h_15 x i ho=>
  split at h
  ·rename_i cs hc;obtain⟨vs,hv,hl,hp⟩:=(hs.ev hc).WI;obtain⟨hlt,hget⟩:=wF.1 h;have hvi:vs[i]?=some (vs[i]'(by omega)):=(by grind);exact lift (s:=Instr.extract (a.eval x) i) (by simp only[execOp,ho]) ⟨_,by simp[hv,Instr.extract,hvi],hp i c _ h hvi⟩
  ·simp at h
 case h_16 t ps ho=>
  obtain⟨parts,h1,h2⟩:=wq.1 h;obtain⟨l,hp⟩:=JW hs h1;refine lift (s:=Instr.build t (ps.map λ(i,x)=>(i,a.eval x))) (by simp only[execOp,ho]) (Sr h2 (by simpa using l) λj p x hj hk=>hp j p x hj ?_);grind
 case h_17 b args argTypes ho=>
  obtain⟨cs,h1,h2⟩:=wq.1 h;have hc:=Kd hs h1;have ev:(args.toList.map a.eval).toArray=args.map a.eval:=(by grind);rw[ev] at hc;have pre:execOp a.eval o=builtin b argTypes o.type (args.map fun|.const _=>true|_=>false) (args.map a.eval):=by
   show (execOp a.eval o)=_;unfold execOp;rw[ho];rfl
  unfold IG at h2;split at h2
  ·rename_i t c' ht;have h0:(args.map a.eval)[0]?=some ((args.map a.eval)[0]'(by rw[hc.1];simp)):=wB _;obtain⟨y,hy,hr⟩:=uJ (ty:=o.type) h2 ht (hc.2 0 c' _ rfl h0) h0;simp_all [zX,zZ,builtin]
  ·rename_i c' rest;have hsz:(args.map a.eval).toList.length=rest.length+1:=by simpa using hc.1
   obtain⟨x,xs,hx⟩:∃x xs,(args.map a.eval).toList=x :: xs:=by
    cases hh:(args.map a.eval).toList with
    | nil=>grind
    | cons x xs=>grind
   have hp:∀(i:Nat) (c:V) (v:Value),(c' :: rest)[i]?=some c->(x :: xs)[i]?=some v->Qz γ w st.b st.u c v:=λi c v h3 h4=>hc.2 i c v h3 (by grind);obtain⟨y,hy,hr⟩:=NW (P:=P) rest xs c' c x h2 (hp 0 _ _ rfl rfl) (by grind) (λi c v h3 h4=>hp (i+1) c v (by simpa using h3) (by simpa using h4));simp_all [zX,zZ,builtin,Builtin.max_]
  ·rename_i c' rest;have hsz:(args.map a.eval).toList.length=rest.length+1:=by simpa using hc.1
   obtain⟨x,xs,hx⟩:∃x xs,(args.map a.eval).toList=x :: xs:=by
    cases hh:(args.map a.eval).toList with
    | nil=>grind
    | cons x xs=>grind
   have hp:∀(i:Nat) (c:V) (v:Value),(c' :: rest)[i]?=some c->(x :: xs)[i]?=some v->Qz γ w st.b st.u c v:=λi c v h3 h4=>hc.2 i c v h3 (by grind);obtain⟨y,hy,hr⟩:=NH (P:=P) rest xs c' c x h2 (hp 0 _ _ rfl rfl) (by grind) (λi c v h3 h4=>hp (i+1) c v (by simpa using h3) (by simpa using h4));simp_all [zX,zZ,builtin,Builtin.min_]
  ·simp at h2
 grind
theorem VN{P:Program}{G:zi}{o:Oper}{st:St}{c:V}(h:Jp P (st.ev G) st.b o.op=some c)(hd:W2 st.n o.dst=true):I9 P G o st (st.put o.dst c):=
 (by grind [E3,EG])
theorem K9.XY{Qr:Nat->Nat}{w:World}{c:V}{v:Value}(h:K9 Qr w c v):v.oneCell'=true:=by cases h<;>first|rfl|(rename_i h;cases v<;>first|rfl|simp[Wn] at h)
def V.Zq:V->Bool
 | .agg _|.Qc _|.undef=>false
 | _=>true
def V.strip:V->V
 | .sl _ size rows=>.sl false size rows
 | c=>c
def V.QK:V->Bool
 | .sl true _ _=>true
 | _=>false
theorem YD(c:V):c.strip.QK=false:=by cases c<;>rfl
theorem Qz.strip{γ:Gh}{w:World}{bs:zj}{u:zl}{c:V}{v:Value}(h:Qz γ w bs u c v):Qz γ w bs u c.strip v:=by
 cases c<;>try exact h
 rename_i own size rows;obtain⟨a,rfl,rfl⟩|⟨B,o,cap,vs,rfl,h1,h2,h3,h4⟩:=h.HB
 ·exact .data (.Zc false size a)
 ·exact .data (.sl false size rows B o cap vs h1 h2 h3 h4)
theorem D6.QN{γ:Gh}{w:World}{t:M3}{c:V}{v:Value}(h:c.QK=false):D6 γ w t c v:=by
 unfold D6;grind [V.QK]
theorem Qz.ZW{γ:Gh}{w:World}{bs:zj}{u:zl}{c:V}{v:Value}(h:Qz γ w bs u c v)(hc:c.Zq=true):v.oneCell'=true:=
 h.XY (by grind [V.Zq]) (by grind [V.Zq]) (by grind [V.Zq])
def Gh.add(γ:Gh)(d B:Nat):Gh where
 loc:=λb=>if b=d then some (B,0) else γ.loc b
 own:=λb=>if b=B then some (.Zs d) else γ.own b
 Qr:=λb=>if b=B then 0 else γ.Qr b
theorem YH{w w1:World}{o:Obj}(hh:w1.heap=w.heap.push o){B:Nat}(hB:B < w.heap.size):w1.heap[B]?=w.heap[B]?:=by
 grind
theorem RA{w w1:World}{o:Obj}(hh:w1.heap=w.heap.push o){B x:Nat}{v:Value}(h:cellAt w B x=some v):cellAt w1 B x=some v:=by
 grind [UU,YH,cellAt,World.cell?]
structure GA(w w1:World):Prop where
 os:w1.os=w.os
 tape:w1.tape=w.tape
 output:w1.output=w.output
theorem Qe.push{γ:Gh}{w w1:World}{o:Obj}(hh:w1.heap=w.heap.push o)(hs:GA w w1)(d:Nat):Qe γ w (γ.add d w.heap.size) w1 where
 os:=hs.os
 tape:=hs.tape
 output:=hs.output
 size:=by rw[hh];simp
 Pf:=λB x v _ h=>RA hh h
 Qr:=λB hB=>by simp only[Gh.add];grind
 free:=λB hB ho=>⟨YH hh hB,by simp only[Gh.add];grind,by simp only[Gh.add];grind⟩
 room:=(by grind)
theorem Qs.Ge{G:zi}{γ:Gh}{st:St}{tmps:Array Value}{w:World}(h:Qs G γ st tmps w){d:Nat}(hu:st.u d=false):st.b d=none:=by
 cases hb:st.b d with
 | none=>rfl
 | some k=>have:=h.u d k hb;grind
theorem Qs.IN{G:zi}{γ γ':Gh}{st:St}{tmps:Array Value}{w:World}(h:Qs G γ st tmps w){d:Nat}{k:Qd}(hu:st.u d=false)(hl:∀b,b≠d->γ'.loc b=γ.loc b) :
  G7 γ st.b st.u γ' (st.Qj d k).b (st.Qj d k).u where
 used:=(by grind [b,St.Qj])
 gone:=λb hb hn=>by
  have:b≠d:=(by grind);simp_all [if_neg,St.Qj]
 kept:=λb k' hk=>by
  have:b≠d:=λe=>by subst e;rw[h.Ge hu] at hk;simp at hk
  simp only[St.Qj];rw[if_neg this,if_neg this];exact⟨h.u b k' hk,(by grind)⟩
theorem D6.mono{γ γ':Gh}{w:World}{t:M3}{c:V}{v:Value}(h:D6 γ w t c v)(ho:∀B,γ.own B=some t->γ'.own B=some t/\γ'.Qr B<=γ.Qr B):D6 γ' w t c v:=by
 unfold D6 at h ⊢;grind
theorem Ha.grow{G:zi}{γ γ':Gh}{w w':World}(h:Ha G γ w)(g:Qe γ w γ' w'):Ha G γ' w':=λi cells hc=>g.data (h i cells hc)
theorem Qs.CU{G:zi}{γ:Gh}{st:St}{tmps:Array Value}{w w1:World}(h:Qs G γ st tmps w){d size:Nat}{rows:List (List V)}{cs:Array Value}{e:TypeId}{fz:Nat×Nat}
  (hM:size < J0) (hu:st.u d=false) (hh:w1.heap=w.heap.push (.cells cs e fz)) (hfz:∀i,i < cs.size->¬(fz.1<=i/\i < fz.2)) (hs:GA w w1) (hrows:∀r,r∈rows->r.length=size) (hlen:rows.length * size<=cs.size)
  (hcells:∀(i:Nat) (c:V),rows.flatten[i]?=some c->∃v,cs[i]?=some v/\Qz γ w st.b st.u c v/\v.oneCell'=true/\c.QK=false) :
  Qs G (γ.add d w.heap.size) (st.Qj d ⟨size,true,rows⟩) tmps w1/\Qe γ w (γ.add d w.heap.size) w1/\G7 γ st.b st.u (γ.add d w.heap.size) (st.Qj d ⟨size,true,rows⟩).b (st.Qj d ⟨size,true,rows⟩).u:=by
 have g:=Qe.push (γ:=γ) hh hs d;have bl:G7 γ st.b st.u (γ.add d w.heap.size) (st.Qj d ⟨size,true,rows⟩).b (st.Qj d ⟨size,true,rows⟩).u:=
  h.IN hu λb hb=>by simp only[Gh.add];rw[if_neg hb]
 refine⟨⟨h.n,λi=>(h.t i).mono g bl,λb k hk=>?_,λb k hk=>?_,h.g.grow g,λB x hx=>?_⟩,g,bl⟩
 ·simp only[St.Qj] at hk;by_cases hb:b=d
  ·subst hb;rw[if_pos rfl] at hk;simp only[zG] at hk;subst hk;refine .inr (.inr ⟨hM,w.heap.size,0,cs,e,by simp[Gh.add],by simp[Gh.add],⟨fz,by rw[hh];simp,hfz⟩,hrows,by grind,λi c hc=>?_,λ_=>by simp[Gh.add],by simp[Gh.add]⟩);obtain⟨v,h1,h2,h3,h4⟩:=hcells i c hc;exact⟨v,by simpa using h1,h2.mono g bl,h3,.QN h4⟩
  ·rw[if_neg hb] at hk;rcases h.b b k hk with⟨v1,v2⟩|hm|⟨hM,B,o,cs',e',h1,h2,h3,h4,h5,h6,h7,h8⟩
   ·exact .inl ⟨by simp_all [if_neg,Gh.add],v2⟩
   ·exact .inr (.inl (hm.same (by simp only[Gh.add];rw[if_neg hb]) (λB _ hB=>by
     have hlt:=h.o B _ hB;exact⟨by simp only[Gh.add];grind,YH hh hlt⟩) λc v hr=>hr.mono g bl))
   have hB:B < w.heap.size:=h3.lt;have hne:B≠w.heap.size:=by omega
   refine .inr (.inr ⟨hM,B,o,cs',e',by simp_all [if_neg,Gh.add],by simp_all [if_neg,Gh.add],h3.of_eq (YH hh hB),h4,h5,λi c hc=>?_,
    by simp_all [if_neg,Gh.add],by simp_all [if_neg,Gh.add]⟩)
   obtain⟨v,a1,a2,a3,a4⟩:=h6 i c hc;refine⟨v,a1,a2.mono g bl,a3,?_⟩;replace a4:=a4.grow g (λB hB=>by
    have:=h.o _ _ hB;simp only[Gh.add];grind)
   unfold D6 at a4 ⊢;split at a4
   ·rename_i size' rows' a l cp;rcases a4 with a4|a4
    ·exact .inl a4
    refine .inr ?_;have hab:a.block≠w.heap.size:=by have:=h.o _ _ a4.1.1;omega
    simp_all [if_neg,Gh.add]
   ·trivial
 ·simp only[St.Qj] at hk ⊢;by_cases hb:b=d
  ·subst hb;simp
  ·rw[if_neg hb] at hk;rw[if_neg hb];exact h.u b k hk
 ·simp only[Gh.add] at hx;rw[hh];simp only[Array.size_push];split at hx
  ·omega
  ·have:=h.o B x hx;omega
theorem Qs.Iq{G:zi}{γ:Gh}{st:St}{tmps:Array Value}{w w1:World}(h:Qs G γ st tmps w){d size:Nat}{rows:List (List V)}{cs:Array Value}{e:TypeId}
  (hM:size < J0) (hu:st.u d=false) (hh:w1.heap=w.heap.push (.cells cs e)) (hs:GA w w1) (hrows:∀r,r∈rows->r.length=size) (hlen:rows.length * size<=cs.size)
  (hcells:∀(i:Nat) (c:V),rows.flatten[i]?=some c->∃v,cs[i]?=some v/\Qz γ w st.b st.u c v/\v.oneCell'=true/\c.QK=false) :
  Qs G (γ.add d w.heap.size) (st.Qj d ⟨size,true,rows⟩) tmps w1/\Qe γ w (γ.add d w.heap.size) w1/\G7 γ st.b st.u (γ.add d w.heap.size) (st.Qj d ⟨size,true,rows⟩).b (st.Qj d ⟨size,true,rows⟩).u:=
 h.CU hM hu hh (λ_ _=>by omega) hs hrows hlen hcells
end Go.EV
