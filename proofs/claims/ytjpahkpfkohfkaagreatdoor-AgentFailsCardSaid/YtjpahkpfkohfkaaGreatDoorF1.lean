/- The value-level logic: values, local blocks, and how they lie in the model's world; no conditions (definitions and their first lemmas). The value-lev ..; no conditions. -/
import Derived.Calls
import Derived.KernelRfl
import Derived.Laws.Sem
import Derived.Laws.StructEq
import Derived.Laws.Slices
import Derived.ChangeKeysEq
import Derived.Laws.Append
import Derived.Laws.BytesArg
set_option linter.unusedVariables false
set_option linter.unusedSimpArgs false
set_option linter.defProp false
def ζa:=@Option.some.injEq
def ζb:=@Option.map_eq_some_iff
def ζc:=@Option.bind_eq_some_iff
def ζd:=@List.getElem?_eq_getElem
def ζe:=@List.getElem?_eq_some_iff
def ζf:=@Array.getElem?_eq_some_iff
def ζg:=@Array.getElem?_eq_getElem
def ζh:=@List.mem_iff_getElem?
def ζi:=@List.mem_of_getElem?
def ζj:=@List.getElem?_set_self
def ζk:=@List.getElem?_set_ne
def ζl:=@List.getElem?_append_left
def ζm:=@List.getElem?_append_right
def ζn:=@List.length_append
def ζo:=@List.getElem?_map
def ζp:=@List.map_append
def ζq:=@List.map_map
def ζr:=@List.mem_append
def ζs:=@List.length_map
def ζt:=@List.mem_map
def ζu:=@List.mem_singleton
def ζv:=@List.mem_cons
def ζw:=@List.not_mem_nil
def ζx:=@List.getElem?_take
def ζy:=@List.getElem?_drop
def ζz:=@Int.toNat_natCast
def ζA:=@Bool.and_eq_true
def ζB:=@Bool.not_eq_true'
def ζC:=@Bool.not_eq_false'
def ζD:=@List.contains_eq_mem
def ζE:=@List.all_eq_true
def ζF:=@decide_eq_true_eq
def ζG:=@decide_eq_false_iff_not
def ζH:=@List.length_replicate
def ζI:=@List.length_set
def ζJ:=@Classical.byContradiction
def ζK:=@Nat.le_refl
def ζL:=@Int.le_refl
def ζM:=@Nat.lt_of_lt_of_le
def ζN:=@Nat.lt_or_ge
def ζO:=@Go.run_underlying
def ζP:=@Prod.mk.injEq
def ζQ:=@Go.Result.andThen_ok
def ζR:=@Option.some.inj
def ζS:=@List.length_eq_zero_iff
def ζT:=@Go.Sem.run_bind
def ζU:=@Go.Sem.run_pure
def ζV:=@List.getD_eq_getElem?_getD
def ζW:=@Array.getD_eq_getD_getElem?
def ζX:=@Bool.or_eq_true
def ζY:=@beq_eq_false_iff_ne
def ζZ:=@Option.map_some
def ξa:=@Option.bind_some
def ξb:=@List.mem_flatMap
def ξc:=@List.mem_or_eq_of_mem_set
def ξd:=@List.mem_append_left
def ξe:=@List.append_assoc
def ξf:=@List.map_cons
def ξg:=@List.find?_cons_of_neg
def ξh:=@List.mem_of_find?_eq_some
def ξi:=@List.map_congr_left
def ξj:=@List.length_cons
def ξk:=@List.append_nil
def ξl:=@Nat.mul_le_mul_right
def ξm:=@List.mem_flatten
def ξn:=@List.getElem?_eq_none
def ξo:=@List.getElem?_cons_zero
def ξp:=@Nat.add_mul
def ξq:=@Nat.eq_zero_or_pos
def ξr:=@decide_eq_true
def ξs:=@decide_eq_false
def ξt:=@List.mem_of_mem_take
def ξu:=@List.mem_of_mem_drop
def ξv:=@Nat.zero_add
def ξw:=@Nat.mul_comm
namespace Go.EV
open Go
inductive V where
 | int (k:IntKind) (n:Int)
 | bool (b:Bool)
 | str (s:ByteArray)
 | nilp
 | nilf
 | nilsl
 | sl (own:Bool) (size:Nat) (rows:List (List V))
 | snap (cells:List V)
 | ref (b off len:Nat)
 | ptr (b i off:Nat)
 | fn (f:FuncId) (first captured:List V)
 | yld (l:Nat)
 | agg (cells:List V)
 | tup (vs:List V)
 | undef
 | mp (b:Nat)
 | ifc (x:Value)
 deriving Inhabited
structure Blk where
 size:Nat
 excl:Bool
 rows:List (List V)
inductive H4 where
 | blk (b:Nat)
 | nest (b i j:Nat)
structure Gh where
 loc:Nat→Option (Nat×Nat)
 own:Nat→Option H4
 lim:Nat→Nat
def cellAt(w:World)(B o:Nat):Option Value:=w.cell? ⟨B,o,none⟩
def W9:Nat:=1048576
def mkn(z:Nat):Nat:=z % 256
def mvn(z:Nat):Nat:=z / 256 % 256
def mka(z:Nat):Bool:=z / 65536 % 2==1
def mva(z:Nat):Bool:=z / 131072 % 2==1
def mwd(z:Nat):Nat:=mkn z+mvn z
def packW(agg:Bool)(l:List Value):Value:=match agg with
 | true=>.agg l.toArray
 | false=>l.headD undef
def M0(agg:Bool)(v:Value):List Value:=match agg with
 | true=>match v with
  | .agg a=>a.toList
  | _=>[]
 | false=>[v]
def F1(z:Nat)(e:MapEntry):List Value:=M0 (mka z) e.key++M0 (mva z) e.val
def EsOk(z:Nat)(es:Array MapEntry):Prop:=
 ∀e,e∈es→(M0 (mka z) e.key).length=mkn z∧packW (mka z) (M0 (mka z) e.key)=e.key∧(M0 (mva z) e.val).length=mvn z∧packW (mva z) (M0 (mva z) e.val)=e.val
def Born(es:Array MapEntry)(clock:Nat):Prop:=(es.toList.map (·.born)).Nodup∧∀e,e∈es.toList→e.born < clock
def RoomAt(w:World)(B n:Nat):Prop:=∃cs e fz,w.heap[B]?=some (.cells cs e fz)∧n≤cs.size
def isIfc:Value→Bool
 | .iface _ _=>true
 | .nilIface=>true
 | _=>false
inductive W2(lim:Nat→Nat)(w:World):V→Value→Prop
 | int (k:IntKind) (n:Int):W2 lim w (.int k n) (.int k n)
 | bool (b:Bool):W2 lim w (.bool b) (.bool b)
 | str (s:ByteArray):W2 lim w (.str s) (.string s)
 | nilp:W2 lim w .nilp (.pointer none)
 | nilf:W2 lim w .nilf .nilFunc
 | yld (l:Nat):W2 lim w (.yld l) (.func (.yield l) #[] #[])
 | nilsl:W2 lim w .nilsl (.slice none 0 0)
 | ifc (x:Value):isIfc x=true→W2 lim w (.ifc x) x
 | sl (own:Bool) (size:Nat) (rows:List (List V)) (B o cap:Nat) (vs:Nat→Value) :
   rows.length≤cap→(∀r,r∈rows→r.length=size)→
   (∀(i:Nat) (c:V),rows.flatten[i]?=some c→o+i < lim B∧cellAt w B (o+i)=some (vs i))→
   (∀(i:Nat) (c:V),rows.flatten[i]?=some c→W2 lim w c (vs i))→
   W2 lim w (.sl own size rows) (.slice (some ⟨B,o,none⟩) rows.length cap)
 | slNil (own:Bool) (size:Nat) (a:Option Addr:=none):W2 lim w (.sl own size []) (.slice a 0 0)
 | snap (cells:List V) (B o:Nat) (vs:Nat→Value) :
   (∀(i:Nat) (c:V),cells[i]?=some c→o+i < lim B∧cellAt w B (o+i)=some (vs i))→
   (∀(i:Nat) (c:V),cells[i]?=some c→W2 lim w c (vs i))→
   W2 lim w (.snap cells) (.pointer (some ⟨B,o,none⟩))
 | fn (f:FuncId) (first captured:List V) (fs cs:List Value) :
   fs.length=first.length→cs.length=captured.length→
   (∀(i:Nat) (c:V) (v:Value),first[i]?=some c→fs[i]?=some v→W2 lim w c v)→
   (∀(i:Nat) (c:V) (v:Value),captured[i]?=some c→cs[i]?=some v→W2 lim w c v)→
   W2 lim w (.fn f first captured) (.func (.func f) fs.toArray cs.toArray)
inductive Rep(γ:Gh)(w:World)(bs:Nat→Option Blk)(u:Nat→Bool):V→Value→Prop
 | data {c:V} {v:Value}:W2 γ.lim w c v→Rep γ w bs u c v
 | undef (v:Value):Rep γ w bs u .undef v
 | ref (b off len B o cap:Nat) (k:Blk):bs b=some k→γ.loc b=some (B,o)→off+len≤k.rows.length→len≤cap→
   RoomAt w B (o+(off+cap) * k.size)→k.size < W9→k.rows.length≤off+cap→Rep γ w bs u (.ref b off len) (.slice (some ⟨B,o+off * k.size,none⟩) len cap)
 | refE (b off:Nat) (B:Addr) (k:Blk):bs b=some k→k.size < W9→k.rows.length=off→Rep γ w bs u (.ref b off 0) (.slice (some B) 0 0)
 | refN (b off:Nat) (k:Blk):bs b=some k→k.size < W9→k.rows.length=off→Rep γ w bs u (.ref b off 0) (.slice none 0 0)
 | deadRef (b off len:Nat) (v:Value):bs b=none→u b=true→v.oneCell'=true→Rep γ w bs u (.ref b off len) v
 | ptr (b i off B o:Nat) (k:Blk):bs b=some k→γ.loc b=some (B,o)→k.size < W9→
   Rep γ w bs u (.ptr b i off) (.pointer (some ⟨B,o+(i * k.size+off),none⟩))
 | deadPtr (b i off:Nat) (v:Value):bs b=none→u b=true→v.oneCell'=true→Rep γ w bs u (.ptr b i off) v
 | fn (f:FuncId) (first captured:List V) (fs cs:List Value) :
   fs.length=first.length→cs.length=captured.length→
   (∀(i:Nat) (c:V) (v:Value),first[i]?=some c→fs[i]?=some v→Rep γ w bs u c v)→
   (∀(i:Nat) (c:V) (v:Value),captured[i]?=some c→cs[i]?=some v→Rep γ w bs u c v)→
   Rep γ w bs u (.fn f first captured) (.func (.func f) fs.toArray cs.toArray)
 | mp (b B:Nat) (k:Blk):bs b=some k→γ.loc b=some (B,0)→W9≤k.size→Rep γ w bs u (.mp b) (.map (some B))
 | deadMp (b:Nat) (v:Value):bs b=none→u b=true→v.oneCell'=true→Rep γ w bs u (.mp b) v
 | agg (cells:List V) (vs:List Value):vs.length=cells.length→
   (∀(i:Nat) (c:V) (v:Value),cells[i]?=some c→vs[i]?=some v→Rep γ w bs u c v)→Rep γ w bs u (.agg cells) (.agg vs.toArray)
 | tup (cells:List V) (vs:List Value):vs.length=cells.length→
   (∀(i:Nat) (c:V) (v:Value),cells[i]?=some c→vs[i]?=some v→Rep γ w bs u c v)→Rep γ w bs u (.tup cells) (.tuple vs.toArray)
structure Grow(γ:Gh)(w:World)(γ':Gh)(w':World):Prop where
 os:w'.os=w.os
 tape:w'.tape=w.tape
 output:w'.output=w.output
 size:w.heap.size≤w'.heap.size
 imm:∀B o v,o < γ.lim B→cellAt w B o=some v→cellAt w' B o=some v
 lim:∀B,B < w.heap.size→γ.lim B≤γ'.lim B
 free:∀B,B < w.heap.size→γ.own B=none→w'.heap[B]?=w.heap[B]?∧γ'.own B=none∧γ'.lim B=γ.lim B
 room:∀(B:Nat) (cs:Array Value) (e:TypeId) (fz:Nat×Nat),w.heap[B]?=some (.cells cs e fz)→∃(cs':Array Value) (fz':Nat×Nat),w'.heap[B]?=some (.cells cs' e fz')∧cs'.size=cs.size∧(fz'=fz∨cs.size < γ'.lim B)
theorem cellAt_lt{w:World}{B o:Nat}{v:Value}(h:cellAt w B o=some v):B < w.heap.size:=by
 unfold cellAt World.cell? at h
 rcases ζN B w.heap.size with hb|hb
 ·exact hb
 ·rw[Array.getElem?_eq_none hb] at h;simp at h
theorem Grow.refl(γ:Gh)(w:World):Grow γ w γ w:=
 ⟨rfl,rfl,rfl,ζK _,fun _ _ _ _ h=>h,fun _ _=>ζK _,fun _ _ h=>⟨rfl,h,rfl⟩,fun _ cs _ fz h=>⟨cs,fz,h,rfl,.inl rfl⟩⟩
theorem Grow.trans{a b c:Gh}{w w1 w2:World}(h:Grow a w b w1)(k:Grow b w1 c w2):Grow a w c w2 where
 os:=k.os.trans h.os
 tape:=k.tape.trans h.tape
 output:=k.output.trans h.output
 size:=Nat.le_trans h.size k.size
 imm:=fun B o v hl hc=>k.imm B o v (ζM hl (h.lim B (cellAt_lt hc))) (h.imm B o v hl hc)
 lim:=fun B hB=>Nat.le_trans (h.lim B hB) (k.lim B (ζM hB h.size))
 free:=fun B hB ho=>by
  obtain⟨h1,h2,h3⟩:=h.free B hB ho
  obtain⟨k1,k2,k3⟩:=k.free B (ζM hB h.size) h2
  exact⟨k1.trans h1,k2,k3.trans h3⟩
 room:=fun B cs e fz hc=>by
  obtain⟨cs1,fz1,h1,h2,h3⟩:=h.room B cs e fz hc
  obtain⟨cs2,fz2,k1,k2,k3⟩:=k.room B cs1 e fz1 h1
  refine⟨cs2,fz2,k1,k2.trans h2,?_⟩
  rcases k3 with k3|k3
  ·rcases h3 with h3|h3
   ·exact .inl (k3.trans h3)
   ·exact .inr (ζM h3 (k.lim B (ζf.1 h1).1))
  ·rw[h2] at k3;exact .inr k3
theorem W2.mono{lim lim':Nat→Nat}{w w':World}(hm:∀B o v,o < lim B→cellAt w B o=some v→o < lim' B∧cellAt w' B o=some v)
  {c:V} {v:Value} (h:W2 lim w c v):W2 lim' w' c v:=by
 induction h with
 | int k n=>exact .int k n
 | bool b=>exact .bool b
 | str s=>exact .str s
 | nilp=>exact .nilp
 | nilf=>exact .nilf
 | yld l=>exact .yld l
 | nilsl=>exact .nilsl
 | ifc x hx=>exact .ifc x hx
 | sl own size rows B o cap vs h1 h2 h3 _ ih=>exact .sl own size rows B o cap vs h1 h2 (fun i c hc=>hm _ _ _ (h3 i c hc).1 (h3 i c hc).2) ih
 | slNil own size a=>exact .slNil own size a
 | snap cells B o vs h3 _ ih=>exact .snap cells B o vs (fun i c hc=>hm _ _ _ (h3 i c hc).1 (h3 i c hc).2) ih
 | fn f first captured fs cs h1 h2 _ _ ih1 ih2=>exact .fn f first captured fs cs h1 h2 ih1 ih2
theorem Grow.data{γ γ':Gh}{w w':World}(g:Grow γ w γ' w'){c:V}{v:Value}(h:W2 γ.lim w c v):W2 γ'.lim w' c v:=
 h.mono fun B o v hl hc=>⟨ζM hl (g.lim B (cellAt_lt hc)),g.imm B o v hl hc⟩
theorem Grow.roomAt{γ γ':Gh}{w w':World}(g:Grow γ w γ' w'){B n:Nat}(h:RoomAt w B n):RoomAt w' B n:=by
 obtain⟨cs,e,fz,h1,h2⟩:=h
 obtain⟨cs',fz',k1,k2,_⟩:=g.room B cs e fz h1
 exact⟨cs',e,fz',k1,by omega⟩
structure L1(γ:Gh)(bs:Nat→Option Blk)(u:Nat→Bool)(γ':Gh)(bs':Nat→Option Blk)(u':Nat→Bool):Prop where
 used:∀b,u b=true→u' b=true
 gone:∀b,u b=true→bs b=none→bs' b=none
 kept:∀b k,bs b=some k→u' b=true∧(bs' b=none∨∃k',bs' b=some k'∧k'.size=k.size∧(k.size < W9→k'.rows.length=k.rows.length)∧γ'.loc b=γ.loc b)
theorem L1.refl{γ:Gh}{bs:Nat→Option Blk}{u:Nat→Bool}(h:∀b k,bs b=some k→u b=true):L1 γ bs u γ bs u:=
 ⟨fun _ h=>h,fun _ _ h=>h,fun b k hk=>⟨h b k hk,.inr ⟨k,hk,rfl,fun _=>rfl,rfl⟩⟩⟩
def R4(b:Nat):Bool:=decide (1000000≤b)&&decide (b % 1000000 < 900000)
theorem uPin_le{b:Nat}(h:R4 b=true):1000000≤b:=by
 simp only[R4,ζA,ζF] at h;exact h.1
def Pin(γ:Gh)(bs:Nat→Option Blk)(u:Nat→Bool)(γ':Gh)(bs':Nat→Option Blk)(u':Nat→Bool):Prop:=
 ∀b,R4 b=true→(u b=true→u' b=true)∧(u b=true→bs b=none→bs' b=none)∧
  ∀k,bs b=some k→u' b=true∧(bs' b=none∨∃k',bs' b=some k'∧k'.size=k.size∧(k.size < W9→k'.rows.length=k.rows.length)∧γ'.loc b=γ.loc b)
theorem L1.pin{γ γ':Gh}{bs bs':Nat→Option Blk}{u u':Nat→Bool}(h:L1 γ bs u γ' bs' u'):Pin γ bs u γ' bs' u':=fun b _=>⟨h.used b,h.gone b,h.kept b⟩
theorem Pin.refl{γ:Gh}{bs:Nat→Option Blk}{u:Nat→Bool}(h:∀b k,bs b=some k→u b=true):Pin γ bs u γ bs u:=(L1.refl h).pin
theorem Pin.trans{γ γ1 γ2:Gh}{bs bs1 bs2:Nat→Option Blk}{u u1 u2:Nat→Bool}(h:Pin γ bs u γ1 bs1 u1)(k:Pin γ1 bs1 u1 γ2 bs2 u2):Pin γ bs u γ2 bs2 u2:=fun b hb=>by
 obtain⟨h1,h2,h3⟩:=h b hb
 obtain⟨k1,k2,k3⟩:=k b hb
 refine⟨fun x=>k1 (h1 x),fun x y=>k2 (h1 x) (h2 x y),fun q hq=>?_⟩
 obtain⟨a1,a2⟩:=h3 q hq
 refine⟨k1 a1,?_⟩
 rcases a2 with a2|⟨k',a2,a3,a4,a5⟩
 ·exact .inl (k2 a1 a2)
 ·obtain⟨_,b2⟩:=k3 k' a2
  rcases b2 with b2|⟨k2',b2,b3,b4,b5⟩
  ·exact .inl b2
  ·exact .inr ⟨k2',b2,b3.trans a3,fun hs=>(b4 (by rw[a3];exact hs)).trans (a4 hs),b5.trans a5⟩
theorem Rep.mono{γ γ':Gh}{w w':World}{bs bs':Nat→Option Blk}{u u':Nat→Bool}(g:Grow γ w γ' w')(hb:L1 γ bs u γ' bs' u')
  {c:V} {v:Value} (h:Rep γ w bs u c v):Rep γ' w' bs' u' c v:=by
 induction h with
 | data h=>exact .data (g.data h)
 | undef v=>exact .undef v
 | ref b off len B o cap k h1 h2 h3 h4 h5 h6 h7=>
  obtain⟨hu,hk⟩:=hb.kept b k h1
  rcases hk with hk|⟨k',hk,hs,hr,hl⟩
  ·exact .deadRef b off len _ hk hu rfl
  ·rw[←hs]
   exact .ref b off len B o cap k' hk (hl.trans h2) (by rw[hr h6];exact h3) h4 (g.roomAt (by rw[hs];exact h5)) (by rw[hs];exact h6) (by rw[hr h6];exact h7)
 | refE b off B k h1 h6 h2=>
  obtain⟨hu,hk⟩:=hb.kept b k h1
  rcases hk with hk|⟨k',hk,hs,hr,hl⟩
  ·exact .deadRef b off 0 _ hk hu rfl
  ·exact .refE b off B k' hk (by rw[hs];exact h6) ((hr h6).trans h2)
 | refN b off k h1 h6 h2=>
  obtain⟨hu,hk⟩:=hb.kept b k h1
  rcases hk with hk|⟨k',hk,hs,hr,hl⟩
  ·exact .deadRef b off 0 _ hk hu rfl
  ·exact .refN b off k' hk (by rw[hs];exact h6) ((hr h6).trans h2)
 | deadRef b off len v h1 h2 h3=>exact .deadRef b off len v (hb.gone b h2 h1) (hb.used b h2) h3
 | ptr b i off B o k h1 h2 h3=>
  obtain⟨hu,hk⟩:=hb.kept b k h1
  rcases hk with hk|⟨k',hk,hs,hr,hl⟩
  ·exact .deadPtr b i off _ hk hu rfl
  ·rw[←hs];exact .ptr b i off B o k' hk (hl.trans h2) (by rw[hs];exact h3)
 | mp b B k h1 h2 h3=>
  obtain⟨hu,hk⟩:=hb.kept b k h1
  rcases hk with hk|⟨k',hk,hs,hr,hl⟩
  ·exact .deadMp b _ hk hu rfl
  ·exact .mp b B k' hk (hl.trans h2) (by rw[hs];exact h3)
 | deadMp b v h1 h2 h3=>exact .deadMp b v (hb.gone b h2 h1) (hb.used b h2) h3
 | deadPtr b i off v h1 h2 h3=>exact .deadPtr b i off v (hb.gone b h2 h1) (hb.used b h2) h3
 | fn f first captured fs cs h1 h2 _ _ ih1 ih2=>exact .fn f first captured fs cs h1 h2 ih1 ih2
 | agg cells vs h1 _ ih=>exact .agg cells vs h1 ih
 | tup cells vs h1 _ ih=>exact .tup cells vs h1 ih
def M6(w:World)(B:Nat)(cs:Array Value)(e:TypeId):Prop:=
 ∃fz:Nat×Nat,w.heap[B]?=some (.cells cs e fz)∧∀i,i < cs.size→¬(fz.1≤i∧i < fz.2)
theorem M6.cellAt{w:World}{B:Nat}{cs:Array Value}{e:TypeId}(h:M6 w B cs e)(o:Nat):cellAt w B o=cs[o]?:=by
 obtain⟨fz,h,_⟩:=h
 unfold EV.cellAt World.cell?
 simp[h]
theorem M6.cell{w:World}{B:Nat}{cs:Array Value}{e:TypeId}(h:M6 w B cs e)(o:Nat):w.cell? ⟨B,o,none⟩=cs[o]?:=by
 obtain⟨fz,h,_⟩:=h
 unfold World.cell?
 simp[h]
theorem M6.lt{w:World}{B:Nat}{cs:Array Value}{e:TypeId}(h:M6 w B cs e):B < w.heap.size:=by
 obtain⟨fz,h,_⟩:=h
 exact(ζf.1 h).1
theorem M6.room{w:World}{B n:Nat}{cs:Array Value}{e:TypeId}(h:M6 w B cs e)(hn:n≤cs.size):RoomAt w B n:=by
 obtain⟨fz,h,_⟩:=h
 exact⟨cs,e,fz,h,hn⟩
theorem M6.of{w:World}{B:Nat}{cs:Array Value}{e:TypeId}(h:w.heap[B]?=some (.cells cs e (0,0))):M6 w B cs e:=
 ⟨(0,0),h,fun i _=>by omega⟩
theorem M6.of_eq{w w':World}{B:Nat}{cs:Array Value}{e:TypeId}(h:M6 w B cs e)(hh:w'.heap[B]?=w.heap[B]?):M6 w' B cs e:=by
 obtain⟨fz,h,hf⟩:=h
 exact⟨fz,hh.trans h,hf⟩
def E5(γ:Gh)(w:World)(t:H4)(c:V)(v:Value):Prop:=
 match c,v with
 | .sl true size rows,.slice (some a) _ cap=>cap=0∨(γ.own a.block=some t∧γ.lim a.block≤a.off+rows.length * size)∧∃cs e,M6 w a.block cs e∧a.off+cap * size≤cs.size∧rows.length * size≤cap * size
 | _,_=>True
theorem E5.grow{γ γ1 γ2:Gh}{w w':World}(g:Grow γ1 w γ2 w'){t:H4}{c:V}{v:Value}(h:E5 γ w t c v)(hl:∀B,γ.own B=some t→γ2.lim B≤γ.lim B:=by intro B _;exact ζK _):E5 γ w' t c v:=by
 unfold E5 at h ⊢
 split at h
 ·rcases h with h|⟨h1,cs,e,h2,h3,h4⟩
  ·exact .inl h
  obtain⟨fz,h2,hf⟩:=h2
  obtain⟨cs',fz',k1,k2,k3⟩:=g.room _ cs e _ h2
  rcases k3 with rfl|k3
  ·exact .inr ⟨h1,cs',e,⟨fz',k1,fun i hi=>hf i (by omega)⟩,by omega,h4⟩
  ·have:=hl _ h1.1
   have:=h1.2
   omega
 ·trivial
def BlkAt(γ:Gh)(w:World)(bs:Nat→Option Blk)(u:Nat→Bool)(b:Nat)(k:Blk):Prop:=
 k.size < W9∧∃B o cs e,γ.loc b=some (B,o)∧γ.own B=some (.blk b)∧M6 w B cs e∧
  (∀r,r∈k.rows→r.length=k.size)∧o+k.rows.length * k.size≤cs.size∧
  (∀(i:Nat) (c:V),k.rows.flatten[i]?=some c→∃v,cs[o+i]?=some v∧Rep γ w bs u c v∧v.oneCell'=true∧E5 γ w (.nest b (i / k.size) (i % k.size)) c v)∧
  (k.excl=true→γ.lim B=0)∧γ.lim B≤o+k.rows.length * k.size
def MapAt(γ:Gh)(w:World)(bs:Nat→Option Blk)(u:Nat→Bool)(b:Nat)(k:Blk):Prop:=
 W9≤k.size∧∃B es clock,γ.loc b=some (B,0)∧γ.own B=some (.blk b)∧w.heap[B]?=some (.map es clock)∧es.size=k.rows.length∧
  (∀r,r∈k.rows→r.length=mwd k.size)∧(EsOk k.size es∧Born es clock)∧
  (∀(i:Nat) (c:V),k.rows.flatten[i]?=some c→∃v,(es.toList.flatMap (F1 k.size))[i]?=some v∧Rep γ w bs u c v∧v.oneCell'=true)
def L2(γ:Gh)(w:World)(bs:Nat→Option Blk)(u:Nat→Bool)(b:Nat)(k:Blk):Prop:=
 (γ.loc b=none∧k.rows=[])∨MapAt γ w bs u b k∨BlkAt γ w bs u b k
theorem MapAt.keep{γ γ':Gh}{w w':World}{bs bs':Nat→Option Blk}{u u':Nat→Bool}{b b':Nat}{k k':Blk}(h:MapAt γ w bs u b k)(hl:γ'.loc b'=γ.loc b)
  (ho:∀B,γ.loc b=some (B,0)→γ.own B=some (.blk b)→γ'.own B=some (.blk b')∧w'.heap[B]?=w.heap[B]?) (hs:k'.size=k.size) (hn:k'.rows.length=k.rows.length)
  (hz:∀r,r∈k'.rows→r.length=mwd k.size)
  (hc:∀(i:Nat) (c':V),k'.rows.flatten[i]?=some c'→∃c,k.rows.flatten[i]?=some c∧∀v,Rep γ w bs u c v→Rep γ' w' bs' u' c' v):MapAt γ' w' bs' u' b' k':=by
 obtain⟨h0,B,es,clock,h1,h2,h3,h4,h5,h6,h7⟩:=h
 refine⟨by rw[hs];exact h0,B,es,clock,hl.trans h1,(ho B h1 h2).1,(ho B h1 h2).2.trans h3,h4.trans hn.symm,by rw[hs];exact hz,by rw[hs];exact h6,fun i c' hc'=>?_⟩
 obtain⟨c,c1,c2⟩:=hc i c' hc'
 obtain⟨v,v1,v2,v3⟩:=h7 i c c1
 exact⟨v,by rw[hs];exact v1,c2 v v2,v3⟩
theorem MapAt.same{γ γ':Gh}{w w':World}{bs bs':Nat→Option Blk}{u u':Nat→Bool}{b:Nat}{k:Blk}(h:MapAt γ w bs u b k)(hl:γ'.loc b=γ.loc b)
  (ho:∀B,γ.loc b=some (B,0)→γ.own B=some (.blk b)→γ'.own B=some (.blk b)∧w'.heap[B]?=w.heap[B]?) (hc:∀c v,Rep γ w bs u c v→Rep γ' w' bs' u' c v):MapAt γ' w' bs' u' b k:=
 h.keep hl ho rfl rfl (by obtain⟨_,_,_,_,_,_,_,_,h5,_⟩:=h;exact h5) fun i c' hc'=>⟨c',hc',fun v hv=>hc c' v hv⟩
theorem L2.at{γ:Gh}{w:World}{bs:Nat→Option Blk}{u:Nat→Bool}{b:Nat}{k:Blk}(h:L2 γ w bs u b k):γ.loc b=none∨∃B o,γ.loc b=some (B,o)∧γ.own B=some (.blk b):=by
 rcases h with⟨h0,_⟩|⟨_,B,_,_,h1,h2,_⟩|⟨_,B,o,_,_,h1,h2,_⟩
 ·exact .inl h0
 ·exact .inr ⟨B,0,h1,h2⟩
 ·exact .inr ⟨B,o,h1,h2⟩
def S9(G:Nat→Option (List V))(γ:Gh)(w:World):Prop:=
 ∀g cells,G g=some cells→W2 γ.lim w (.snap cells) (.pointer (some ⟨g,0,none⟩))
structure St where
 n:Nat
 t:Nat→V
 b:Nat→Option Blk
 u:Nat→Bool
structure Sim(G:Nat→Option (List V))(γ:Gh)(st:St)(tmps:Array Value)(w:World):Prop where
 n:tmps.size=st.n
 t:∀i,Rep γ w st.b st.u (st.t i) (tmps.getD i undef)
 b:∀b k,st.b b=some k→L2 γ w st.b st.u b k
 u:∀b k,st.b b=some k→st.u b=true
 g:S9 G γ w
 o:∀B x,γ.own B=some x→B < w.heap.size
def St.setT(st:St)(i:Nat)(c:V):St:={ st with t:=fun j=>if j=i then c else st.t j }
def St.setB(st:St)(i:Nat)(k:Blk):St:={ st with b:=fun j=>if j=i then some k else st.b j,u:=fun j=>if j=i then true else st.u j }
def St.delB(st:St)(i:Nat):St:={ st with b:=fun j=>if j=i then none else st.b j,u:=fun j=>if j=i then true else st.u j }
def St.put(st:St)(dst:Option Nat)(c:V):St:=match dst with|some d=>st.setT d c|none=>st
def H2(n:Nat)(dst:Option Nat):Bool:=match dst with|some d=>d < n|none=>true
structure Fx where
 ro:Option Nat
 ds:List Deferred
 mx:Bool
def N0(P:Program)(G:Nat→Option (List V))(o:Oper)(st st':St):Prop:=
 ∀(fx:Fx) (γ:Gh) (a:Act) (w:World),Sim G γ st a.tmps w→a.defers=fx.ds→∀(next:Act→World→Prop) (Q:Exit→Act→World→Prop),
  (∀a' w' γ',Sim G γ' st' a'.tmps w'→Grow γ w γ' w'→Pin γ st.b st.u γ' st'.b st'.u→a'.defers=fx.ds→next a' w')→o.wp P a w next Q
def EffP(P:Program)(G:Nat→Option (List V))(o:Oper)(st:St)(ex:Exit)(st':St):Prop:=
 ∀(fx:Fx) (γ:Gh) (a:Act) (w:World),Sim G γ st a.tmps w→a.defers=fx.ds→∀(next:Act→World→Prop) (Q:Exit→Act→World→Prop),
  (∀a' w' γ',Sim G γ' st' a'.tmps w'→Grow γ w γ' w'→Pin γ st.b st.u γ' st'.b st'.u→a'.defers=fx.ds→Q ex a' w')→o.wp P a w next Q
theorem Sim.put{G:Nat→Option (List V)}{γ:Gh}{st:St}{a:Act}{w:World}(h:Sim G γ st a.tmps w){dst:Option Nat}{c:V}{v:Value}
  (hd:H2 st.n dst=true) (hc:Rep γ w st.b st.u c v):Sim G γ (st.put dst c) (a.put dst v).tmps w:=by
 cases dst with
 | none=>exact h
 | some d=>
  have hdn:d < st.n:=by simpa[H2] using hd
  refine⟨by simp[Act.put,St.put,St.setT,h.n],fun i=>?_,h.b,h.u,h.g,h.o⟩
  simp only[Act.put,St.put,St.setT]
  by_cases hi:i=d
  ·subst hi
   rw[if_pos rfl]
   have:i < a.tmps.size:=by rw[h.n];exact hdn
   simpa[Array.getD,this] using hc
  ·rw[if_neg hi]
   have:=h.t i
   have e:(a.tmps.setIfInBounds d v).getD i undef=a.tmps.getD i undef:=by
    simp only[ζW,Array.getElem?_setIfInBounds]
    rw[if_neg (fun e=>hi e.symm)]
   rw[e];exact this
theorem U1(a:Act)(dst:Option Nat)(v:Value):(a.put dst v).defers=a.defers:=by cases dst<;>rfl
theorem H6{P:Program}{G:Nat→Option (List V)}{o:Oper}{st st':St}
  (h:∀(γ:Gh) (a:Act) (w:World),Sim G γ st a.tmps w→∃v w' γ',(execOp a.eval o).run P w=.ok (.value v) w'∧Grow γ w γ' w'∧Pin γ st.b st.u γ' st'.b st'.u∧Sim G γ' st' (a.put o.dst v).tmps w'):N0 P G o st st':=by
 intro fx γ a w hs hd next Q hn
 obtain⟨v,w',γ',hr,hg,hp,hs'⟩:=h γ a w hs
 show o.upon P a next Q _
 rw[hr,Oper.upon_value]
 exact hn _ _ _ hs' hg hp (by rw[U1];exact hd)
theorem effO_skip{P:Program}{G:Nat→Option (List V)}{o:Oper}{st st':St}
  (h:∀(γ:Gh) (a:Act) (w:World),Sim G γ st a.tmps w→∃w' γ',(execOp a.eval o).run P w=.ok .skip w'∧Grow γ w γ' w'∧Pin γ st.b st.u γ' st'.b st'.u∧Sim G γ' st' (a.put o.dst undef).tmps w'):N0 P G o st st':=by
 intro fx γ a w hs hd next Q hn
 obtain⟨w',γ',hr,hg,hp,hs'⟩:=h γ a w hs
 show o.upon P a next Q _
 rw[hr,Oper.upon_skip]
 exact hn _ _ _ hs' hg hp (by rw[U1];exact hd)
theorem X9{P:Program}{G:Nat→Option (List V)}{o:Oper}{st:St}{c:V}(hd:H2 st.n o.dst=true)
  (h:∀(γ:Gh) (a:Act) (w:World),Sim G γ st a.tmps w→∃v,(execOp a.eval o).run P w=.ok (.value v) w∧Rep γ w st.b st.u c v):N0 P G o st (st.put o.dst c):=
 H6 fun γ a w hs=>let ⟨v,hr,hc⟩:=h γ a w hs;⟨v,w,γ,hr,.refl γ w,by cases o.dst<;>exact Pin.refl hs.u,hs.put hd hc⟩
def ofVal:Value→Option V
 | .int k n=>some (.int k n)
 | .bool b=>some (.bool b)
 | .string s=>some (.str s)
 | .pointer none=>some .nilp
 | .nilFunc=>some .nilf
 | .slice none 0 0=>some .nilsl
 | _=>none
theorem ofVal_rep{lim:Nat→Nat}{w:World}{v:Value}{c:V}(h:ofVal v=some c):W2 lim w c v:=by
 unfold ofVal at h
 split at h<;>simp at h<;>subst h
 ·exact .int _ _
 ·exact .bool _
 ·exact .str _
 ·exact .nilp
 ·exact .nilf
 ·exact .nilsl
def St.ev(G:Nat→Option (List V))(st:St):Operand→Option V
 | .tmp t=>some (st.t t)
 | .const v=>ofVal v
 | .global g=>(G g).map .snap
 | .func f=>some (.fn f [] [])
theorem Sim.ev{G:Nat→Option (List V)}{γ:Gh}{st:St}{a:Act}{w:World}(h:Sim G γ st a.tmps w){x:Operand}{c:V}(hx:st.ev G x=some c) :
  Rep γ w st.b st.u c (a.eval x):=by
 cases x with
 | tmp t=>simp only[St.ev,ζa] at hx;subst hx;exact h.t t
 | const v=>exact .data (ofVal_rep hx)
 | global g=>
  simp only[St.ev,ζb] at hx
  obtain⟨cells,hg,rfl⟩:=hx
  exact .data (h.g g cells hg)
 | func f=>
  simp only[St.ev,ζa] at hx;subst hx
  exact .data (.fn f [] [] [] [] rfl rfl (fun i c v h=>by simp at h) (fun i c v h=>by simp at h))
section
variable {γ:Gh} {w:World} {bs:Nat→Option Blk} {u:Nat→Bool} {v:Value}
theorem Rep.int_inv{k:IntKind}{n:Int}(h:Rep γ w bs u (.int k n) v):v=.int k n:=by
 cases h with|data h=>cases h;rfl
theorem Rep.bool_inv{b:Bool}(h:Rep γ w bs u (.bool b) v):v=.bool b:=by
 cases h with|data h=>cases h;rfl
theorem Rep.str_inv{s:ByteArray}(h:Rep γ w bs u (.str s) v):v=.string s:=by
 cases h with|data h=>cases h;rfl
theorem Rep.nilp_inv(h:Rep γ w bs u .nilp v):v=.pointer none:=by
 cases h with|data h=>cases h;rfl
theorem Rep.nilf_inv(h:Rep γ w bs u .nilf v):v=.nilFunc:=by
 cases h with|data h=>cases h;rfl
theorem Rep.ifc_inv{x:Value}(h:Rep γ w bs u (.ifc x) v):v=x:=by
 cases h with
 | data h=>cases h;rfl
theorem Rep.nilsl_inv(h:Rep γ w bs u .nilsl v):v=.slice none 0 0:=by
 cases h with|data h=>cases h;rfl
theorem Rep.agg_inv{cells:List V}(h:Rep γ w bs u (.agg cells) v):∃vs:List Value,v=.agg vs.toArray∧vs.length=cells.length∧
  ∀(i:Nat) (c:V) (x:Value),cells[i]?=some c→vs[i]?=some x→Rep γ w bs u c x:=by
 cases h with
 | data h=>cases h
 | agg _ vs h1 h2=>exact⟨vs,rfl,h1,h2⟩
theorem Rep.tup_inv{cells:List V}(h:Rep γ w bs u (.tup cells) v):∃vs:List Value,v=.tuple vs.toArray∧vs.length=cells.length∧
  ∀(i:Nat) (c:V) (x:Value),cells[i]?=some c→vs[i]?=some x→Rep γ w bs u c x:=by
 cases h with
 | data h=>cases h
 | tup _ vs h1 h2=>exact⟨vs,rfl,h1,h2⟩
theorem Rep.sl_inv{own:Bool}{size:Nat}{rows:List (List V)}(h:Rep γ w bs u (.sl own size rows) v):(∃a,v=.slice a 0 0∧rows=[])∨∃(B o cap:Nat) (vs:Nat→Value),v=.slice (some ⟨B,o,none⟩) rows.length cap∧
  rows.length≤cap∧(∀r,r∈rows→r.length=size)∧
   (∀(i:Nat) (c:V),rows.flatten[i]?=some c→o+i < γ.lim B∧cellAt w B (o+i)=some (vs i))∧
   (∀(i:Nat) (c:V),rows.flatten[i]?=some c→W2 γ.lim w c (vs i)):=by
 cases h with
 | data h=>cases h with
  | sl _ _ _ B o cap vs h1 h2 h3 h4=>exact .inr ⟨B,o,cap,vs,rfl,h1,h2,h3,h4⟩
  | slNil _ _ a=>exact .inl ⟨a,rfl,rfl⟩
theorem Rep.snap_inv{cells:List V}(h:Rep γ w bs u (.snap cells) v):∃(B o:Nat) (vs:Nat→Value),v=.pointer (some ⟨B,o,none⟩)∧
   (∀(i:Nat) (c:V),cells[i]?=some c→o+i < γ.lim B∧cellAt w B (o+i)=some (vs i))∧
   (∀(i:Nat) (c:V),cells[i]?=some c→W2 γ.lim w c (vs i)):=by
 cases h with
 | data h=>cases h with|snap _ B o vs h1 h2=>exact⟨B,o,vs,rfl,h1,h2⟩
theorem Rep.fn_inv{f:FuncId}{first captured:List V}(h:Rep γ w bs u (.fn f first captured) v):∃fs cs:List Value,v=.func (.func f) fs.toArray cs.toArray∧
  fs.length=first.length∧cs.length=captured.length∧
   (∀(i:Nat) (c:V) (x:Value),first[i]?=some c→fs[i]?=some x→Rep γ w bs u c x)∧
   (∀(i:Nat) (c:V) (x:Value),captured[i]?=some c→cs[i]?=some x→Rep γ w bs u c x):=by
 cases h with
 | data h=>cases h with|fn _ _ _ fs cs h1 h2 h3 h4=>exact⟨fs,cs,rfl,h1,h2,fun i c x a b=>.data (h3 i c x a b),fun i c x a b=>.data (h4 i c x a b)⟩
 | fn _ _ _ fs cs h1 h2 h3 h4=>exact⟨fs,cs,rfl,h1,h2,h3,h4⟩
end
def intV(op:BinOp)(k:IntKind)(a b:Int):Option V:=
 match op with
 | .add=>some (.int k (k.wrap (a+b)))
 | .sub=>some (.int k (k.wrap (a - b)))
 | .mul=>some (.int k (k.wrap (a * b)))
 | .quo=>if b=0 then none else some (.int k (k.wrap (a.tdiv b)))
 | .rem=>if b=0 then none else some (.int k (a.tmod b))
 | .and=>some (.int k (k.wrap (BitVec.ofInt k.bits a &&& BitVec.ofInt k.bits b).toNat))
 | .or=>some (.int k (k.wrap (BitVec.ofInt k.bits a ||| BitVec.ofInt k.bits b).toNat))
 | .xor=>some (.int k (k.wrap (BitVec.ofInt k.bits a ^^^ BitVec.ofInt k.bits b).toNat))
 | .andNot=>some (.int k (k.wrap (BitVec.ofInt k.bits a &&& ~~~BitVec.ofInt k.bits b).toNat))
 | .eql=>some (.bool (a==b))
 | .neq=>some (.bool (a != b))
 | .lss=>some (.bool (decide (a < b)))
 | .leq=>some (.bool (decide (a≤b)))
 | .gtr=>some (.bool (decide (b < a)))
 | .geq=>some (.bool (decide (b≤a)))
 | _=>none
def shiftV(op:BinOp)(k:IntKind)(a:Int)(b:Int):Option V:=
 if b < 0 then none else
 match op with
 | .shl=>some (.int k (k.wrap (a * 2 ^ (min b.toNat k.bits))))
 | .shr=>some (.int k (a.fdiv (2 ^ (min b.toNat k.bits))))
 | _=>none
theorem toList_beq(a b:ByteArray):(a.toList==b.toList)=decide (a=b):=by
 by_cases hab:a=b
 ·subst hab;simp
 ·rw[ξs hab]
  refine beq_false_of_ne fun h=>hab ?_
  rw[ByteArray.toList_eq,ByteArray.toList_eq] at h
  exact ByteArray.ext (Array.ext' h)
def strV(op:BinOp)(a b:ByteArray):Option V:=
 match op with
 | .add=>if a.size+b.size≤9223372036854775807 then some (.str (a++b)) else none
 | .eql=>some (.bool (decide (a=b)))
 | .neq=>some (.bool (!decide (a=b)))
 | .lss=>some (.bool (Op.bytesLess a.toList b.toList))
 | .leq=>some (.bool (Op.bytesLess a.toList b.toList || decide (a=b)))
 | .gtr=>some (.bool (!(Op.bytesLess a.toList b.toList || decide (a=b))))
 | .geq=>some (.bool (!Op.bytesLess a.toList b.toList))
 | _=>none
theorem run_eqGuard_int(P:Program)(w:World)(op:BinOp)(t:TypeId)(x y:Operand)(k k':IntKind)(a b:Int) :
  (eqGuard op t x y (.int k a) (.int k' b)).run P w=.ok () w:=by
 cases op<;>simp[eqGuard]
theorem run_eqGuard_str(P:Program)(w:World)(op:BinOp)(t:TypeId)(x y:Operand)(a b:ByteArray) :
  (eqGuard op t x y (.string a) (.string b)).run P w=.ok () w:=by
 cases op<;>simp[eqGuard]
theorem run_intV{P:Program}{w:World}{op:BinOp}{t:TypeId}{k:IntKind}{a b:Int}{c:V}(h:intV op k a b=some c) :
  ∃v,(binOp op t (.int k a) (.int k b)).run P w=.ok v w∧∀(lim:Nat→Nat),W2 lim w c v:=by
 cases op<;>simp only[intV] at h
 case add|sub|mul=>simp only[ζa] at h;subst h;exact⟨_,by simp[binOp,Op.intArith],fun _=>.int _ _⟩
 case quo|rem=>
  split at h
  ·simp at h
  ·rename_i hb
   simp only[ζa] at h;subst h
   exact⟨_,by simp[binOp,Op.intDiv,hb],fun _=>.int _ _⟩
 case and|or|xor|andNot=>simp only[ζa] at h;subst h;exact⟨_,by simp[binOp,Op.intBits],fun _=>.int _ _⟩
 case eql|neq|lss|leq|gtr|geq=>simp only[ζa] at h;subst h;exact⟨_,by simp[binOp,Op.intCmp],fun _=>.bool _⟩
 all_goals simp at h
theorem run_shiftV{P:Program}{w:World}{op:BinOp}{t:TypeId}{k yk:IntKind}{a b:Int}{c:V}(h:shiftV op k a b=some c) :
  ∃v,(binOp op t (.int k a) (.int yk b)).run P w=.ok v w∧∀(lim:Nat→Nat),W2 lim w c v:=by
 unfold shiftV at h
 split at h
 ·simp at h
 ·rename_i hb
  cases op<;>simp only[ζa] at h
  case shl|shr=>subst h;exact⟨_,by simp[binOp,Op.shift,hb],fun _=>.int _ _⟩
  all_goals simp at h
theorem run_strV{P:Program}{w:World}{op:BinOp}{t:TypeId}{a b:ByteArray}{c:V}(h:strV op a b=some c) :
  ∃v,(binOp op t (.string a) (.string b)).run P w=.ok v w∧∀(lim:Nat→Nat),W2 lim w c v:=by
 cases op<;>simp only[strV] at h
 case add=>
  split at h
  ·rename_i hs
   simp only[ζa] at h;subst h
   have:¬(((a.size+b.size:Nat):Int) > IntKind.i64.max):=by
    show ¬(((a.size+b.size:Nat):Int) > 9223372036854775807)
    omega
   exact⟨.string (a++b),by simp only[binOp,Op.stringOp,this,if_false];rfl,fun _=>.str _⟩
  ·simp at h
 case eql|neq|lss|leq|gtr|geq=>simp only[ζa] at h;subst h;exact⟨_,by simp only[binOp,Op.stringOp,toList_beq];rfl,fun _=>.bool _⟩
 all_goals simp at h
def V.cellsOf:V→Option (List V)
 | .agg cs=>some cs
 | .tup _=>none
 | .undef=>none
 | c=>some [c]
theorem Rep.oneCell{γ:Gh}{w:World}{bs:Nat→Option Blk}{u:Nat→Bool}{c:V}{v:Value}(h:Rep γ w bs u c v)
  (hu:c≠.undef) (ha:∀cs,c≠.agg cs) (ht:∀cs,c≠.tup cs):v.oneCell'=true:=by
 cases h with
 | data h=>cases h<;>first|rfl|(rename_i h;cases v<;>first|rfl|simp[isIfc] at h)
 | undef=>exact absurd rfl hu
 | ref=>rfl
 | refE=>rfl
 | refN=>rfl
 | deadRef _ _ _ _ _ _ h=>exact h
 | ptr=>rfl
 | deadPtr _ _ _ _ _ _ h=>exact h
 | mp=>rfl
 | deadMp _ _ _ _ h=>exact h
 | fn=>rfl
 | agg cells=>exact absurd rfl (ha cells)
 | tup cells=>exact absurd rfl (ht cells)
theorem cells_of_oneCell{v:Value}(h:v.oneCell'=true):v.cells=#[v]:=by
 cases v<;>simp_all [Value.oneCell',Value.cells]
theorem Rep.cells{γ:Gh}{w:World}{bs:Nat→Option Blk}{u:Nat→Bool}{c:V}{v:Value}(h:Rep γ w bs u c v){cs:List V}(hc:c.cellsOf=some cs) :
  ∃vs:List Value,v.cells=vs.toArray∧vs.length=cs.length∧∀(i:Nat) (d:V) (x:Value),cs[i]?=some d→vs[i]?=some x→Rep γ w bs u d x:=by
 by_cases ha:∃l,c=.agg l
 ·obtain⟨l,rfl⟩:=ha
  simp only[V.cellsOf,ζa] at hc;subst hc
  obtain⟨vs,rfl,h1,h2⟩:=h.agg_inv
  exact⟨vs,rfl,h1,h2⟩
 ·have ht:∀l,c≠.tup l:=by intro l hl;subst hl;simp[V.cellsOf] at hc
  have hu:c≠.undef:=by intro hl;subst hl;simp[V.cellsOf] at hc
  have hcs:cs=[c]:=by
   cases c<;>simp_all [V.cellsOf]
  subst hcs
  have h1:=h.oneCell hu (fun l hl=>ha ⟨l,hl⟩) ht
  refine⟨[v],by rw[cells_of_oneCell h1],rfl,fun i d x hd hx=>?_⟩
  cases i with
  | zero=>simp at hd hx;subst hd;subst hx;exact h
  | succ i=>simp at hd
def partV(P:Program)(t:TypeId)(cells:List V)(off:Nat):Option V:=
 match P.info? t with
 | none=>none
 | some i=>match P.underlying t with
  | none=>none
  | some (.struct _)=>some (.agg ((cells.drop off).take i.size))
  | some (.array _ _)=>some (.agg ((cells.drop off).take i.size))
  | some _=>cells[off]?
theorem H8{P:Program}{w:World}{t:TypeId}{d:TypeDesc}(h:P.underlying t=some d) :
  (isAgg t).run P w=.ok (match d with|.struct _|.array _ _=>true|_=>false) w:=by
 simp only[isAgg,ζT,ζO h,ζQ]
 cases d<;>rfl
theorem run_partV{P:Program}{γ:Gh}{w:World}{bs:Nat→Option Blk}{u:Nat→Bool}{t:TypeId}{cells:List V}{vs:List Value}{off:Nat}{c:V}
  (h:partV P t cells off=some c) (hl:vs.length=cells.length) (hc:∀(i:Nat) (d:V) (x:Value),cells[i]?=some d→vs[i]?=some x→Rep γ w bs u d x) :
  ∃v,(part t vs.toArray off).run P w=.ok v w∧Rep γ w bs u c v:=by
 have agg:∀n,Rep γ w bs u (.agg ((cells.drop off).take n)) (.agg (vs.toArray.extract off (off+n))):=by
  intro n
  have e:vs.toArray.extract off (off+n)=((vs.drop off).take n).toArray:=by simp
  rw[e]
  refine .agg _ _ (by simp[hl]) fun i d x hd hx=>?_
  simp only[ζx,ζy] at hd hx
  split at hd
  ·rename_i hi
   rw[if_pos hi] at hx
   exact hc _ _ _ hd hx
  ·simp at hd
 unfold partV at h
 cases hi:P.info? t with
 | none=>simp[hi] at h
 | some i=>
  cases hu:P.underlying t with
  | none=>simp[hu,hi] at h
  | some d=>
   rw[hu,hi] at h
   cases d<;>simp at h
   case struct fs=>subst h;exact⟨_,by simp[part,H8 hu,sizeOf,typeInfo,hi],agg _⟩
   case array n e=>subst h;exact⟨_,by simp[part,H8 hu,sizeOf,typeInfo,hi],agg _⟩
   all_goals
    obtain⟨hlt,hget⟩:=ζe.1 h
    have hv:vs[off]?=some (vs[off]'(by omega)):=ζd (by omega)
    refine⟨vs[off]'(by omega),?_,hc _ _ _ h hv⟩
    simp[part,H8 hu,hv]
def fieldV(P:Program)(t:TypeId)(c:V)(f:Nat):Option V:=
 match P.underlying t,c with
 | some (.struct fs),.agg cells=>match fs[f]? with
  | some fd=>partV P fd.type cells fd.offset
  | none=>none
 | _,_=>none
theorem run_fieldV{P:Program}{γ:Gh}{w:World}{bs:Nat→Option Blk}{u:Nat→Bool}{t:TypeId}{c d:V}{v:Value}{f:Nat}
  (h:fieldV P t c f=some d) (hr:Rep γ w bs u c v):∃x,(Instr.field t v f).run P w=.ok x w∧Rep γ w bs u d x:=by
 unfold fieldV at h
 split at h
 ·rename_i fs cells hu
  obtain⟨vs,rfl,hl,hc⟩:=hr.agg_inv
  split at h
  ·rename_i fd hf
   obtain⟨x,hx,hd⟩:=run_partV h hl hc
   exact⟨x,by simp[Instr.field,ζO hu,hf,asAgg,hx],hd⟩
  ·simp at h
 ·simp at h
def U4:List V→List V→Option Bool
 | [],[]=>some true
 | .int k a :: xs,.int k' b :: ys=>if k=k' then (U4 xs ys).map fun r=>(a==b)&&r else none
 | .str a :: xs,.str b :: ys=>(U4 xs ys).map fun r=>decide (a=b)&&r
 | .bool a :: xs,.bool b :: ys=>(U4 xs ys).map fun r=>(a==b)&&r
 | _,_=>none
def flatFields(P:Program):List Field→Nat→List V→Bool
  | [],_,[]=>true
  | f :: fs,j,c :: cs=>f.offset==j&&f.name != "_"&&flatFields P fs (j+1) cs &&
    (match P.underlying f.type,c with
     | some (.int _),.int _ _=>true
     | some .string,.str _=>true
     | some .bool,.bool _=>true
     | _,_=>false)
  | _,_,_=>false
def eqAggV(P:Program)(t:TypeId)(xs ys:List V):Option Bool:=
 match P.underlying t with
 | some (.struct fs)=>if flatFields P fs.toList 0 xs&&!P.stoodInHeld t&&!P.eqGuardType P.depth t then U4 xs ys else none
 | _=>none
def W6(P:Program):Nat→List Field→Nat→List V→Bool
 | 0,_,_,_=>false
 | n+1,fs,j,cs=>match fs with
  | []=>cs.isEmpty
  | f :: fs=>f.offset==j&&f.name != "_"&&match P.underlying f.type with
   | some (.struct gs)=>match P.info? f.type with
    | some i=>!P.stoodInHeld f.type&&decide (i.size≤cs.length)&&W6 P n gs.toList 0 (cs.take i.size)&&W6 P n fs (j+i.size) (cs.drop i.size)
    | none=>false
   | some (.int _)=>match cs with
    | .int _ _ :: cs=>W6 P n fs (j+1) cs
    | _=>false
   | some .string=>match cs with
    | .str _ :: cs=>W6 P n fs (j+1) cs
    | _=>false
   | some .bool=>match cs with
    | .bool _ :: cs=>W6 P n fs (j+1) cs
    | _=>false
   | _=>false
theorem C5:∀(m:Nat) (xs ys:List V) (r:Bool),m≤xs.length→U4 xs ys=some r→∃r1 r2,U4 (xs.take m) (ys.take m)=some r1∧U4 (xs.drop m) (ys.drop m)=some r2∧r=(r1&&r2)
 | 0,xs,ys,r,_,h=>⟨true,r,by simp[U4],by simpa using h,by simp⟩
 | m+1,[],ys,r,hm,h=>by simp at hm
 | m+1,x :: xs,ys,r,hm,h=>by
  cases ys with
  | nil=>cases x<;>simp[U4] at h
  | cons y ys=>
   have hm':m≤xs.length:=by simpa using hm
   cases x<;>cases y<;>simp only[U4] at h<;>try (simp at h;done)
   case int.int k a k' b=>
    split at h
    ·rename_i hk
     obtain⟨q,hq,rfl⟩:=ζb.1 h
     obtain⟨r1,r2,h1,h2,rfl⟩:=C5 m xs ys q hm' hq
     exact⟨(a==b)&&r1,r2,by simp[U4,hk,h1],by simpa using h2,by rw[Bool.and_assoc]⟩
    ·simp at h
   case str.str a b=>
    obtain⟨q,hq,rfl⟩:=ζb.1 h
    obtain⟨r1,r2,h1,h2,rfl⟩:=C5 m xs ys q hm' hq
    exact⟨decide (a=b)&&r1,r2,by simp[U4,h1],by simpa using h2,by rw[Bool.and_assoc]⟩
   case bool.bool a b=>
    obtain⟨q,hq,rfl⟩:=ζb.1 h
    obtain⟨r1,r2,h1,h2,rfl⟩:=C5 m xs ys q hm' hq
    exact⟨(a==b)&&r1,r2,by simp[U4,h1],by simpa using h2,by rw[Bool.and_assoc]⟩
theorem eqFlat_len:∀(xs ys:List V) (r:Bool),U4 xs ys=some r→ys.length=xs.length
 | [],[],_,_=>rfl
 | [],y :: ys,_,h=>by simp[U4] at h
 | x :: xs,[],_,h=>by cases x<;>simp[U4] at h
 | x :: xs,y :: ys,r,h=>by
  have key:∀q,U4 xs ys=some q→(y :: ys).length=(x :: xs).length:=fun q hq=>by simp[eqFlat_len xs ys q hq]
  cases x<;>cases y<;>simp only[U4] at h<;>try (simp at h;done)
  case int.int k a k' b=>
   split at h
   ·obtain⟨q,hq,_⟩:=ζb.1 h;exact key q hq
   ·simp at h
  case str.str a b=>obtain⟨q,hq,_⟩:=ζb.1 h;exact key q hq
  case bool.bool a b=>obtain⟨q,hq,_⟩:=ζb.1 h;exact key q hq
theorem run_eqDeep{P:Program}{γ:Gh}{w:World}{bs:Nat→Option Blk}{u:Nat→Bool} :
  ∀(n e:Nat) (xs ys:Array Value) (fs:List Field) (j:Nat) (as bs':List V) (r:Bool),n≤e→W6 P n fs j as=true→U4 as bs'=some r→
   (∀(i:Nat) (c:V),as[i]?=some c→∃v,xs[j+i]?=some v∧Rep γ w bs u c v)→
   (∀(i:Nat) (c:V),bs'[i]?=some c→∃v,ys[j+i]?=some v∧Rep γ w bs u c v)→
   (Op.eqFields e xs ys fs).run P w=.ok r w
 | 0,_,_,_,_,_,_,_,_,_,hf,_,_,_=>by simp[W6] at hf
 | n+1,0,_,_,_,_,_,_,_,hn,_,_,_,_=>by omega
 | n+1,e+1,xs,ys,[],j,as,bs',r,hn,hf,he,_,_=>by
  simp only[W6,List.isEmpty_iff] at hf
  subst hf
  cases bs' with
  | nil=>simp[U4] at he;subst he;simp[Op.eqFields]
  | cons=>simp[U4] at he
 | n+1,e+1,xs,ys,f :: fs,j,as,bs',r,hn,hf,he,hx,hy=>by
  simp only[W6,ζA,beq_iff_eq,bne_iff_ne,ne_eq] at hf
  obtain⟨⟨ho,hname⟩,hk⟩:=hf
  have shift:∀(m:Nat) (zs:Array Value) (cs:List V),(∀(i:Nat) (c:V),cs[i]?=some c→∃v,zs[j+i]?=some v∧Rep γ w bs u c v)→∀(i:Nat) (c:V),(cs.drop m)[i]?=some c→∃v,zs[j+m+i]?=some v∧Rep γ w bs u c v:=fun m zs cs h i c hc=>by
   rw[ζy] at hc
   have:=h (m+i) c hc
   rwa [show j+(m+i)=j+m+i by omega] at this
  have fin:∀(p r':Bool) (x y:Value),(Op.equalIn (e+1) f.type x y).run P w=.ok p w→(Op.eqFields (e+1) xs ys fs).run P w=.ok r' w→r=(p&&r')→
    (part f.type xs f.offset).run P w=.ok x w→(part f.type ys f.offset).run P w=.ok y w→(Op.eqFields (e+1) xs ys (f :: fs)).run P w=.ok r w:=by
   intro p r' x y hp hr' hr px py
   simp only[Op.eqFields,ne_eq,hname,not_false_eq_true,if_true,ζT,px,py,ζQ,hp,Sem.run_ite,ζU]
   cases p
   ·simp[hr]
   ·simp[hr,hr']
  have part1:∀{d:TypeDesc} (zs:Array Value) (z:Value),P.underlying f.type=some d→(∀q,d≠.struct q)→(∀p q,d≠.array p q)→zs[j]?=some z→
    (part f.type zs f.offset).run P w=.ok z w:=by
   intro d zs z hu h1 h2 hz
   cases d<;>first|exact absurd rfl (h1 _)|exact absurd rfl (h2 _ _)|simp[part,H8 hu,ho,hz]
  have rest:∀(m:Nat) (r':Bool),W6 P n fs (j+m) (as.drop m)=true→U4 (as.drop m) (bs'.drop m)=some r'→(Op.eqFields (e+1) xs ys fs).run P w=.ok r' w:=fun m r' h1 h2=>
   run_eqDeep n (e+1) xs ys fs (j+m) (as.drop m) (bs'.drop m) r' (by omega) h1 h2 (shift m xs as hx) (shift m ys bs' hy)
  have zero:∀(zs:Array Value) (a:V) (cs:List V),(∀(i:Nat) (c:V),(a :: cs)[i]?=some c→∃v,zs[j+i]?=some v∧Rep γ w bs u c v)→∃v,zs[j]?=some v∧Rep γ w bs u a v:=fun zs a cs h=>by simpa using h 0 a rfl
  split at hk
  ·
   rename_i gs hu
   split at hk
   rotate_left
   ·simp at hk
   rename_i i hi
   simp only[ζA,ζB,ζF] at hk
   obtain⟨⟨⟨hp,hlen⟩,hin⟩,hrest⟩:=hk
   obtain⟨r1,r2,h1,h2,hr⟩:=C5 i.size as bs' r hlen he
   have hlen':i.size≤bs'.length:=by rw[eqFlat_len _ _ _ he];exact hlen
   have ext:∀(zs:Array Value) (cs:List V),i.size≤cs.length→(∀(q:Nat) (c:V),cs[q]?=some c→∃v,zs[j+q]?=some v∧Rep γ w bs u c v)→∀(q:Nat) (c:V),(cs.take i.size)[q]?=some c→∃v,(zs.extract j (j+i.size))[0+q]?=some v∧Rep γ w bs u c v:=fun zs cs hl h q c hc=>by
    rw[ζx] at hc
    split at hc
    ·rename_i hq
     obtain⟨v,h3,h4⟩:=h q c hc
     refine⟨v,?_,h4⟩
     have hz:=(ζf.1 h3).1
     rw[ξv,Array.getElem?_extract]
     have:q < min (j+i.size) zs.size - j:=by omega
     rw[if_pos this];exact h3
    ·simp at hc
   have hfo:P.fieldsOf f.type=gs:=by simp[Program.fieldsOf,hu]
   have px:∀zs:Array Value,(part f.type zs f.offset).run P w=.ok (.agg (zs.extract j (j+i.size))) w:=fun zs=>by simp[part,H8 hu,sizeOf,typeInfo,hi,ho]
   refine fin r1 r2 _ _ ?_ (rest i.size r2 hrest h2) hr (px xs) (px ys)
   rw[run_equalIn_struct w e f.type _ _ (by rw[hfo];exact hu) hp,hfo]
   exact run_eqDeep n e _ _ gs.toList 0 (as.take i.size) (bs'.take i.size) r1 (by omega) hin h1 (ext xs as hlen hx) (ext ys bs' hlen' hy)
  ·
   rename_i ik hu
   split at hk
   rotate_left
   ·simp at hk
   rename_i k a as
   cases bs' with
   | nil=>simp[U4] at he
   | cons b bs'=>
    cases b<;>simp only[U4] at he<;>try (simp at he;done)
    rename_i k' b
    split at he
    ·rename_i hkk
     subst hkk
     obtain⟨r',hr',hr⟩:=ζb.1 he
     obtain⟨x,hx0,hxr⟩:=zero xs _ _ hx
     obtain⟨y,hy0,hyr⟩:=zero ys _ _ hy
     have:=hxr.int_inv;subst this
     have:=hyr.int_inv;subst this
     exact fin (a==b) r' _ _ (run_equalIn_int w e f.type k _ a b hu) (rest 1 r' hk hr') hr.symm (part1 xs _ hu (by simp) (by simp) hx0) (part1 ys _ hu (by simp) (by simp) hy0)
    ·simp at he
  ·
   rename_i hu
   split at hk
   rotate_left
   ·simp at hk
   rename_i a as
   cases bs' with
   | nil=>simp[U4] at he
   | cons b bs'=>
    cases b<;>simp only[U4] at he<;>try (simp at he;done)
    rename_i b
    obtain⟨r',hr',hr⟩:=ζb.1 he
    obtain⟨x,hx0,hxr⟩:=zero xs _ _ hx
    obtain⟨y,hy0,hyr⟩:=zero ys _ _ hy
    have:=hxr.str_inv;subst this
    have:=hyr.str_inv;subst this
    exact fin (decide (a=b)) r' _ _ (by rw[run_equalIn_string w e f.type a b hu,toList_beq]) (rest 1 r' hk hr') hr.symm (part1 xs _ hu (by simp) (by simp) hx0) (part1 ys _ hu (by simp) (by simp) hy0)
  ·
   rename_i hu
   split at hk
   rotate_left
   ·simp at hk
   rename_i a as
   cases bs' with
   | nil=>simp[U4] at he
   | cons b bs'=>
    cases b<;>simp only[U4] at he<;>try (simp at he;done)
    rename_i b
    obtain⟨r',hr',hr⟩:=ζb.1 he
    obtain⟨x,hx0,hxr⟩:=zero xs _ _ hx
    obtain⟨y,hy0,hyr⟩:=zero ys _ _ hy
    have:=hxr.bool_inv;subst this
    have:=hyr.bool_inv;subst this
    exact fin (a==b) r' _ _ (run_equalIn_bool' w e f.type a b hu) (rest 1 r' hk hr') hr.symm (part1 xs _ hu (by simp) (by simp) hx0) (part1 ys _ hu (by simp) (by simp) hy0)
  ·simp at hk
def eqDeepV(P:Program)(t:TypeId)(xs ys:List V):Option Bool:=
 match P.underlying t with
 | some (.struct fs)=>if W6 P 100 fs.toList 0 xs&&!P.stoodInHeld t&&!P.eqGuardType P.depth t then U4 xs ys else none
 | _=>none
theorem run_eqDeepV{P:Program}{γ:Gh}{w:World}{bs:Nat→Option Blk}{u:Nat→Bool}{t:TypeId}{xs ys:List V}{r:Bool}(h:eqDeepV P t xs ys=some r)
  {x y:Value} (hx:Rep γ w bs u (.agg xs) x) (hy:Rep γ w bs u (.agg ys) y) (ox oy:Operand) :
  (do eqGuard .eql t ox oy x y; binOp .eql t x y).run P w = .ok (.bool r) w ∧ (do eqGuard .neq t ox oy x y; binOp .neq t x y).run P w = .ok (.bool (!r)) w := by
 unfold eqDeepV at h
 split at h
 ·rename_i fs hu
  split at h
  ·rename_i hc
   simp only[ζA,ζB] at hc
   obtain⟨⟨hf,hp⟩,hg⟩:=hc
   obtain⟨vx,rfl,lx,cx⟩:=hx.agg_inv
   obtain⟨vy,rfl,ly,cy⟩:=hy.agg_inv
   have hfo:P.fieldsOf t=fs:=by simp[Program.fieldsOf,hu]
   have e:(Op.equalIn 10000 t (.agg vx.toArray) (.agg vy.toArray)).run P w=.ok r w:=by
    rw[show (10000:Nat)=9999+1 from rfl,run_equalIn_struct w 9999 t _ _ (by rw[hfo];exact hu) hp,hfo]
    refine run_eqDeep (γ:=γ) (bs:=bs) (u:=u) 100 9999 _ _ fs.toList 0 xs ys r (by omega) hf h ?_ ?_
    ·intro i c hc
     obtain⟨hlt,_⟩:=ζe.1 hc
     have hv:vx[i]?=some (vx[i]'(by omega)):=ζd (by omega)
     exact⟨_,by simp,cx i c _ hc hv⟩
    ·intro i c hc
     obtain⟨hlt,_⟩:=ζe.1 hc
     have hv:vy[i]?=some (vy[i]'(by omega)):=ζd (by omega)
     exact⟨_,by simp,cy i c _ hc hv⟩
   constructor
   ·rw[ζT,run_eqGuard_agg w .eql t ox oy _ _ hg,ζQ,run_eql_struct,e];rfl
   ·rw[ζT,run_eqGuard_agg w .neq t ox oy _ _ hg,ζQ,run_neq_struct,e];rfl
  ·simp at h
 ·simp at h
def I0(P:Program)(e:TypeId)(c:V):Bool:=match P.underlying e,c with
 | some (.int _),.int _ _=>true
 | some .string,.str _=>true
 | some .bool,.bool _=>true
 | _,_=>false
def eqArrV(P:Program)(t:TypeId)(xs ys:List V):Option Bool:=
 match P.underlying t with
 | some (.array n e)=>if decide (xs.length=n)&&xs.all (I0 P e)&&decide (P.cellsOf e=1)&&(P.info? e).isSome&&!P.eqGuardType P.depth t then U4 xs ys else none
 | _=>none
theorem part_cell{P:Program}{w:World}{e:TypeId}{c:V}(hf:I0 P e c=true){zs:Array Value}{j:Nat}{z:Value}(hz:zs[j]?=some z):(part e zs j).run P w=.ok z w:=by
 unfold I0 at hf
 split at hf
 ·rename_i hu;simp[part,H8 hu,hz]
 ·rename_i hu;simp[part,H8 hu,hz]
 ·rename_i hu;simp[part,H8 hu,hz]
 ·simp at hf
theorem run_eqItemsV{P:Program}{γ:Gh}{w:World}{bs:Nat→Option Blk}{u:Nat→Bool}(d:Nat)(e:TypeId)(xs ys:Array Value) :
  ∀(as bs':List V) (j:Nat) (r:Bool),as.all (I0 P e)=true→U4 as bs'=some r→
   (∀(i:Nat) (c:V),as[i]?=some c→∃v,xs[j+i]?=some v∧Rep γ w bs u c v)→
   (∀(i:Nat) (c:V),bs'[i]?=some c→∃v,ys[j+i]?=some v∧Rep γ w bs u c v)→
   (Op.eqItems (d+1) e 1 xs ys (List.range' j as.length)).run P w=.ok r w
 | [],bs',j,r,_,he,_,_=>by
  cases bs' with
  | nil=>simp[U4] at he;subst he;simp[Op.eqItems]
  | cons=>simp[U4] at he
 | a :: as,bs',j,r,hf,he,hx,hy=>by
  cases bs' with
  | nil=>cases a<;>simp[U4] at he
  | cons b bs'=>
   simp only[List.all_cons,ζA] at hf
   obtain⟨hfa,hfr⟩:=hf
   obtain⟨x,hx0,hxr⟩:=hx 0 a rfl
   obtain⟨y,hy0,hyr⟩:=hy 0 b rfl
   simp only[Nat.add_zero] at hx0 hy0
   have hx':∀(i:Nat) (c:V),as[i]?=some c→∃v,xs[j+1+i]?=some v∧Rep γ w bs u c v:=fun i c hc=>by
    have:=hx (i+1) c (by simpa using hc)
    rwa [show j+(i+1)=j+1+i by omega] at this
   have hy':∀(i:Nat) (c:V),bs'[i]?=some c→∃v,ys[j+1+i]?=some v∧Rep γ w bs u c v:=fun i c hc=>by
    have:=hy (i+1) c (by simpa using hc)
    rwa [show j+(i+1)=j+1+i by omega] at this
   have px:(part e xs (j * 1)).run P w=.ok x w:=by rw[Nat.mul_one];exact part_cell hfa hx0
   have py:(part e ys (j * 1)).run P w=.ok y w:=by rw[Nat.mul_one];exact part_cell hfa hy0
   have fin:∀p,(Op.equalIn (d+1) e x y).run P w=.ok p w→(∃r',U4 as bs'=some r'∧r=(p&&r'))→(Op.eqItems (d+1) e 1 xs ys (List.range' j (a :: as).length)).run P w=.ok r w:=by
    intro p hp ⟨r',hr',hr⟩
    have ih:=run_eqItemsV (γ:=γ) (w:=w) (bs:=bs) (u:=u) d e xs ys as bs' (j+1) r' hfr hr' hx' hy'
    rw[ξj,List.range'_succ]
    simp only[Op.eqItems,ζT,px,py,ζQ,hp]
    cases p
    ·simp[hr]
    ·simp[hr,ih]
   cases a<;>cases b<;>simp only[U4] at he<;>try (simp at he;done)
   case int.int k m k' m'=>
    split at he
    ·rename_i hkk
     subst hkk
     obtain⟨r',hr',hr⟩:=ζb.1 he
     have:=hxr.int_inv;subst this
     have:=hyr.int_inv;subst this
     cases hu:P.underlying e with
     | none=>simp[I0,hu] at hfa
     | some dd=>
      cases dd<;>simp[I0,hu] at hfa
      exact fin (m==m') (run_equalIn_int w d e k _ m m' hu) ⟨r',hr',hr.symm⟩
    ·simp at he
   case str.str m m'=>
    obtain⟨r',hr',hr⟩:=ζb.1 he
    have:=hxr.str_inv;subst this
    have:=hyr.str_inv;subst this
    cases hu:P.underlying e with
    | none=>simp[I0,hu] at hfa
    | some dd=>
     cases dd<;>simp[I0,hu] at hfa
     exact fin (decide (m=m')) (by rw[run_equalIn_string w d e m m' hu,toList_beq]) ⟨r',hr',hr.symm⟩
   case bool.bool m m'=>
    obtain⟨r',hr',hr⟩:=ζb.1 he
    have:=hxr.bool_inv;subst this
    have:=hyr.bool_inv;subst this
    cases hu:P.underlying e with
    | none=>simp[I0,hu] at hfa
    | some dd=>
     cases dd<;>simp[I0,hu] at hfa
     exact fin (m==m') (run_equalIn_bool' w d e m m' hu) ⟨r',hr',hr.symm⟩
theorem run_equal_arr{P:Program}{γ:Gh}{w:World}{bs:Nat→Option Blk}{u:Nat→Bool}{t:TypeId}{xs ys:List V}{r:Bool}(h:eqArrV P t xs ys=some r)
  {x y:Value} (hx:Rep γ w bs u (.agg xs) x) (hy:Rep γ w bs u (.agg ys) y):(Op.equal t x y).run P w=.ok r w:=by
 unfold eqArrV at h
 split at h
 ·rename_i n e hu
  split at h
  ·rename_i hc
   simp only[ζA,ζB,ζF] at hc
   obtain⟨⟨⟨⟨hn,hf⟩,h1⟩,hi⟩,hg⟩:=hc
   obtain⟨i,hi⟩:=Option.isSome_iff_exists.1 hi
   obtain⟨vx,rfl,lx,cx⟩:=hx.agg_inv
   obtain⟨vy,rfl,ly,cy⟩:=hy.agg_inv
   show (Op.equalIn 10000 t (.agg vx.toArray) (.agg vy.toArray)).run P w=.ok r w
   rw[show (10000:Nat)=9998+1+1 from rfl,run_equalIn_array w (9998+1) _ _ hu hi,h1,List.range_eq_range',←hn]
   refine run_eqItemsV (γ:=γ) (bs:=bs) (u:=u) 9998 e _ _ xs ys 0 r hf h ?_ ?_
   ·intro i c hc
    obtain⟨hlt,_⟩:=ζe.1 hc
    have hv:vx[i]?=some (vx[i]'(by omega)):=ζd (by omega)
    exact⟨_,by simp,cx i c _ hc hv⟩
   ·intro i c hc
    obtain⟨hlt,_⟩:=ζe.1 hc
    have hv:vy[i]?=some (vy[i]'(by omega)):=ζd (by omega)
    exact⟨_,by simp,cy i c _ hc hv⟩
  ·simp at h
 ·simp at h
theorem run_eqArrV{P:Program}{γ:Gh}{w:World}{bs:Nat→Option Blk}{u:Nat→Bool}{t:TypeId}{xs ys:List V}{r:Bool}(h:eqArrV P t xs ys=some r)
  {x y:Value} (hx:Rep γ w bs u (.agg xs) x) (hy:Rep γ w bs u (.agg ys) y) (ox oy:Operand) :
  (do eqGuard .eql t ox oy x y; binOp .eql t x y).run P w = .ok (.bool r) w ∧ (do eqGuard .neq t ox oy x y; binOp .neq t x y).run P w = .ok (.bool (!r)) w := by
 have e:=run_equal_arr h hx hy
 unfold eqArrV at h
 split at h
 ·split at h
  ·rename_i hc
   simp only[ζA,ζB,ζF] at hc
   obtain⟨vx,rfl,lx,cx⟩:=hx.agg_inv
   obtain⟨vy,rfl,ly,cy⟩:=hy.agg_inv
   have e:(Op.equalIn 10000 t (.agg vx.toArray) (.agg vy.toArray)).run P w=.ok r w:=e
   constructor
   ·rw[ζT,run_eqGuard_agg w .eql t ox oy _ _ hc.2,ζQ,run_eql_struct,e];rfl
   ·rw[ζT,run_eqGuard_agg w .neq t ox oy _ _ hc.2,ζQ,run_neq_struct,e];rfl
  ·simp at h
 ·simp at h
def eqAnyV(P:Program)(t:TypeId)(xs ys:List V):Option Bool:=
 match P.underlying t with
 | some (.array _ _)=>eqArrV P t xs ys
 | _=>eqDeepV P t xs ys
theorem run_eqAnyV{P:Program}{γ:Gh}{w:World}{bs:Nat→Option Blk}{u:Nat→Bool}{t:TypeId}{xs ys:List V}{r:Bool}(h:eqAnyV P t xs ys=some r)
  {x y:Value} (hx:Rep γ w bs u (.agg xs) x) (hy:Rep γ w bs u (.agg ys) y) (ox oy:Operand) :
  (do eqGuard .eql t ox oy x y; binOp .eql t x y).run P w = .ok (.bool r) w ∧ (do eqGuard .neq t ox oy x y; binOp .neq t x y).run P w = .ok (.bool (!r)) w := by
 unfold eqAnyV at h
 split at h
 ·exact run_eqArrV h hx hy ox oy
 ·exact run_eqDeepV h hx hy ox oy
theorem run_checkItems{P:Program}{w:World}(em:Bool)(n:Nat)(e:TypeId)(zs:Array Value){q:TypeInfo}(hi:P.info? e=some q)(h1:P.cellsOf e=1) :
  ∀(as:List V) (j:Nat),as.all (I0 P e)=true→j+as.length≤zs.size→
   (forIn (List.range' j as.length) PUnit.unit (fun i _ => (do
     let s ←sizeOf e
     let c ←part e zs (i * s)
     Instr.checkKey em (n+1) e c
     pure (ForInStep.yield PUnit.unit))):Sem PUnit).run P w=.ok PUnit.unit w
 | [],j,_,_=>by simp
 | a :: as,j,hf,hl=>by
  simp only[List.all_cons,ζA] at hf
  simp only[ξj] at hl
  have hz:zs[j]?=some (zs[j]'(by omega)):=ζg (by omega)
  have px:(part e zs (j * 1)).run P w=.ok (zs[j]'(by omega)) w:=by rw[Nat.mul_one];exact part_cell hf.1 hz
  have ck:(Instr.checkKey em (n+1) e (zs[j]'(by omega))).run P w=.ok () w:=by
   have hfa:=hf.1
   unfold I0 at hfa
   split at hfa
   ·rename_i hu;simp[Instr.checkKey,ζO hu]
   ·rename_i hu;simp[Instr.checkKey,ζO hu]
   ·rename_i hu;simp[Instr.checkKey,ζO hu]
   ·simp at hfa
  have ih:=run_checkItems (P:=P) (w:=w) em n e zs hi h1 as (j+1) hf.2 (by omega)
  rw[ξj,List.range'_succ]
  simp only[List.forIn_cons,ζT,run_sizeOf w hi,h1,px,ck,ζQ,ζU]
  exact ih
section
variable {γ:Gh} {w:World} {bs:Nat→Option Blk} {u:Nat→Bool} {v:Value}
theorem Rep.ref_inv{b off len:Nat}{k:Blk}(h:Rep γ w bs u (.ref b off len) v)(hk:bs b=some k) :
  (∃B o cap,v=.slice (some ⟨B,o+off * k.size,none⟩) len cap∧γ.loc b=some (B,o)∧off+len≤k.rows.length∧len≤cap∧RoomAt w B (o+(off+cap) * k.size)∧k.size < W9∧k.rows.length≤off+cap)∨
   (∃B,v=.slice (some B) 0 0∧len=0∧k.rows.length=off∧k.size < W9)∨(v=.slice none 0 0∧len=0∧k.rows.length=off∧k.size < W9):=by
 cases h with
 | data h=>cases h
 | ref _ _ _ B o cap k' h1 h2 h3 h4 h5 h6 h7=>
  rw[hk] at h1;simp only[ζa] at h1;subst h1
  exact .inl ⟨B,o,cap,rfl,h2,h3,h4,h5,h6,h7⟩
 | refE _ _ B k' h1 h6 h2=>
  rw[hk] at h1;simp only[ζa] at h1;subst h1
  exact .inr (.inl ⟨B,rfl,rfl,h2,h6⟩)
 | refN _ _ k' h1 h6 h2=>
  rw[hk] at h1;simp only[ζa] at h1;subst h1
  exact .inr (.inr ⟨rfl,rfl,h2,h6⟩)
 | deadRef _ _ _ _ h1=>rw[hk] at h1;simp at h1
theorem Rep.ptr_inv{b i off:Nat}{k:Blk}(h:Rep γ w bs u (.ptr b i off) v)(hk:bs b=some k) :
  ∃B o,v=.pointer (some ⟨B,o+(i * k.size+off),none⟩)∧γ.loc b=some (B,o):=by
 cases h with
 | data h=>cases h
 | ptr _ _ _ B o k' h1 h2=>
  rw[hk] at h1;simp only[ζa] at h1;subst h1
  exact⟨B,o,rfl,h2⟩
 | deadPtr _ _ _ _ h1=>rw[hk] at h1;simp at h1
theorem Rep.ptr_small{b i off:Nat}{k:Blk}(h:Rep γ w bs u (.ptr b i off) v)(hk:bs b=some k):k.size < W9:=by
 cases h with
 | data h=>cases h
 | ptr _ _ _ B o k' h1 h2 h3=>
  rw[hk] at h1;simp only[ζa] at h1;subst h1
  exact h3
 | deadPtr _ _ _ _ h1=>rw[hk] at h1;simp at h1
theorem Rep.mp_inv{b:Nat}{k:Blk}(h:Rep γ w bs u (.mp b) v)(hk:bs b=some k):∃B,v=.map (some B)∧γ.loc b=some (B,0)∧W9≤k.size:=by
 cases h with
 | data h=>cases h
 | mp _ B k' h1 h2 h3=>
  rw[hk] at h1;simp only[ζa] at h1;subst h1
  exact⟨B,rfl,h2,h3⟩
 | deadMp _ _ h1=>rw[hk] at h1;simp at h1
theorem MapAt.small{γ:Gh}{w:World}{bs:Nat→Option Blk}{u:Nat→Bool}{b:Nat}{k:Blk}(h:MapAt γ w bs u b k)(hz:k.size < W9):False:=Nat.not_le_of_lt hz h.1
end
theorem Addr.add_eq(B o n:Nat):(⟨B,o,none⟩:Addr).add n=⟨B,o+n,none⟩:=by
 unfold Addr.add;split
 ·rename_i h;subst h;rfl
 ·rfl
theorem J7{s:Nat}:∀(rows:List (List V)) (_:∀r,r∈rows→r.length=s) (i j:Nat),j < s→rows.flatten[i * s+j]?=(rows[i]?).bind (·[j]?)
 | [],_,i,j,_=>by simp
 | r :: rows,h,i,j,hj=>by
  have hr:=h r (by simp)
  cases i with
  | zero=>simp[ζl (show j < r.length by omega)]
  | succ i=>
   have ih:=J7 rows (fun q hq=>h q (by simp[hq])) i j hj
   rw[List.flatten_cons,ζm (by rw[hr,ξp];omega),hr]
   rw[show (i+1) * s+j - s=i * s+j by rw[ξp];omega,ih]
   simp
def isPtrT(P:Program)(t:TypeId):Bool:=match P.underlying t with|some (.pointer _)=>true|_=>false
def N8(P:Program)(t:TypeId):Bool:=match P.underlying t with|some (.slice _)=>true|_=>false
def isFuncT(P:Program)(t:TypeId):Bool:=match P.underlying t with|some (.func _ _ _)=>true|_=>false
def isBoolT(P:Program)(t:TypeId):Bool:=match P.underlying t with|some .bool=>true|_=>false
def eqV(P:Program)(look:Nat→Option Blk)(t:TypeId)(x y:V):Option Bool:=
 match x,y with
 | .bool a,.bool b=>if isBoolT P t then some (a==b) else none
 | .nilp,.nilp=>if isPtrT P t then some true else none
 | .snap _,.nilp=>if isPtrT P t then some false else none
 | .ptr b _ _,.nilp=>if isPtrT P t&&(look b).isSome then some false else none
 | .nilsl,.nilsl=>if N8 P t then some true else none
 | .sl _ _ (_ :: _),.nilsl=>if N8 P t then some false else none
 | .ref b _ (_+1),.nilsl=>if N8 P t&&(look b).isSome then some false else none
 | .nilf,.nilf=>if isFuncT P t then some true else none
 | .fn _ _ _,.nilf=>if isFuncT P t then some false else none
 | _,_=>none
theorem M8{P:Program}{w:World}{t:TypeId}{x y:Value}{r:Bool}(ox oy:Operand)(hq:∀op,(eqGuard op t ox oy x y).run P w=.ok () w)
  (he0 : ∀ d, (Op.equalIn (d + 1) t x y).run P w = .ok r w) (hb : binOp .eql t x y = (do pure (.bool (← Op.equal t x y)))) (hb' : binOp .neq t x y = (do pure (.bool (!(← Op.equal t x y))))) :
  (do eqGuard .eql t ox oy x y; binOp .eql t x y).run P w = .ok (.bool r) w ∧ (do eqGuard .neq t ox oy x y; binOp .neq t x y).run P w = .ok (.bool (!r)) w := by
 have he:(Op.equal t x y).run P w=.ok r w:=he0 9999
 constructor
 ·rw[ζT,hq,ζQ,hb];simp[he]
 ·rw[ζT,hq,ζQ,hb'];simp[he]
theorem run_eqV{P:Program}{γ:Gh}{w:World}{bs:Nat→Option Blk}{u:Nat→Bool}{t:TypeId}{x y:V}{r:Bool}(h:eqV P bs t x y=some r)
  {vx vy:Value} (hx:Rep γ w bs u x vx) (hy:Rep γ w bs u y vy) (ox oy:Operand) :
  (do eqGuard .eql t ox oy vx vy; binOp .eql t vx vy).run P w = .ok (.bool r) w ∧ (do eqGuard .neq t ox oy vx vy; binOp .neq t vx vy).run P w = .ok (.bool (!r)) w := by
 unfold eqV at h
 split at h
 ·split at h
  ·rename_i a b ht
   simp only[ζa] at h;subst h
   have:=hx.bool_inv;subst this
   have:=hy.bool_inv;subst this
   have hu:P.underlying t=some .bool:=by unfold isBoolT at ht;split at ht<;>simp_all
   exact M8 ox oy (fun op=>by cases op<;>simp[eqGuard]) (fun d=>by simp[Op.equalIn,ζO hu]) rfl rfl
  ·simp at h
 ·split at h
  ·rename_i ht
   simp only[ζa] at h;subst h
   have:=hx.nilp_inv;subst this
   have:=hy.nilp_inv;subst this
   obtain⟨e,hu⟩:∃e,P.underlying t=some (.pointer e):=by unfold isPtrT at ht;split at ht<;>simp_all
   exact M8 ox oy (fun op=>by cases op<;>simp[eqGuard]) (fun d=>by simp[Op.equalIn,ζO hu]) rfl rfl
  ·simp at h
 ·split at h
  ·rename_i cells ht
   simp only[ζa] at h;subst h
   obtain⟨B,o,vs,rfl,-,-⟩:=hx.snap_inv
   have:=hy.nilp_inv;subst this
   obtain⟨e,hu⟩:∃e,P.underlying t=some (.pointer e):=by unfold isPtrT at ht;split at ht<;>simp_all
   exact M8 ox oy (fun op=>by cases op<;>simp[eqGuard]) (fun d=>by simp[Op.equalIn,ζO hu]) rfl rfl
  ·simp at h
 ·split at h
  ·rename_i b i off ht
   simp only[ζa] at h;subst h
   simp only[ζA,Option.isSome_iff_exists] at ht
   obtain⟨ht,k,hk⟩:=ht
   obtain⟨B,o,rfl,-⟩:=hx.ptr_inv hk
   have:=hy.nilp_inv;subst this
   obtain⟨e,hu⟩:∃e,P.underlying t=some (.pointer e):=by unfold isPtrT at ht;split at ht<;>simp_all
   exact M8 ox oy (fun op=>by cases op<;>simp[eqGuard]) (fun d=>by simp[Op.equalIn,ζO hu]) rfl rfl
  ·simp at h
 ·split at h
  ·rename_i ht
   simp only[ζa] at h;subst h
   have:=hx.nilsl_inv;subst this
   have:=hy.nilsl_inv;subst this
   obtain⟨e,hu⟩:∃e,P.underlying t=some (.slice e):=by unfold N8 at ht;split at ht<;>simp_all
   exact M8 ox oy (fun op=>by cases op<;>simp[eqGuard]) (fun d=>by simp[Op.equalIn,ζO hu]) rfl rfl
  ·simp at h
 ·split at h
  ·rename_i ht
   simp only[ζa] at h;subst h
   obtain⟨_,-,hx0⟩|⟨B,o,cap,vs,rfl,-,-,-,-⟩:=hx.sl_inv
   ·simp at hx0
   have:=hy.nilsl_inv;subst this
   obtain⟨e,hu⟩:∃e,P.underlying t=some (.slice e):=by unfold N8 at ht;split at ht<;>simp_all
   exact M8 ox oy (fun op=>by cases op<;>simp[eqGuard]) (fun d=>by simp[Op.equalIn,ζO hu]) rfl rfl
  ·simp at h
 ·split at h
  ·rename_i b off len ht
   simp only[ζa] at h;subst h
   simp only[ζA,Option.isSome_iff_exists] at ht
   obtain⟨ht,k,hk⟩:=ht
   have:=hy.nilsl_inv;subst this
   obtain⟨e,hu⟩:∃e,P.underlying t=some (.slice e):=by unfold N8 at ht;split at ht<;>simp_all
   rcases hx.ref_inv hk with⟨B,o,cap,rfl,-⟩|⟨B,_,h0,-⟩|⟨-,h0,-⟩
   rotate_left
   ·simp at h0
   ·simp at h0
   exact M8 ox oy (fun op=>by cases op<;>simp[eqGuard]) (fun d=>by simp[Op.equalIn,ζO hu]) rfl rfl
  ·simp at h
 ·split at h
  ·rename_i ht
   simp only[ζa] at h;subst h
   have:=hx.nilf_inv;subst this
   have:=hy.nilf_inv;subst this
   obtain⟨a,b,c,hu⟩:∃a b c,P.underlying t=some (.func a b c):=by unfold isFuncT at ht;split at ht<;>simp_all
   exact M8 ox oy (fun op=>by cases op<;>simp[eqGuard]) (fun d=>by simp[Op.equalIn,ζO hu]) rfl rfl
  ·simp at h
 ·split at h
  ·rename_i ht
   simp only[ζa] at h;subst h
   obtain⟨fs,cs,rfl,-⟩:=hx.fn_inv
   have:=hy.nilf_inv;subst this
   obtain⟨a,b,c,hu⟩:∃a b c,P.underlying t=some (.func a b c):=by unfold isFuncT at ht;split at ht<;>simp_all
   exact M8 ox oy (fun op=>by cases op<;>simp[eqGuard]) (fun d=>by simp[Op.equalIn,ζO hu]) rfl rfl
  ·simp at h
 ·simp at h
def binV(P:Program)(look:Nat→Option Blk)(op:BinOp)(t:TypeId)(x y:V):Option V:=
 match x,y with
 | .int k a,.int k' b=>match op with
  | .shl|.shr=>shiftV op k a b
  | _=>if k=k' then intV op k a b else none
 | .str a,.str b=>strV op a b
 | .agg xs,.agg ys=>match op with
  | .eql=>(eqAnyV P t xs ys).map .bool
  | .neq=>(eqAnyV P t xs ys).map fun r=>.bool (!r)
  | _=>none
 | x,y=>match op with
  | .eql=>(eqV P look t x y).map .bool
  | .neq=>(eqV P look t x y).map fun r=>.bool (!r)
  | _=>none
theorem run_binV{P:Program}{γ:Gh}{w:World}{bs:Nat→Option Blk}{u:Nat→Bool}{op:BinOp}{t:TypeId}{x y c:V}(h:binV P bs op t x y=some c)
  {vx vy:Value} (hx:Rep γ w bs u x vx) (hy:Rep γ w bs u y vy) (ox oy:Operand) :
  ∃ v, (do eqGuard op t ox oy vx vy; binOp op t vx vy).run P w = .ok v w ∧ Rep γ w bs u c v := by
 unfold binV at h
 split at h
 ·rename_i k a k' b
  have:=hx.int_inv;subst this
  have:=hy.int_inv;subst this
  have key : ∀ {v}, (binOp op t (.int k a) (.int k' b)).run P w = .ok v w → (do eqGuard op t ox oy (.int k a) (.int k' b); binOp op t (.int k a) (.int k' b)).run P w = .ok v w := by
   intro v hv;rw[ζT,run_eqGuard_int,ζQ,hv]
  split at h
  ·obtain⟨v,h1,h2⟩:=run_shiftV (P:=P) (w:=w) (t:=t) (yk:=k') h
   exact⟨v,key h1,.data (h2 _)⟩
  ·obtain⟨v,h1,h2⟩:=run_shiftV (P:=P) (w:=w) (t:=t) (yk:=k') h
   exact⟨v,key h1,.data (h2 _)⟩
  ·split at h
   ·rename_i hkk;subst hkk
    obtain⟨v,h1,h2⟩:=run_intV (P:=P) (w:=w) (t:=t) h
    exact⟨v,key h1,.data (h2 _)⟩
   ·simp at h
 ·rename_i a b
  have:=hx.str_inv;subst this
  have:=hy.str_inv;subst this
  obtain⟨v,h1,h2⟩:=run_strV (P:=P) (w:=w) (t:=t) h
  exact⟨v,by rw[ζT,run_eqGuard_str,ζQ,h1],.data (h2 _)⟩
 ·rename_i xs ys
  split at h
  ·obtain⟨r,hr,rfl⟩:=ζb.1 h
   exact⟨_,(run_eqAnyV hr hx hy ox oy).1,.data (.bool _)⟩
  ·obtain⟨r,hr,rfl⟩:=ζb.1 h
   exact⟨_,(run_eqAnyV hr hx hy ox oy).2,.data (.bool _)⟩
  ·simp at h
 ·split at h
  ·obtain⟨r,hr,rfl⟩:=ζb.1 h
   exact⟨_,(run_eqV hr hx hy ox oy).1,.data (.bool _)⟩
  ·obtain⟨r,hr,rfl⟩:=ζb.1 h
   exact⟨_,(run_eqV hr hx hy ox oy).2,.data (.bool _)⟩
  ·simp at h
def unV(op:UnOp)(x:V):Option V:=
 match op,x with
 | .neg,.int k n=>some (.int k (k.wrap (0 - n)))
 | .xor,.int k n=>intV .xor k (if k.signed then -1 else k.max) n
 | .not,.bool b=>some (.bool (!b))
 | _,_=>none
theorem run_unV{P:Program}{γ:Gh}{w:World}{bs:Nat→Option Blk}{u:Nat→Bool}{op:UnOp}{x c:V}(h:unV op x=some c){vx:Value}(hx:Rep γ w bs u x vx) :
  ∃v,(Op.unary op vx).run P w=.ok v w∧Rep γ w bs u c v:=by
 unfold unV at h
 split at h
 ·have:=hx.int_inv;subst this
  simp only[ζa] at h;subst h
  exact⟨_,by simp[Op.unary,Op.intArith],.data (.int _ _)⟩
 ·have:=hx.int_inv;subst this
  simp only[intV,ζa] at h;subst h
  exact⟨_,by simp[Op.unary,Op.intBits],.data (.int _ _)⟩
 ·have:=hx.bool_inv;subst this
  simp only[ζa] at h;subst h
  exact⟨_,by simp[Op.unary],.data (.bool _)⟩
 ·simp at h
def convV(P:Program)(src dst:TypeId)(x:V):Option V:=
 match P.underlying src,P.underlying dst,x with
 | some _,some (.int k),.int _ n=>some (.int k (k.wrap n))
 | some _,some .string,.str s=>some (.str s)
 | _,_,_=>none
theorem run_convV{P:Program}{γ:Gh}{w:World}{bs:Nat→Option Blk}{u:Nat→Bool}{s d:TypeId}{x c:V}(h:convV P s d x=some c){vx:Value}(hx:Rep γ w bs u x vx) :
  ∃v,(convert s d vx).run P w=.ok v w∧Rep γ w bs u c v:=by
 unfold convV at h
 split at h
 ·rename_i ds k k' n hs hd
  have:=hx.int_inv;subst this
  simp only[ζa] at h;subst h
  exact⟨_,by simp[convert,ζO hs,ζO hd,Conv.intToInt],.data (.int _ _)⟩
 ·rename_i ds st hs hd
  have:=hx.str_inv;subst this
  simp only[ζa] at h;subst h
  exact⟨_,by cases ds<;>simp[convert,ζO hs,ζO hd],.data (.str _)⟩
 ·simp at h
def L9(γ:Gh)(w:World)(bs:Nat→Option Blk)(u:Nat→Bool)(B o:Nat)(cells:List V):Prop:=
 ∀(j:Nat) (c:V),cells[j]?=some c→∃v,cellAt w B (o+j)=some v∧Rep γ w bs u c v
theorem L9.drop{γ:Gh}{w:World}{bs:Nat→Option Blk}{u:Nat→Bool}{B o:Nat}{cells:List V}(h:L9 γ w bs u B o cells)(n:Nat) :
  L9 γ w bs u B (o+n) (cells.drop n):=fun j c hc=>by
 rw[ζy] at hc
 obtain⟨v,h1,h2⟩:=h (n+j) c hc
 exact⟨v,by rw[show o+n+j=o+(n+j) by omega];exact h1,h2⟩
theorem L9.list{γ:Gh}{w:World}{bs:Nat→Option Blk}{u:Nat→Bool}{B o:Nat}{cells:List V}(h:L9 γ w bs u B o cells) :
  ∃vs:List Value,vs.length=cells.length∧(∀(j:Nat) (v:Value),vs[j]?=some v→cellAt w B (o+j)=some v)∧
   ∀(j:Nat) (c:V) (v:Value),cells[j]?=some c→vs[j]?=some v→Rep γ w bs u c v:=by
 induction cells generalizing o with
 | nil=>exact⟨[],rfl,fun j v h=>by simp at h,fun j c v h=>by simp at h⟩
 | cons c cells ih=>
  obtain⟨v,h1,h2⟩:=h 0 c rfl
  have hd:L9 γ w bs u B (o+1) cells:=h.drop 1
  obtain⟨vs,l1,l2,l3⟩:=ih hd
  refine⟨v :: vs,by simp[l1],fun j x hx=>?_,fun j d x hd hx=>?_⟩
  ·cases j with
   | zero=>simp at hx;subst hx;exact h1
   | succ j=>have:=l2 j x (by simpa using hx);rw[show o+(j+1)=o+1+j by omega];exact this
  ·cases j with
   | zero=>simp at hd hx;subst hd;subst hx;exact h2
   | succ j=>exact l3 j d x (by simpa using hd) (by simpa using hx)
def O9(P:Program)(t:TypeId)(cells:List V):Option V:=
 match P.info? t with
 | none=>none
 | some i=>match P.underlying t with
  | none=>none
  | some (.struct _)=>if i.size≤cells.length then some (.agg (cells.take i.size)) else none
  | some (.array _ _)=>if i.size≤cells.length then some (.agg (cells.take i.size)) else none
  | some _=>cells[0]?
theorem run_loadAgg{P:Program}{γ:Gh}{w:World}{bs:Nat→Option Blk}{u:Nat→Bool}{B o n:Nat}{cells:List V}(h:L9 γ w bs u B o cells)(hn:n≤cells.length) :
  ∃vs:Array Value,(loadCells ⟨B,o,none⟩ n).run P w=.ok vs w∧Rep γ w bs u (.agg (cells.take n)) (.agg vs):=by
 obtain⟨vs,l1,l2,l3⟩:=h.list
 refine⟨(vs.take n).toArray,?_,.agg _ _ (by simp[l1]) fun j c v hc hv=>?_⟩
 ·have:=run_loadCells_list (P:=P) w ⟨B,o,none⟩ (vs.take n) (fun j v hv=>by
   rw[Addr.add_eq]
   rw[ζx] at hv
   split at hv
   ·exact l2 j v hv
   ·simp at hv)
  rw[List.length_take,l1,Nat.min_eq_left hn] at this
  exact this
 ·rw[ζx] at hc hv
  split at hc
  ·rename_i hj;rw[if_pos hj] at hv;exact l3 j c v hc hv
  ·simp at hc
theorem V1{P:Program}{γ:Gh}{w:World}{bs:Nat→Option Blk}{u:Nat→Bool}{t:TypeId}{B o:Nat}{cells:List V}{c:V}
  (h:O9 P t cells=some c) (hc:L9 γ w bs u B o cells):∃v,(loadVar t ⟨B,o,none⟩).run P w=.ok v w∧Rep γ w bs u c v:=by
 unfold O9 at h
 cases hi:P.info? t with
 | none=>simp[hi] at h
 | some i=>
  cases hu:P.underlying t with
  | none=>simp[hu,hi] at h
  | some d=>
   rw[hu,hi] at h
   cases d<;>simp only[] at h
   case struct fs=>
    split at h<;>simp at h
    rename_i hn
    subst h
    obtain⟨vs,h1,h2⟩:=run_loadAgg (P:=P) hc hn
    exact⟨_,by simp[loadVar,H8 hu,sizeOf,typeInfo,hi,h1],h2⟩
   case array n e=>
    split at h<;>simp at h
    rename_i hn
    subst h
    obtain⟨vs,h1,h2⟩:=run_loadAgg (P:=P) hc hn
    exact⟨_,by simp[loadVar,H8 hu,sizeOf,typeInfo,hi,h1],h2⟩
   all_goals
    obtain⟨v,h1,h2⟩:=hc 0 c h
    have h1':w.cell? ⟨B,o,none⟩=some v:=h1
    exact⟨v,by simp[loadVar,H8 hu,h1'],h2⟩
def cellsV(look:Nat→Option Blk)(c:V):Option (List V):=
 match c with
 | .snap cells=>some cells
 | .ptr b i off=>match look b with
  | some k=>match k.rows[i]? with
   | some r=>some (r.drop off)
   | none=>none
  | none=>none
 | _=>none
theorem L2.row{γ:Gh}{w:World}{bs:Nat→Option Blk}{u:Nat→Bool}{b:Nat}{k:Blk}(h:L2 γ w bs u b k){B o:Nat}(hl:γ.loc b=some (B,o)){i:Nat}{r:List V}(hr:k.rows[i]?=some r)(hz:k.size < W9) :
  L9 γ w bs u B (o+i * k.size) r:=by
 rcases h with⟨h0,_⟩|hm|⟨_,B',o',cs,e,h1,_,h3,h4,_,h6,_,_⟩
 ·rw[hl] at h0;simp at h0
 ·exact absurd hz (Nat.not_lt_of_le hm.1)
 rw[hl] at h1;simp only[ζa,ζP] at h1
 obtain⟨rfl,rfl⟩:=h1
 intro j c hc
 have hlen:=h4 r (ζi hr)
 have hj:j < k.size:=by rw[←hlen];exact(ζe.1 hc).1
 obtain⟨v,hv,hrep,_⟩:=h6 (i * k.size+j) c (by rw[J7 k.rows h4 i j hj,hr];exact hc)
 refine⟨v,?_,hrep⟩
 rw[h3.cellAt]
 simpa[Nat.add_assoc] using hv
theorem Sim.cellsV{G:Nat→Option (List V)}{γ:Gh}{st:St}{tmps:Array Value}{w:World}(h:Sim G γ st tmps w){c:V}{cells:List V}(hc:cellsV st.b c=some cells)
  {v:Value} (hr:Rep γ w st.b st.u c v):∃B o,v=.pointer (some ⟨B,o,none⟩)∧L9 γ w st.b st.u B o cells:=by
 unfold EV.cellsV at hc
 split at hc
 ·rename_i cs
  simp only[ζa] at hc;subst hc
  obtain⟨B,o,vs,rfl,h1,h2⟩:=hr.snap_inv
  exact⟨B,o,rfl,fun j c hj=>⟨vs j,(h1 j c hj).2,.data (h2 j c hj)⟩⟩
 ·rename_i b i off
  split at hc
  ·rename_i k hk
   split at hc
   ·rename_i r hrow
    simp only[ζa] at hc;subst hc
    obtain⟨B,o,rfl,hl⟩:=hr.ptr_inv hk
    refine⟨B,o+(i * k.size+off),rfl,?_⟩
    have:=((h.b b k hk).row hl hrow (hr.ptr_small hk)).drop off
    rwa [show o+i * k.size+off=o+(i * k.size+off) by omega] at this
   ·simp at hc
  ·simp at hc
 ·simp at hc
def loadV(P:Program)(look:Nat→Option Blk)(t:TypeId)(c:V):Option V:=(cellsV look c).bind (O9 P t)
theorem run_loadV{P:Program}{G:Nat→Option (List V)}{γ:Gh}{st:St}{tmps:Array Value}{w:World}(hs:Sim G γ st tmps w){t:TypeId}{c d:V}(h:loadV P st.b t c=some d)
  {v:Value} (hr:Rep γ w st.b st.u c v):∃x,(Instr.loadAt t v).run P w=.ok x w∧Rep γ w st.b st.u d x:=by
 obtain⟨cells,h1,h2⟩:=ζc.1 h
 obtain⟨B,o,rfl,hc⟩:=hs.cellsV h1 hr
 obtain⟨x,hx,hd⟩:=V1 h2 hc
 exact⟨x,by simp[Instr.loadAt,Instr.sureAddr,hx],hd⟩
theorem snap_drop{γ:Gh}{w:World}{bs:Nat→Option Blk}{u:Nat→Bool}{cells:List V}{B o n:Nat}{vs:Nat→Value}
  (h1:∀(i:Nat) (c:V),cells[i]?=some c→o+i < γ.lim B∧cellAt w B (o+i)=some (vs i)) (h2:∀(i:Nat) (c:V),cells[i]?=some c→W2 γ.lim w c (vs i)) :
  Rep γ w bs u (.snap (cells.drop n)) (.pointer (some ⟨B,o+n,none⟩)):=
 .data (.snap _ B (o+n) (fun i=>vs (n+i))
  (fun i c hc=>by rw[ζy] at hc;have:=h1 (n+i) c hc;rwa [show o+n+i=o+(n+i) by omega])
  (fun i c hc=>by rw[ζy] at hc;exact h2 (n+i) c hc))
def P0(P:Program)(look:Nat→Option Blk)(s:TypeId)(c:V)(f:Nat):Option V:=
 match P.underlying s with
 | some (.struct fs)=>match fs[f]? with
  | some fd=>match P.info? fd.type with
   | some i=>if i.size=0 then none else match c with
    | .snap cells=>some (.snap (cells.drop fd.offset))
    | .ptr b r off=>match look b with
     | some _=>some (.ptr b r (off+fd.offset))
     | none=>none
    | _=>none
   | none=>none
  | none=>none
 | _=>none
theorem run_fieldAddrV{P:Program}{γ:Gh}{w:World}{bs:Nat→Option Blk}{u:Nat→Bool}{s:TypeId}{c d:V}{f:Nat}(h:P0 P bs s c f=some d)
  {v:Value} (hr:Rep γ w bs u c v):∃x,(Instr.fieldAt s v f).run P w=.ok x w∧Rep γ w bs u d x:=by
 unfold P0 at h
 split at h
 ·rename_i fs hu
  split at h
  ·rename_i fd hf
   split at h
   ·rename_i i hi
    split at h
    ·simp at h
    ·rename_i hz
     have place:∀B o,(fieldPlace ⟨B,o,none⟩ fd).run P w=.ok ⟨B,o+fd.offset,none⟩ w:=fun B o=>by
      simp[fieldPlace,sizeOf,typeInfo,hi,hz,Addr.add_eq]
     split at h
     ·rename_i cells
      simp only[ζa] at h;subst h
      obtain⟨B,o,vs,rfl,h1,h2⟩:=hr.snap_inv
      exact⟨_,by simp[Instr.fieldAt,ζO hu,hf,Instr.sureAddr,place],snap_drop h1 h2⟩
     ·rename_i b r off
      split at h
      ·rename_i k hk
       simp only[ζa] at h;subst h
       obtain⟨B,o,rfl,hl⟩:=hr.ptr_inv hk
       refine⟨_,by simp[Instr.fieldAt,ζO hu,hf,Instr.sureAddr,place];rfl,?_⟩
       have:=Rep.ptr (γ:=γ) (w:=w) (u:=u) b r (off+fd.offset) B o k hk hl (hr.ptr_small hk)
       rwa [show o+(r * k.size+(off+fd.offset))=o+(r * k.size+off)+fd.offset by omega] at this
      ·simp at h
     ·simp at h
   ·simp at h
  ·simp at h
 ·simp at h
def L0(P:Program)(look:Nat→Option Blk)(t:TypeId)(c x:V):Option V:=
 match x with
 | .int _ i=>match P.underlying t with
  | some (.array len e)=>match P.info? e with
   | some ei=>if 0≤i∧i < len then match c with
     | .snap cells=>some (.snap (cells.drop (i.toNat * ei.size)))
     | .ptr b r off=>match look b with
      | some _=>some (.ptr b r (off+i.toNat * ei.size))
      | none=>none
     | _=>none
    else none
   | none=>none
  | some (.slice e)=>match P.info? e with
   | some ei=>match c with
    | .sl _ size rows=>if size=ei.size then (if 0≤i then (rows[i.toNat]?).map .snap else none) else none
    | .ref b off len=>match look b with
     | some k=>if k.size=ei.size then (if 0≤i∧i < len then some (.ptr b (off+i.toNat) 0) else none) else none
     | none=>none
    | _=>none
   | none=>none
  | _=>none
 | _=>none
theorem S7{P:Program}{w:World}{t e:TypeId}{len:Nat}{ei:TypeInfo}{k:IntKind}{i:Int}{B o:Nat}(hu:P.underlying t=some (.array len e))(hi:P.info? e=some ei)
  (hb:0≤i∧i < len):(Instr.indexAt t (.pointer (some ⟨B,o,none⟩)) (.int k i)).run P w=.ok (.pointer (some ⟨B,o+i.toNat * ei.size,none⟩)) w:=by
 simp[Instr.indexAt,asIntOf,ζO hu,Instr.sureAddr,hb,sizeOf,typeInfo,hi,Addr.add_eq]
theorem run_indexAt_sl{P:Program}{w:World}{t e:TypeId}{len cap:Nat}{ei:TypeInfo}{k:IntKind}{i:Int}{B o:Nat}(hu:P.underlying t=some (.slice e))(hi:P.info? e=some ei)
  (hb:0≤i∧i < len):(Instr.indexAt t (.slice (some ⟨B,o,none⟩) len cap) (.int k i)).run P w=.ok (.pointer (some ⟨B,o+i.toNat * ei.size,none⟩)) w:=by
 simp[Instr.indexAt,asIntOf,ζO hu,Instr.sureAddr,hb,sizeOf,typeInfo,hi,Addr.add_eq]
theorem run_indexAddrV{P:Program}{γ:Gh}{w:World}{bs:Nat→Option Blk}{u:Nat→Bool}{t:TypeId}{c x d:V}(h:L0 P bs t c x=some d)
  {v vx:Value} (hr:Rep γ w bs u c v) (hx:Rep γ w bs u x vx):∃y,(Instr.indexAt t v vx).run P w=.ok y w∧Rep γ w bs u d y:=by
 unfold L0 at h
 split at h
 ·rename_i kk i
  have:=hx.int_inv;subst this
  split at h
  ·rename_i len e hu
   split at h
   ·rename_i ei hi
    split at h
    ·rename_i hb
     split at h
     ·simp only[ζa] at h;subst h
      obtain⟨B,o,vs,rfl,h1,h2⟩:=hr.snap_inv
      exact⟨_,S7 hu hi hb,snap_drop h1 h2⟩
     ·rename_i b r off
      split at h
      ·rename_i k hk
       simp only[ζa] at h;subst h
       obtain⟨B,o,rfl,hl⟩:=hr.ptr_inv hk
       refine⟨_,S7 hu hi hb,?_⟩
       have:=Rep.ptr (γ:=γ) (w:=w) (u:=u) b r (off+i.toNat * ei.size) B o k hk hl (hr.ptr_small hk)
       rwa [show o+(r * k.size+(off+i.toNat * ei.size))=o+(r * k.size+off)+i.toNat * ei.size by omega] at this
      ·simp at h
     ·simp at h
    ·simp at h
   ·simp at h
  ·rename_i e hu
   split at h
   ·rename_i ei hi
    split at h
    ·rename_i own size rows
     split at h
     ·rename_i hsz
      split at h
      ·rename_i h0
       obtain⟨r,hrow,rfl⟩:=ζb.1 h
       obtain⟨_,-,hr0⟩|⟨B,o,cap,vs,rfl,h1,h2,h3,h4⟩:=hr.sl_inv
       ·subst hr0;simp at hrow
       have hlt:i.toNat < rows.length:=(ζe.1 hrow).1
       refine⟨_,run_indexAt_sl hu hi ⟨h0,by omega⟩,?_⟩
       subst hsz
       have hlen:=h2 r (ζi hrow)
       have hg:∀(j:Nat) (c:V),r[j]?=some c→rows.flatten[i.toNat * ei.size+j]?=some c:=fun j c hc=>by
        rw[J7 rows h2 i.toNat j (by rw[←hlen];exact(ζe.1 hc).1),hrow];exact hc
       refine .data (.snap r B (o+i.toNat * ei.size) (fun j=>vs (i.toNat * ei.size+j)) (fun j c hc=>?_) (fun j c hc=>h4 _ c (hg j c hc)))
       have:=h3 _ c (hg j c hc)
       rwa [show o+i.toNat * ei.size+j=o+(i.toNat * ei.size+j) by omega]
      ·simp at h
     ·simp at h
    ·rename_i b off len
     split at h
     ·rename_i k hk
      split at h
      ·rename_i hsz
       split at h
       ·rename_i hb
        simp only[ζa] at h;subst h
        rcases hr.ref_inv hk with⟨B,o,cap,rfl,hl,h1,h2,h3,hz,_⟩|⟨B,rfl,rfl,_⟩|⟨rfl,rfl,_⟩
        ·refine⟨_,run_indexAt_sl hu hi hb,?_⟩
         have:=Rep.ptr (γ:=γ) (w:=w) (u:=u) b (off+i.toNat) 0 B o k hk hl hz
         rwa [show o+((off+i.toNat) * k.size+0)=o+off * k.size+i.toNat * ei.size by rw[←hsz,ξp];omega] at this
        ·omega
        ·omega
       ·simp at h
      ·simp at h
     ·simp at h
    ·simp at h
   ·simp at h
  ·simp at h
 ·simp at h
def loV(lo:Option V)(h:Nat):Option Nat:=
 match lo with
 | none=>some 0
 | some (.int _ l)=>if 0≤l∧l≤h then some l.toNat else none
 | _=>none
def hiV(n:Nat)(hi mx:Option V):Option Nat:=
 match hi,mx with
 | none,none=>some n
 | some (.int _ h),none=>if 0≤h∧h≤n then some h.toNat else none
 | some (.int _ h),some (.int _ m)=>if 0≤h∧h≤m∧m≤n then some h.toNat else none
 | _,_=>none
def RepO(γ:Gh)(w:World)(bs:Nat→Option Blk)(u:Nat→Bool):Option V→Option Value→Prop
 | none,none=>True
 | some c,some v=>Rep γ w bs u c v
 | _,_=>False
theorem O6{P:Program}{γ:Gh}{w:World}{bs:Nat→Option Blk}{u:Nat→Bool}{n cap:Nat}(hcap:n≤cap)(sl:Bool){lo hi mx:Option V}{l h:Nat}(hh:hiV n hi mx=some h)(hl:loV lo h=some l)
  {vlo vhi vmx:Option Value} (rlo:RepO γ w bs u lo vlo) (rhi:RepO γ w bs u hi vhi) (rmx:RepO γ w bs u mx vmx) :
  l≤h∧h≤n∧∃m,h≤m∧m≤cap∧(Instr.sliceBounds sl n cap vlo vhi vmx).run P w=.ok (l,h,m) w:=by
 have hlo:l≤h∧∀code,(match vlo with|some v=>Instr.sliceBound v h code|none=>pure 0:Sem Nat).run P w=.ok l w:=by
  unfold loV at hl
  split at hl
  ·simp only[ζa] at hl;subst hl
   cases vlo with
   | none=>exact⟨Nat.zero_le _,fun _=>rfl⟩
   | some v=>exact rlo.elim
  ·rename_i k x
   split at hl<;>simp at hl
   rename_i hb
   subst hl
   cases vlo with
   | none=>exact rlo.elim
   | some v=>
    have:v=.int k x:=Rep.int_inv rlo
    subst this
    exact⟨by omega,fun code=>by simp[Instr.sliceBound,asIntOf,hb]⟩
  ·simp at hl
 refine⟨hlo.1,?_⟩
 unfold hiV at hh
 split at hh
 ·simp only[ζa] at hh;subst hh
  cases vhi with
  | some v=>exact rhi.elim
  | none=>
   cases vmx with
   | some v=>exact rmx.elim
   | none=>exact⟨ζK _,cap,hcap,ζK _,by
     simp only[Instr.sliceBounds,ζT,ζU,ζQ]
     have:=hlo.2 (if (none:Option Value).isSome=true then .slice3C else .sliceB)
     cases vlo<;>simp_all⟩
 ·rename_i k x
  split at hh<;>simp at hh
  rename_i hb
  subst hh
  cases vmx with
  | some v=>exact rmx.elim
  | none=>
   cases vhi with
   | none=>exact rhi.elim
   | some v=>
    have:v=.int k x:=Rep.int_inv rhi
    subst this
    refine⟨by omega,cap,by omega,ζK _,?_⟩
    have h1:∀code,(Instr.sliceBound (.int k x) cap code).run P w=.ok x.toNat w:=fun code=>by simp[Instr.sliceBound,asIntOf,hb,show x≤cap by omega]
    simp only[Instr.sliceBounds,ζT,ζU,ζQ,h1]
    have:=hlo.2 (if (none:Option Value).isSome=true then .slice3C else .sliceB)
    cases vlo<;>simp_all
 ·rename_i k x k' y
  split at hh<;>simp at hh
  rename_i hb
  subst hh
  cases vmx with
  | none=>exact rmx.elim
  | some vm=>
   cases vhi with
   | none=>exact rhi.elim
   | some v=>
    have:v=.int k x:=Rep.int_inv rhi
    subst this
    have:vm=.int k' y:=Rep.int_inv rmx
    subst this
    have e:(y.toNat:Int)=y:=by omega
    refine⟨by omega,y.toNat,by omega,by omega,?_⟩
    have h1:∀code,(Instr.sliceBound (.int k' y) cap code).run P w=.ok y.toNat w:=fun code=>by simp[Instr.sliceBound,asIntOf,show 0≤y by omega,show y≤cap by omega]
    have h2:∀code,(Instr.sliceBound (.int k x) y.toNat code).run P w=.ok x.toNat w:=fun code=>run_sliceBound w k x y.toNat code (by omega) (by omega)
    simp only[Instr.sliceBounds,ζT,ζQ,h1,h2]
    have:=hlo.2 (if (some (Value.int k' y)).isSome=true then .slice3C else .sliceB)
    cases vlo<;>simp_all
 ·simp at hh
def hiR(n N:Nat)(hi mx:Option V):Option Nat:=
 match hi,mx with
 | none,none=>some n
 | some (.int _ h),none=>if 0≤h∧(h≤n∨h≤N) then some h.toNat else none
 | some (.int _ h),some (.int _ m)=>if 0≤h∧h≤m∧m=N then some h.toNat else none
 | _,_=>none
theorem hiR_of{n N h:Nat}{hi:Option V}(e:hiV n hi none=some h):hiR n N hi none=some h:=by
 unfold hiV at e
 unfold hiR
 split at e
 ·exact e
 ·rename_i k x _ _
  split at e<;>simp at e
  rename_i hb
  rw[if_pos (by omega),e]
 ·simp_all
 ·simp at e
theorem run_boundsR{P:Program}{γ:Gh}{w:World}{bs:Nat→Option Blk}{u:Nat→Bool}{n N cap:Nat}(hcap:n≤cap)(hN:N≤cap){lo hi mx:Option V}{l h:Nat}(hh:hiR n N hi mx=some h)(hl:loV lo h=some l)
  {vlo vhi vmx:Option Value} (rlo:RepO γ w bs u lo vlo) (rhi:RepO γ w bs u hi vhi) (rmx:RepO γ w bs u mx vmx) :
  l≤h∧(h≤n∨h≤N)∧∃m,h≤m∧m≤cap∧N≤m∧(Instr.sliceBounds true n cap vlo vhi vmx).run P w=.ok (l,h,m) w:=by
 unfold hiR at hh
 split at hh
 ·obtain⟨a1,a2,m,a3,a4,a5⟩:=O6 (P:=P) hcap true (by unfold hiV;exact hh) hl rlo rhi rmx
  refine⟨a1,.inl a2,m,a3,a4,?_,a5⟩
  cases vhi with
  | some v=>exact rhi.elim
  | none=>
   cases vmx with
   | some v=>exact rmx.elim
   | none=>
    simp only[Instr.sliceBounds,ζT,ζU,ζQ] at a5
    cases vlo with
    | none=>simp at a5;omega
    | some v=>
     simp only[ζT] at a5
     cases hs:(Instr.sliceBound v n (if (none:Option Value).isSome=true then .slice3C else .sliceB)).run P w<;>rw[hs] at a5<;>simp at a5
     omega
 ·rename_i k x
  split at hh<;>simp at hh
  rename_i hb
  subst hh
  have e:(x.toNat:Int)=x:=by omega
  obtain⟨a1,a2,m,a3,a4,a5⟩:=O6 (P:=P) (n:=cap) (ζK cap) true (hi:=some (.int k x)) (mx:=none) (h:=x.toNat) (by simp only[hiV];rw[if_pos (by omega)]) hl rlo rhi rmx
  cases vhi with
  | none=>exact rhi.elim
  | some v=>
   cases vmx with
   | some v=>exact rmx.elim
   | none=>
    refine⟨a1,by omega,cap,by omega,ζK _,hN,?_⟩
    have:v=.int k x:=Rep.int_inv rhi
    subst this
    have h1:∀code,(Instr.sliceBound (.int k x) cap code).run P w=.ok x.toNat w:=fun code=>by simp[Instr.sliceBound,asIntOf,hb,show x≤cap by omega]
    simp only[Instr.sliceBounds,ζT,ζU,ζQ,h1] at a5 ⊢
    cases vlo with
    | none=>simp_all
    | some v=>
     simp only[ζT] at a5 ⊢
     cases hs:(Instr.sliceBound v x.toNat (if (none:Option Value).isSome=true then .slice3C else .sliceB)).run P w<;>rw[hs] at a5<;>simp at a5
     simp[a5]
 ·rename_i k x k' y
  split at hh<;>simp at hh
  rename_i hb
  subst hh
  obtain⟨a1,a2,m,a3,a4,a5⟩:=O6 (P:=P) (n:=cap) (ζK cap) true (hi:=some (.int k x)) (mx:=some (.int k' y)) (h:=x.toNat) (by simp only[hiV];rw[if_pos (by omega)]) hl rlo rhi rmx
  cases vhi with
  | none=>exact rhi.elim
  | some v=>
   cases vmx with
   | none=>exact rmx.elim
   | some vm=>
    have:v=.int k x:=Rep.int_inv rhi
    subst this
    have:vm=.int k' y:=Rep.int_inv rmx
    subst this
    have h1:∀code,(Instr.sliceBound (.int k' y) cap code).run P w=.ok y.toNat w:=fun code=>by simp[Instr.sliceBound,asIntOf,show 0≤y by omega,show y≤cap by omega]
    have h2:∀code,(Instr.sliceBound (.int k x) y.toNat code).run P w=.ok x.toNat w:=fun code=>run_sliceBound w k x y.toNat code (by omega) (by omega)
    refine⟨a1,by omega,y.toNat,by omega,by omega,by omega,?_⟩
    simp only[Instr.sliceBounds,ζT,ζQ,h1,h2] at a5 ⊢
    cases vlo with
    | none=>simp_all
    | some v=>
     simp only[ζT] at a5 ⊢
     cases hs:(Instr.sliceBound v x.toNat (if (some (Value.int k' y)).isSome=true then .slice3C else .sliceB)).run P w<;>rw[hs] at a5<;>simp at a5
     simp[a5]
 ·simp at hh
def sliceV(P:Program)(look:Nat→Option Blk)(t:TypeId)(c:V)(lo hi mx:Option V):Option V:=
 match P.underlying t with
 | some .string=>match c,mx with
  | .str s,none=>(hiV s.size hi none).bind fun h=>(loV lo h).map fun l=>.str (s.extract l h)
  | _,_=>none
 | some (.slice e)=>match P.info? e with
  | none=>none
  | some ei=>match c with
   | .nilsl=>(hiV 0 hi mx).bind fun h=>(loV lo h).map fun _=>.nilsl
   | .sl _ size rows=>if size=ei.size then (hiV rows.length hi mx).bind fun h=>(loV lo h).map fun l=>.sl false size ((rows.take h).drop l) else none
   | .ref b off len=>match look b with
    | some k=>if k.size=ei.size then (hiR len (k.rows.length - off) hi mx).bind fun h=>(loV lo h).map fun l=>.ref b (off+l) (h - l) else none
    | none=>none
   | _=>none
 | _=>none
theorem N9{s:Nat}(rows:List (List V))(hs:∀r,r∈rows→r.length=s)(l h j:Nat)(c:V)(hc:((rows.take h).drop l).flatten[j]?=some c) :
  rows.flatten[l * s+j]?=some c:=by
 rcases ξq s with h0|hpos
 ·subst h0
  have:∀r,r∈(rows.take h).drop l→r=[]:=fun r hr=>by
   have:=hs r (ξt (ξu hr))
   exact ζS.1 this
  have e:((rows.take h).drop l).flatten=[]:=by
   rw[List.flatten_eq_nil_iff];exact this
  rw[e] at hc;simp at hc
 ·have hs':∀r,r∈(rows.take h).drop l→r.length=s:=fun r hr=>hs r (ξt (ξu hr))
  have e:j=(j / s) * s+j % s:=by rw[ξw];exact(Nat.div_add_mod j s).symm
  have hm:=Nat.mod_lt j hpos
  rw[e,J7 _ hs' _ _ hm] at hc
  rw[e,show l * s+(j / s * s+j % s)=(l+j / s) * s+j % s by rw[ξp];omega,J7 _ hs _ _ hm]
  obtain⟨r,hr,hc⟩:=ζc.1 hc
  rw[ζy,ζx] at hr
  split at hr
  ·rw[hr];exact hc
  ·simp at hr
theorem run_sliceV{P:Program}{γ:Gh}{w:World}{bs:Nat→Option Blk}{u:Nat→Bool}{t:TypeId}{c d:V}{lo hi mx:Option V}(h:sliceV P bs t c lo hi mx=some d)
  {v:Value} {vlo vhi vmx:Option Value} (hr:Rep γ w bs u c v) (rlo:RepO γ w bs u lo vlo) (rhi:RepO γ w bs u hi vhi) (rmx:RepO γ w bs u mx vmx) :
  ∃y,(Instr.sliceAt t v vlo vhi vmx).run P w=.ok y w∧Rep γ w bs u d y:=by
 unfold sliceV at h
 split at h
 ·rename_i hu
  split at h
  ·rename_i s
   obtain⟨hh,h1,h2⟩:=ζc.1 h
   obtain⟨ll,h3,rfl⟩:=ζb.1 h2
   have:=hr.str_inv;subst this
   cases vmx with
   | some x=>exact rmx.elim
   | none=>
    obtain⟨_,_,m,_,_,hb⟩:=O6 (P:=P) (ζK s.size) false h1 h3 rlo rhi (show RepO γ w bs u none none from trivial)
    exact⟨_,by simp[Instr.sliceAt,Instr.slice,ζO hu,hb],.data (.str _)⟩
  ·simp at h
 ·rename_i e hu
  split at h
  ·simp at h
  ·rename_i ei hi'
   split at h
   ·obtain⟨hh,h1,h2⟩:=ζc.1 h
    obtain⟨ll,h3,rfl⟩:=ζb.1 h2
    have:=hr.nilsl_inv;subst this
    obtain⟨a1,a2,m,a3,a4,hb⟩:=O6 (P:=P) (ζK 0) true h1 h3 rlo rhi rmx
    obtain rfl:m=0:=by omega
    obtain rfl:hh=0:=by omega
    obtain rfl:ll=0:=by omega
    exact⟨_,by simp[Instr.sliceAt,Instr.slice,ζO hu,hb,sizeOf,typeInfo,hi'],.data .nilsl⟩
   ·rename_i own size rows
    split at h
    ·rename_i hsz
     obtain⟨hh,h1,h2⟩:=ζc.1 h
     obtain⟨ll,h3,rfl⟩:=ζb.1 h2
     obtain⟨a,rfl,rfl⟩|⟨B,o,cap,vs,rfl,b1,b2,b3,b4⟩:=hr.sl_inv
     ·obtain⟨a1,a2,m,a3,a4,hb⟩:=O6 (P:=P) (ζK 0) true h1 h3 rlo rhi rmx
      obtain rfl:m=0:=by omega
      obtain rfl:hh=0:=by simpa using a2
      obtain rfl:ll=0:=by omega
      cases a with
      | none=>exact⟨_,by simp[Instr.sliceAt,Instr.slice,ζO hu,hb,sizeOf,typeInfo,hi'],.data (.slNil false size)⟩
      | some a=>exact⟨_,by simp[Instr.sliceAt,Instr.slice,ζO hu,hb,sizeOf,typeInfo,hi'],.data (.slNil false size (some a))⟩
     obtain⟨a1,a2,m,a3,a4,hb⟩:=O6 (P:=P) b1 true h1 h3 rlo rhi rmx
     have hlen:((rows.take hh).drop ll).length=hh - ll:=by simp;omega
     have hs':∀r,r∈(rows.take hh).drop ll→r.length=size:=fun r hr=>b2 r (ξt (ξu hr))
     by_cases hml:m=ll
     ·refine⟨.slice (some ⟨B,o,none⟩) (hh - ll) (m - ll),by simp[Instr.sliceAt,Instr.slice,ζO hu,hb,sizeOf,typeInfo,hi',hml],?_⟩
      have hz:(rows.take hh).drop ll=[]:=ζS.1 (by rw[hlen];omega)
      rw[←hlen]
      refine .data (.sl false size _ B o (m - ll) vs (by rw[hlen];omega) hs' ?_ ?_)<;>(intro i c hc;rw[hz] at hc;simp at hc)
     ·refine⟨.slice (some ⟨B,o+ll * size,none⟩) (hh - ll) (m - ll),by
       simp[Instr.sliceAt,Instr.slice,ζO hu,hb,sizeOf,typeInfo,hi',hml,Addr.add_eq,hsz],?_⟩
      rw[←hlen]
      refine .data (.sl false size _ B (o+ll * size) (m - ll) (fun j=>vs (ll * size+j)) (by rw[hlen];omega) hs' (fun i c hc=>?_) (fun i c hc=>b4 _ c (N9 rows b2 ll hh i c hc)))
      have:=b3 _ c (N9 rows b2 ll hh i c hc)
      rwa [show o+ll * size+i=o+(ll * size+i) by omega]
    ·simp at h
   ·rename_i b off len
    split at h
    ·rename_i k hk
     split at h
     ·rename_i hsz
      obtain⟨hh,h1,h2⟩:=ζc.1 h
      obtain⟨ll,h3,rfl⟩:=ζb.1 h2
      rcases hr.ref_inv hk with⟨B,o,cap,rfl,hl,c1,c2,c3,hz,hcp⟩|⟨B,rfl,rfl,c1,hz⟩|⟨rfl,rfl,c1,hz⟩
      ·obtain⟨a1,a2,m,a3,a4,a5,hb⟩:=run_boundsR (P:=P) c2 (show k.rows.length - off≤cap by omega) h1 h3 rlo rhi rmx
       by_cases hml:m=ll
       ·refine⟨.slice (some ⟨B,o+off * k.size,none⟩) (hh - ll) (m - ll),by simp[Instr.sliceAt,Instr.slice,ζO hu,hb,sizeOf,typeInfo,hi',hml],?_⟩
        have e1:hh - ll=0:=by omega
        have e2:m - ll=0:=by omega
        rw[e1,e2]
        exact .refE b (off+ll) _ k hk hz (by omega)
       ·refine⟨.slice (some ⟨B,o+off * k.size+ll * ei.size,none⟩) (hh - ll) (m - ll),by
         simp[Instr.sliceAt,Instr.slice,ζO hu,hb,sizeOf,typeInfo,hi',hml,Addr.add_eq],?_⟩
        have hroom:RoomAt w B (o+(off+ll+(m - ll)) * k.size):=by
         obtain⟨cs,e',fz,r1,r2⟩:=c3
         refine⟨cs,e',fz,r1,Nat.le_trans ?_ r2⟩
         have:(off+ll+(m - ll)) * k.size≤(off+cap) * k.size:=ξl _ (by omega)
         omega
        have:=Rep.ref (γ:=γ) (w:=w) (u:=u) b (off+ll) (hh - ll) B o (m - ll) k hk hl (by omega) (by omega) hroom hz (by omega)
        rwa [show o+(off+ll) * k.size=o+off * k.size+ll * ei.size by rw[ξp,hsz];omega] at this
      ·obtain⟨a1,a2,m,a3,a4,a5,hb⟩:=run_boundsR (P:=P) (ζK 0) (show k.rows.length - off≤0 by omega) h1 h3 rlo rhi rmx
       obtain rfl:m=0:=by omega
       obtain rfl:hh=0:=by omega
       obtain rfl:ll=0:=by omega
       exact⟨_,by simp[Instr.sliceAt,Instr.slice,ζO hu,hb,sizeOf,typeInfo,hi'],.refE b (off+0) B k hk hz (by omega)⟩
      ·obtain⟨a1,a2,m,a3,a4,a5,hb⟩:=run_boundsR (P:=P) (ζK 0) (show k.rows.length - off≤0 by omega) h1 h3 rlo rhi rmx
       obtain rfl:m=0:=by omega
       obtain rfl:hh=0:=by omega
       obtain rfl:ll=0:=by omega
       exact⟨_,by simp[Instr.sliceAt,Instr.slice,ζO hu,hb,sizeOf,typeInfo,hi'],.refN b (off+0) k hk hz (by omega)⟩
     ·simp at h
    ·simp at h
   ·simp at h
 ·simp at h
def lenV(P:Program)(look:Nat→Option Blk)(t:TypeId)(c:V):Option V:=
 match P.underlying t,c with
 | some .string,.str s=>some (.int .i64 s.size)
 | some (.slice _),.nilsl=>some (.int .i64 0)
 | some (.slice _),.sl _ _ rows=>some (.int .i64 rows.length)
 | some (.slice _),.ref b _ len=>match look b with|some _=>some (.int .i64 len)|none=>none
 | some (.array n _),_=>some (.int .i64 n)
 | _,_=>none
theorem run_lenV{P:Program}{γ:Gh}{w:World}{bs:Nat→Option Blk}{u:Nat→Bool}{t ty:TypeId}{ts:Array TypeId}{c d:V}(h:lenV P bs t c=some d)(ht:ts[0]?=some t)
  {v:Value} {vs:Array Value} (hr:Rep γ w bs u c v) (hv:vs[0]?=some v):∃y,(Builtin.len_ ts ty vs).run P w=.ok y w∧Rep γ w bs u d y:=by
 unfold lenV at h
 split at h
 ·rename_i s hu
  simp only[ζa] at h;subst h
  have:=hr.str_inv;subst this
  exact⟨_,by simp[Builtin.len_,ht,hv,ζO hu,goInt],.data (.int _ _)⟩
 ·rename_i e hu
  simp only[ζa] at h;subst h
  have:=hr.nilsl_inv;subst this
  exact⟨_,by simp[Builtin.len_,ht,hv,ζO hu,goInt],.data (.int _ _)⟩
 ·rename_i e own size rows hu
  simp only[ζa] at h;subst h
  obtain⟨a,rfl,rfl⟩|⟨B,o,cap,xs,rfl,-⟩:=hr.sl_inv
  ·exact⟨_,by simp[Builtin.len_,ht,hv,ζO hu,goInt],.data (.int _ _)⟩
  exact⟨_,by simp[Builtin.len_,ht,hv,ζO hu,goInt],.data (.int _ _)⟩
 ·rename_i e b off len hu
  split at h
  ·rename_i k hk
   simp only[ζa] at h;subst h
   rcases hr.ref_inv hk with⟨B,o,cap,rfl,-⟩|⟨B,rfl,rfl,-⟩|⟨rfl,rfl,-⟩
   ·exact⟨_,by simp[Builtin.len_,ht,hv,ζO hu,goInt],.data (.int _ _)⟩
   ·exact⟨_,by simp[Builtin.len_,ht,hv,ζO hu,goInt],.data (.int _ _)⟩
   ·exact⟨_,by simp[Builtin.len_,ht,hv,ζO hu,goInt],.data (.int _ _)⟩
  ·simp at h
 ·rename_i n e hu
  simp only[ζa] at h;subst h
  exact⟨_,by simp[Builtin.len_,ht,hv,ζO hu,goInt],.data (.int _ _)⟩
 ·simp at h
def indexV(P:Program)(t:TypeId)(c x:V):Option V:=
 match P.underlying t,c,x with
 | some .string,.str s,.int _ i=>if 0≤i∧i < s.size then some (.int .u8 (s.data.getD i.toNat 0).toNat) else none
 | some (.array len e),.agg cells,.int _ i=>match P.info? e with
  | some ei=>if 0≤i∧i < len then partV P e cells (i.toNat * ei.size) else none
  | none=>none
 | _,_,_=>none
theorem run_indexV{P:Program}{γ:Gh}{w:World}{bs:Nat→Option Blk}{u:Nat→Bool}{t:TypeId}{c x d:V}(h:indexV P t c x=some d)
  {v vx:Value} (hr:Rep γ w bs u c v) (hx:Rep γ w bs u x vx):∃y,(Instr.index t v vx).run P w=.ok y w∧Rep γ w bs u d y:=by
 unfold indexV at h
 split at h
 ·rename_i s k i hu
  split at h<;>simp at h
  rename_i hb
  subst h
  have:=hr.str_inv;subst this
  have:=hx.int_inv;subst this
  have hlt:i.toNat < s.data.size:=by have:s.size=s.data.size:=rfl;omega
  have e:s[i.toNat]?=some (s.data.getD i.toNat 0):=by
   have:s.data.getD i.toNat 0=s.data[i.toNat]:=by unfold Array.getD;rw[dif_pos hlt];rfl
   rw[this]
   exact getElem?_pos s i.toNat hlt
  exact⟨_,by simp[Instr.index,asIntOf,ζO hu,hb.1,e],.data (.int _ _)⟩
 ·rename_i len e cells k i hu
  split at h
  ·rename_i ei hi
   split at h
   ·rename_i hb
    have:=hx.int_inv;subst this
    obtain⟨vs,rfl,hl,hc⟩:=hr.agg_inv
    obtain⟨y,hy,hd⟩:=run_partV h hl hc
    exact⟨y,by simp[Instr.index,asIntOf,ζO hu,hb,sizeOf,typeInfo,hi,hy],hd⟩
   ·simp at h
  ·simp at h
 ·simp at h
def J8(γ:Gh)(w:World)(bs:Nat→Option Blk)(u:Nat→Bool)(cells:List V)(vs:Array Value):Prop:=
 vs.size=cells.length∧∀(i:Nat) (c:V) (v:Value),cells[i]?=some c→vs[i]?=some v→Rep γ w bs u c v
theorem J8.agg{γ:Gh}{w:World}{bs:Nat→Option Blk}{u:Nat→Bool}{cells:List V}{vs:Array Value}(h:J8 γ w bs u cells vs):Rep γ w bs u (.agg cells) (.agg vs):=by
 have:=Rep.agg (γ:=γ) (w:=w) (bs:=bs) (u:=u) cells vs.toList (by simpa using h.1) (fun i c v hc hv=>h.2 i c v hc (by simpa using hv))
 simpa using this
theorem Rep.cellsR{γ:Gh}{w:World}{bs:Nat→Option Blk}{u:Nat→Bool}{c:V}{v:Value}(h:Rep γ w bs u c v){cs:List V}(hc:c.cellsOf=some cs):J8 γ w bs u cs v.cells:=by
 obtain⟨vs,h1,h2,h3⟩:=h.cells hc
 rw[h1]
 exact⟨by simpa using h2,fun i d x hd hx=>h3 i d x hd (by simpa using hx)⟩
def zeroV0(P:Program)(t:TypeId):Option (List V):=
 match P.info? t with
 | some i=>match i.zero with
  | some z=>z.cells.toList.mapM ofVal
  | none=>none
 | none=>none
def smallL(l:Option (List V)):Option (List V):=match l with
 | some cs=>if cs.length < W9 then some cs else none
 | none=>none
theorem A1{l:Option (List V)}{cs:List V}(h:smallL l=some cs):l=some cs∧cs.length < W9:=by
 unfold smallL at h
 split at h
 ·split at h<;>simp at h
  rename_i hs
  subst h;exact⟨rfl,hs⟩
 ·simp at h
def zeroV(P:Program)(t:TypeId):Option (List V):=smallL (zeroV0 P t)
theorem mapM_ofVal{γ:Gh}{w:World}{bs:Nat→Option Blk}{u:Nat→Bool}:∀{l:List Value} {cs:List V},l.mapM ofVal=some cs→J8 γ w bs u cs l.toArray
 | [],cs,h=>by simp at h;subst h;exact⟨rfl,fun i c v hc=>by simp at hc⟩
 | x :: l,cs,h=>by
  simp only[List.mapM_cons,Option.bind_eq_bind,ζc,Option.pure_def,ζa] at h
  obtain⟨c,h1,cs',h2,rfl⟩:=h
  have ih:=mapM_ofVal (γ:=γ) (w:=w) (bs:=bs) (u:=u) h2
  refine⟨by have:=ih.1;simp at this ⊢;exact this,fun i d v hd hv=>?_⟩
  cases i with
  | zero=>simp at hd hv;subst hd;subst hv;exact .data (ofVal_rep h1)
  | succ i=>exact ih.2 i d v (by simpa using hd) (by simpa using hv)
theorem T3{P:Program}{γ:Gh}{w:World}{bs:Nat→Option Blk}{u:Nat→Bool}{t:TypeId}{cs:List V}(h:zeroV P t=some cs) :
  ∃z,(zeroValue t).run P w=.ok z w∧J8 γ w bs u cs z.cells:=by
 replace h:=(A1 h).1
 unfold zeroV0 at h
 split at h
 ·rename_i i hi
  split at h
  ·rename_i z hz
   refine⟨z,by simp[zeroValue,typeInfo,hi,hz],?_⟩
   have:=mapM_ofVal (γ:=γ) (w:=w) (bs:=bs) (u:=u) h
   simpa using this
  ·simp at h
 ·simp at h
def L4(cells:List V)(off:Nat)(cs:List V):List V:=cells.take off++cs++cells.drop (off+cs.length)
theorem foldl_set(off:Nat):∀(l:List Value) (j0:Nat) (cs:Array Value),off+j0+l.length≤cs.size→
  ((l.zipIdx j0).foldl (fun cs x=>cs.setIfInBounds (off+x.2) x.1) cs).size=cs.size∧
  ∀i:Nat,((l.zipIdx j0).foldl (fun cs x=>cs.setIfInBounds (off+x.2) x.1) cs)[i]?=if off+j0≤i∧i < off+j0+l.length then l[i - (off+j0)]? else cs[i]?
 | [],j0,cs,_=>⟨rfl,fun i=>by rw[if_neg (by simp)];rfl⟩
 | x :: l,j0,cs,h=>by
  simp only[ξj] at h
  obtain⟨h1,h2⟩:=foldl_set off l (j0+1) (cs.setIfInBounds (off+j0) x) (by simp;omega)
  simp only[List.zipIdx_cons,List.foldl_cons]
  refine⟨by rw[h1];simp,fun i=>?_⟩
  rw[h2 i]
  simp only[ξj]
  by_cases hi:i=off+j0
  ·subst hi
   rw[if_neg (by omega),if_pos (by omega)]
   have:off+j0 < cs.size:=by omega
   simp[this]
  ·by_cases hin:off+j0≤i∧i < off+j0+(l.length+1)
   ·rw[if_pos (by omega),if_pos hin,show i - (off+j0)=(i - (off+(j0+1)))+1 by omega]
    simp
   ·rw[if_neg (by omega),if_neg hin,Array.getElem?_setIfInBounds,if_neg (fun e=>hi e.symm)]
theorem splice_rep{γ:Gh}{w:World}{bs:Nat→Option Blk}{u:Nat→Bool}{cells cs:List V}{vs xs:Array Value}(h:J8 γ w bs u cells vs)(hx:J8 γ w bs u cs xs){off:Nat}(ho:off+cs.length≤cells.length) :
  J8 γ w bs u (L4 cells off cs) (xs.zipIdx.foldl (fun a x=>a.setIfInBounds (off+x.2) x.1) vs):=by
 have e:xs.zipIdx.foldl (fun a x=>a.setIfInBounds (off+x.2) x.1) vs=(xs.toList.zipIdx 0).foldl (fun a x=>a.setIfInBounds (off+x.2) x.1) vs:=by
  rw[←Array.foldl_toList];simp
 rw[e]
 have hxl:xs.toList.length=cs.length:=by simpa using hx.1
 obtain⟨h1,h2⟩:=foldl_set off xs.toList 0 vs (by rw[hxl,h.1];omega)
 refine⟨by rw[h1,h.1];simp[L4];omega,fun i c v hc hv=>?_⟩
 rw[h2] at hv
 simp only[Nat.add_zero,hxl] at hv
 unfold L4 at hc
 have lt:(cells.take off).length=off:=by simp;omega
 by_cases h3:i < off
 ·rw[if_neg (by omega)] at hv
  rw[ξe,ζl (by omega),ζx,if_pos h3] at hc
  exact h.2 i c v hc hv
 ·rw[ξe,ζm (by omega),lt] at hc
  by_cases h4:i < off+cs.length
  ·rw[if_pos (by omega)] at hv
   rw[ζl (by omega)] at hc
   exact hx.2 _ c v hc (by simpa using hv)
  ·rw[if_neg (by omega)] at hv
   rw[ζm (by omega),ζy] at hc
   rw[show off+cs.length+(i - off - cs.length)=i by omega] at hc
   exact h.2 i c v hc hv
def fillV(place:Nat→Option (Nat×Nat))(cells:List V):List (Nat×V)→Option (List V)
 | []=>some cells
 | (i,c) :: rest=>match place i,c.cellsOf with
  | some (off,size),some cs=>if cs.length=size∧off+cs.length≤cells.length then fillV place (L4 cells off cs) rest else none
  | _,_=>none
theorem fill_rep{γ:Gh}{w:World}{bs:Nat→Option Blk}{u:Nat→Bool}(place:Nat→Option (Nat×Nat)) :
  ∀(parts:List (Nat×V)) (xs:List (Nat×Value)) (cells out:List V) (vs:Array Value),fillV place cells parts=some out→J8 γ w bs u cells vs→
   xs.length=parts.length→(∀(j:Nat) (p:Nat×V) (x:Nat×Value),parts[j]?=some p→xs[j]?=some x→p.1=x.1∧Rep γ w bs u p.2 x.2)→
   ∃r,Instr.fill place vs xs=some r∧J8 γ w bs u out r
 | [],[],cells,out,vs,h,hc,_,_=>by simp[fillV] at h;subst h;exact⟨vs,rfl,hc⟩
 | [],x :: xs,_,_,_,_,_,hl,_=>by simp at hl
 | p :: parts,[],_,_,_,_,_,hl,_=>by simp at hl
 | (i,c) :: parts,(i',x) :: xs,cells,out,vs,h,hc,hl,hp=>by
  obtain⟨e,hr⟩:=hp 0 _ _ rfl rfl
  simp only at e hr
  subst e
  unfold fillV at h
  split at h
  ·rename_i off size cs hpl hcs
   split at h
   ·rename_i hb
    have hx:=hr.cellsR hcs
    have hc':=splice_rep hc hx hb.2
    obtain⟨r,h1,h2⟩:=fill_rep place parts xs _ out _ h hc' (by simpa using hl) (fun j p x hj hk=>hp (j+1) p x (by simpa using hj) (by simpa using hk))
    refine⟨r,?_,h2⟩
    unfold Instr.fill
    rw[hpl]
    have hxs:x.cells.size=size:=by rw[hx.1,hb.1]
    have hvs:¬(off+x.cells.size > vs.size):=by rw[hx.1,hc.1];omega
    have hcond:((x.cells.size≠size:Bool) || decide (off+x.cells.size > vs.size))=false:=by simp[hxs];rw[hxs] at hvs;omega
    simp only[hxs,ne_eq,not_true_eq_false,decide_false,Bool.false_or]
    rw[if_neg (by simpa[hxs] using hvs)]
    exact h1
   ·simp at h
  ·simp at h
def placesV(P:Program)(fs:Array Field):Option (List (Nat×Nat)):=fs.toList.mapM fun f=>(P.info? f.type).map fun i=>(f.offset,i.size)
theorem run_places_list{P:Program}{w:World}:∀(l:List Field) (pl:List (Nat×Nat)),(l.mapM fun f=>(P.info? f.type).map fun i=>(f.offset,i.size))=some pl→
  (l.mapM (fun f : Field => do pure (f.offset, ← sizeOf f.type)) : Sem (List (Nat × Nat))).run P w = .ok pl w
 | [],pl,h=>by simp at h;subst h;rfl
 | f :: l,pl,h=>by
  simp only[List.mapM_cons,Option.bind_eq_bind,ζc,Option.pure_def,ζa,ζb] at h
  obtain⟨p,⟨i,hi,rfl⟩,pl',h2,rfl⟩:=h
  have ih:=run_places_list (w:=w) l pl' h2
  rw[List.mapM_cons,ζT]
  have e : (do pure (f.offset, ← sizeOf f.type) : Sem (Nat × Nat)).run P w = .ok (f.offset, i.size) w := by simp [sizeOf, typeInfo, hi]
  rw[e,ζQ,ζT,ih,ζQ]
  rfl
theorem run_places{P:Program}{w:World}{fs:Array Field}{pl:List (Nat×Nat)}(h:placesV P fs=some pl) :
  (fs.mapM (fun f => do pure (f.offset, ← sizeOf f.type)) : Sem (Array (Nat × Nat))).run P w = .ok pl.toArray w := by
 rw[Array.mapM_eq_mapM_toList,Sem.run_map,run_places_list _ pl h,ζQ]
def buildV(P:Program)(t:TypeId)(parts:List (Nat×V)):Option V:=
 match zeroV P t with
 | none=>none
 | some z=>match P.underlying t with
  | some (.struct fs)=>match placesV P fs with
   | some pl=>(fillV (pl[·]?) z parts).map .agg
   | none=>none
  | some (.array _ e)=>match P.info? e with
   | some ei=>(fillV (fun i=>some (i * ei.size,ei.size)) z parts).map .agg
   | none=>none
  | _=>none
theorem run_buildV{P:Program}{γ:Gh}{w:World}{bs:Nat→Option Blk}{u:Nat→Bool}{t:TypeId}{parts:List (Nat×V)}{c:V}(h:buildV P t parts=some c){xs:Array (Nat×Value)}
  (hl:xs.size=parts.length) (hp:∀(j:Nat) (p:Nat×V) (x:Nat×Value),parts[j]?=some p→xs[j]?=some x→p.1=x.1∧Rep γ w bs u p.2 x.2) :
  ∃v,(Instr.build t xs).run P w=.ok v w∧Rep γ w bs u c v:=by
 unfold buildV at h
 split at h
 ·simp at h
 ·rename_i z hz
  obtain⟨zv,hz1,hz2⟩:=T3 (γ:=γ) (w:=w) (bs:=bs) (u:=u) hz
  have hp':∀(j:Nat) (p:Nat×V) (x:Nat×Value),parts[j]?=some p→xs.toList[j]?=some x→p.1=x.1∧Rep γ w bs u p.2 x.2:=fun j p x a b=>hp j p x a (by simpa using b)
  split at h
  ·rename_i fs hu
   split at h
   ·rename_i pl hpl
    obtain⟨out,ho,rfl⟩:=ζb.1 h
    obtain⟨r,h1,h2⟩:=fill_rep (γ:=γ) (w:=w) (bs:=bs) (u:=u) _ parts xs.toList z out zv.cells ho hz2 (by simpa using hl) hp'
    have h1':Instr.fill (fun i=>pl.toArray[i]?) zv.cells xs.toList=some r:=by simpa using h1
    refine⟨.agg r,?_,h2.agg⟩
    have e:=run_places (w:=w) hpl
    simp only[Instr.build,ζT,hz1,ζQ,ζO hu,e,h1']
    rfl
   ·simp at h
  ·rename_i n e hu
   split at h
   ·rename_i ei hi
    obtain⟨out,ho,rfl⟩:=ζb.1 h
    obtain⟨r,h1,h2⟩:=fill_rep (γ:=γ) (w:=w) (bs:=bs) (u:=u) _ parts xs.toList z out zv.cells ho hz2 (by simpa using hl) hp'
    refine⟨.agg r,?_,h2.agg⟩
    simp only[Instr.build,ζT,hz1,ζQ,ζO hu,sizeOf,typeInfo,hi,run_program,ζU,h1]
   ·simp at h
  ·simp at h
def evs(e:Operand→Option V)(xs:List Operand):Option (List V):=xs.mapM e
theorem evs_rep{G:Nat→Option (List V)}{γ:Gh}{st:St}{a:Act}{w:World}(h:Sim G γ st a.tmps w):∀{xs:List Operand} {cs:List V},evs (st.ev G) xs=some cs→
  J8 γ w st.b st.u cs (xs.map a.eval).toArray
 | [],cs,hc=>by simp[evs] at hc;subst hc;exact⟨rfl,fun i c v hc=>by simp at hc⟩
 | x :: xs,cs,hc=>by
  simp only[evs,List.mapM_cons,Option.bind_eq_bind,ζc,Option.pure_def,ζa] at hc
  obtain⟨c,h1,cs',h2,rfl⟩:=hc
  have ih:=evs_rep h (xs:=xs) (cs:=cs') h2
  refine⟨by have:=ih.1;simp at this ⊢;exact this,fun i d v hd hv=>?_⟩
  cases i with
  | zero=>simp at hd hv;subst hd;subst hv;exact h.ev h1
  | succ i=>exact ih.2 i d v (by simpa using hd) (by simpa using hv)
theorem J8.rep_fn{γ:Gh}{w:World}{bs:Nat→Option Blk}{u:Nat→Bool}{f:FuncId}{first captured:List V}{fs cs:Array Value}(h1:J8 γ w bs u first fs)(h2:J8 γ w bs u captured cs) :
  Rep γ w bs u (.fn f first captured) (.func (.func f) fs cs):=by
 have:=Rep.fn (γ:=γ) (w:=w) (bs:=bs) (u:=u) f first captured fs.toList cs.toList (by simpa using h1.1) (by simpa using h2.1)
  (fun i c v hc hv=>h1.2 i c v hc (by simpa using hv)) (fun i c v hc hv=>h2.2 i c v hc (by simpa using hv))
 simpa using this
def evO(e:Operand→Option V)(x:Option Operand):Option (Option V):=
 match x with
 | none=>some none
 | some x=>(e x).map some
theorem evO_rep{G:Nat→Option (List V)}{γ:Gh}{st:St}{a:Act}{w:World}(h:Sim G γ st a.tmps w){x:Option Operand}{c:Option V}(hc:evO (st.ev G) x=some c) :
  RepO γ w st.b st.u c (x.map a.eval):=by
 cases x with
 | none=>simp[evO] at hc;subst hc;trivial
 | some x=>
  simp only[evO,ζb] at hc
  obtain⟨d,h1,rfl⟩:=hc
  exact h.ev h1
def evParts(e:Operand→Option V)(ps:List (Nat×Operand)):Option (List (Nat×V)):=ps.mapM fun p=>(e p.2).map fun c=>(p.1,c)
theorem evParts_rep{G:Nat→Option (List V)}{γ:Gh}{st:St}{a:Act}{w:World}(h:Sim G γ st a.tmps w):∀{xs:List (Nat×Operand)} {cs:List (Nat×V)},evParts (st.ev G) xs=some cs→
  xs.length=cs.length∧∀(j:Nat) (p:Nat×V) (x:Nat×Value),cs[j]?=some p→(xs.map fun y=>(y.1,a.eval y.2))[j]?=some x→p.1=x.1∧Rep γ w st.b st.u p.2 x.2
 | [],cs,hc=>by simp[evParts] at hc;subst hc;exact⟨rfl,fun j p x hp=>by simp at hp⟩
 | x :: xs,cs,hc=>by
  simp only[evParts,List.mapM_cons,Option.bind_eq_bind,ζc,Option.pure_def,ζa,ζb] at hc
  obtain⟨p,⟨c,h1,rfl⟩,cs',h2,rfl⟩:=hc
  obtain⟨l,ih⟩:=evParts_rep h (xs:=xs) (cs:=cs') h2
  refine⟨by simp[l],fun j p y hp hy=>?_⟩
  cases j with
  | zero=>simp at hp hy;subst hp;subst hy;exact⟨rfl,h.ev h1⟩
  | succ j=>exact ih j p y (by simpa using hp) (by simpa using hy)
def mmV(isMax:Bool):V→List V→Option V
 | c,[]=>some c
 | .int k x,.int k' y :: rest=>if k=k' then mmV isMax (.int k (if isMax then (if y > x then y else x) else (if y < x then y else x))) rest else none
 | _,_=>none
theorem run_maxV{P:Program}{γ:Gh}{w:World}{bs:Nat→Option Blk}{u:Nat→Bool}:∀(cs:List V) (vs:List Value) (c d:V) (v:Value),mmV true c cs=some d→Rep γ w bs u c v→vs.length=cs.length→
  (∀(i:Nat) (c:V) (v:Value),cs[i]?=some c→vs[i]?=some v→Rep γ w bs u c v)→∃y,(vs.foldlM Builtin.max2 v).run P w=.ok y w∧Rep γ w bs u d y
 | [],[],c,d,v,h,hr,_,_=>by simp[mmV] at h;subst h;exact⟨v,rfl,hr⟩
 | [],_ :: _,_,_,_,_,_,hl,_=>by simp at hl
 | _ :: _,[],_,_,_,_,_,hl,_=>by simp at hl
 | e :: cs,x :: vs,c,d,v,h,hr,hl,hp=>by
  have h0:=hp 0 e x rfl rfl
  cases c<;>cases e<;>simp only[mmV] at h<;>try (simp at h;done)
  split at h
  ·rename_i hk
   subst hk
   have:=hr.int_inv;subst this
   have:=h0.int_inv;subst this
   simp only[if_true] at h
   obtain⟨y,h1,h2⟩:=run_maxV (P:=P) cs vs _ d _ h (.data (.int _ _)) (by simpa using hl) (fun i c v hc hv=>hp (i+1) c v (by simpa using hc) (by simpa using hv))
   exact⟨y,by simpa[List.foldlM_cons,Builtin.max2] using h1,h2⟩
  ·simp at h
theorem run_minV{P:Program}{γ:Gh}{w:World}{bs:Nat→Option Blk}{u:Nat→Bool}:∀(cs:List V) (vs:List Value) (c d:V) (v:Value),mmV false c cs=some d→Rep γ w bs u c v→vs.length=cs.length→
  (∀(i:Nat) (c:V) (v:Value),cs[i]?=some c→vs[i]?=some v→Rep γ w bs u c v)→∃y,(vs.foldlM Builtin.min2 v).run P w=.ok y w∧Rep γ w bs u d y
 | [],[],c,d,v,h,hr,_,_=>by simp[mmV] at h;subst h;exact⟨v,rfl,hr⟩
 | [],_ :: _,_,_,_,_,_,hl,_=>by simp at hl
 | _ :: _,[],_,_,_,_,_,hl,_=>by simp at hl
 | e :: cs,x :: vs,c,d,v,h,hr,hl,hp=>by
  have h0:=hp 0 e x rfl rfl
  cases c<;>cases e<;>simp only[mmV] at h<;>try (simp at h;done)
  split at h
  ·rename_i hk
   subst hk
   have:=hr.int_inv;subst this
   have:=h0.int_inv;subst this
   simp only[Bool.false_eq_true,if_false] at h
   obtain⟨y,h1,h2⟩:=run_minV (P:=P) cs vs _ d _ h (.data (.int _ _)) (by simpa using hl) (fun i c v hc hv=>hp (i+1) c v (by simpa using hc) (by simpa using hv))
   exact⟨y,by simpa[List.foldlM_cons,Builtin.min2] using h1,h2⟩
  ·simp at h
def builtinV(P:Program)(look:Nat→Option Blk)(b:Builtin)(ts:Array TypeId)(cs:List V):Option V:=
 match b,ts[0]?,cs with
 | .len,some t,[c]=>lenV P look t c
 | .max,_,c :: rest=>mmV true c rest
 | .min,_,c :: rest=>mmV false c rest
 | _,_,_=>none
def rowN:List V→Option Int
 | [.int .u8 n]=>some n
 | _=>none
def rowsN:List (List V)→Option (List Int)
 | []=>some []
 | r :: rs=>match rowN r,rowsN rs with
  | some n,some ns=>some (n :: ns)
  | _,_=>none
theorem rowsN_get:∀{rows:List (List V)} {ns:List Int},rowsN rows=some ns→ns.length=rows.length∧∀(i:Nat) (n:Int),ns[i]?=some n→rows[i]?=some [.int .u8 n]
 | [],ns,h=>by simp[rowsN] at h;subst h;exact⟨rfl,fun i n h=>by simp at h⟩
 | r :: rs,ns,h=>by
  simp only[rowsN] at h
  split at h
  ·rename_i n ns' h1 h2
   simp only[ζa] at h;subst h
   obtain⟨k1,k2⟩:=rowsN_get h2
   have hr:r=[.int .u8 n]:=by
    unfold rowN at h1;split at h1
    ·simp only[ζa] at h1;rw[h1]
    ·simp at h1
   refine⟨by simp[k1],fun i m hm=>?_⟩
   cases i with
   | zero=>simp at hm ⊢;subst hm;exact hr
   | succ i=>simpa using k2 i m (by simpa using hm)
  ·simp at h
def convL(P:Program)(look:Nat→Option Blk)(s d:TypeId)(c:V):Option V:=
 match c with
 | .ref b off len=>match P.underlying s,P.underlying d with
  | some (.slice e),some .string=>match P.underlying e with
   | some (.int .u8)=>match look b with
    | some k=>if k.size=1∧off+len≤k.rows.length then (rowsN ((k.rows.drop off).take len)).map fun ns=>.str (strOfNums ns) else none
    | none=>none
   | _=>none
  | _,_=>none
 | c=>convV P s d c
theorem run_convL{P:Program}{G:Nat→Option (List V)}{γ:Gh}{st:St}{tmps:Array Value}{w:World}(hs:Sim G γ st tmps w){s d:TypeId}{x c:V}(h:convL P st.b s d x=some c){vx:Value}(hx:Rep γ w st.b st.u x vx) :
  ∃v,(convert s d vx).run P w=.ok v w∧Rep γ w st.b st.u c v:=by
 unfold convL at h
 split at h
 ·rename_i b off len
  split at h
  ·rename_i e h1 h2
   split at h
   ·rename_i h3
    split at h
    ·rename_i k hk
     split at h
     ·rename_i hz
      obtain⟨ns,hn,rfl⟩:=ζb.1 h
      obtain⟨hl,hg⟩:=rowsN_get hn
      have hl':ns.length=len:=by rw[hl];simp;omega
      have empty:len=0→strOfNums ns=ByteArray.empty:=fun e0=>by
       have:ns=[]:=ζS.1 (by rw[hl',e0])
       subst this;rfl
      cases hx with
      | data hd=>cases hd
      | ref _ _ _ B o cap k' a1 a2 a3 a4 a5 _ _=>
       rw[hk] at a1;simp only[ζa] at a1;subst a1
       refine⟨_,run_convert_bytes_arg w s e h1 h3 B (o+off * k.size) len cap ns hl' (fun i hi=>?_) d h2,.data (.str _)⟩
       have hi':i < ns.length:=by omega
       have hr:=hg i ns[i] (ζd hi')
       rw[List.getElem?_take_of_lt hi,ζy] at hr
       obtain⟨v,v1,v2⟩:=((hs.b b k hk).row a2 hr (by rw[hz.1];decide)) 0 _ rfl
       have:=v2.int_inv;subst this
       unfold cellAt at v1
       rw[hz.1] at v1 ⊢
       simp only[Nat.add_zero,Nat.mul_one] at v1 ⊢
       rw[show o+off+i=o+(off+i) by omega,v1]
       simp[List.getD,ζd hi']
      | refE _ _ B k' a1 _ a2=>
       have e0:ns=[]:=ζS.1 hl'
       subst e0
       refine⟨.string (strOfNums []),?_,.data (.str _)⟩
       have hz:(loadCells B 0).run P w=.ok (([]:List Int).map (Value.int .u8)).toArray w:=rfl
       rw[run_convert_bytes_string w s d e (some B) 0 0 h1 h3 h2,run_bytesToString w B 0 0 [] hz]
       rfl
      | refN _ _ k' a1 _ a2=>
       refine⟨_,run_convert_bytes_nil w s e h1 h3 0 0 d h2,?_⟩
       rw[empty rfl];exact .data (.str _)
      | deadRef _ _ _ _ a1 a2 a3=>rw[hk] at a1;simp at a1
     ·simp at h
    ·simp at h
   ·simp at h
  ·simp at h
 ·exact run_convV h hx
def B7(P:Program)(e:Operand→Option V)(look:Nat→Option Blk)(op:Op):Option V:=
 match op with
 | .move x=>e x
 | .assign x=>e x
 | .pick c a b=>match e c with
  | some (.bool true)=>e a
  | some (.bool false)=>e b
  | _=>none
 | .nilCheck x=>match e x with
  | some (.snap cs)=>some (.snap cs)
  | some (.ptr b i off)=>match look b with|some _=>some (.ptr b i off)|none=>none
  | some (.fn f x y)=>some (.fn f x y)
  | _=>none
 | .binOp op t x y _=>match e x,e y with
  | some cx,some cy=>binV P look op t cx cy
  | _,_=>none
 | .unOp op _ x=>(e x).bind (unV op)
 | .convert s d x=>(e x).bind (convL P look s d)
 | .makeFunc (.func f) first captured=>match evs e first.toList,evs e captured.toList with
  | some a,some b=>some (.fn f a b)
  | _,_=>none
 | .load t x=>(e x).bind (loadV P look t)
 | .fieldAddr s x f=>(e x).bind fun c=>P0 P look s c f
 | .field t x f=>(e x).bind fun c=>fieldV P t c f
 | .indexAddr t x i=>match e x,e i with
  | some c,some d=>L0 P look t c d
  | _,_=>none
 | .index t x i=>match e x,e i with
  | some c,some d=>indexV P t c d
  | _,_=>none
 | .slice t x lo hi mx=>match e x,evO e lo,evO e hi,evO e mx with
  | some c,some l,some h,some m=>sliceV P look t c l h m
  | _,_,_,_=>none
 | .extract x i=>match e x with
  | some (.tup cs)=>cs[i]?
  | _=>none
 | .build t ps=>(evParts e ps.toList).bind (buildV P t)
 | .call { callee:=.builtin b,args,argTypes }=>(evs e args.toList).bind (builtinV P look b argTypes)
 | _=>none
theorem run_readV{P:Program}{G:Nat→Option (List V)}{γ:Gh}{st:St}{a:Act}{w:World}(hs:Sim G γ st a.tmps w){o:Oper}{c:V}(h:B7 P (st.ev G) st.b o.op=some c) :
  ∃v,(execOp a.eval o).run P w=.ok (.value v) w∧Rep γ w st.b st.u c v:=by
 have lift : ∀ {s : Sem Value} {c : V}, (execOp a.eval o = do pure (.value (← s))) → (∃ v, s.run P w = .ok v w ∧ Rep γ w st.b st.u c v) → ∃ v, (execOp a.eval o).run P w = .ok (.value v) w ∧ Rep γ w st.b st.u c v := by
  intro s c he ⟨v,h1,h2⟩
  exact⟨v,by rw[he,ζT,h1,ζQ];rfl,h2⟩
 unfold B7 at h
 split at h
 case h_1 x ho=>exact⟨a.eval x,by simp[execOp,ho],hs.ev h⟩
 case h_2 x ho=>exact⟨a.eval x,by simp[execOp,ho],hs.ev h⟩
 case h_3 x y z ho=>
  split at h
  ·rename_i hc;have:=(hs.ev hc).bool_inv;exact⟨a.eval y,by simp[execOp,ho,this,asBool],hs.ev h⟩
  ·rename_i hc;have:=(hs.ev hc).bool_inv;exact⟨a.eval z,by simp[execOp,ho,this,asBool],hs.ev h⟩
  ·simp at h
 case h_4 x ho=>
  split at h
  ·rename_i cs hc
   simp only[ζa] at h;subst h
   have hr:=hs.ev hc
   obtain⟨B,o',vs,hv,-⟩:=hr.snap_inv
   exact⟨a.eval x,by simp[execOp,ho,hv],hr⟩
  ·rename_i b i off hc
   split at h
   ·rename_i k hk
    simp only[ζa] at h;subst h
    have hr:=hs.ev hc
    obtain⟨B,o',hv,-⟩:=hr.ptr_inv hk
    exact⟨a.eval x,by simp[execOp,ho,hv],hr⟩
   ·simp at h
  ·rename_i f x' y' hc
   simp only[ζa] at h;subst h
   have hr:=hs.ev hc
   obtain⟨fs,cs,hv,-⟩:=hr.fn_inv
   exact⟨a.eval x,by simp[execOp,ho,hv],hr⟩
  ·simp at h
 case h_5 op t x y _ ho=>
  split at h
  ·rename_i cx cy h1 h2
   exact lift (s := do eqGuard op t x y (a.eval x) (a.eval y); binOp op t (a.eval x) (a.eval y)) (by simp only [execOp, ho]) (run_binV h (hs.ev h1) (hs.ev h2) x y)
  ·simp at h
 case h_6 op _ x ho=>
  obtain⟨d,h1,h2⟩:=ζc.1 h
  exact lift (s:=Op.unary op (a.eval x)) (by simp only[execOp,ho]) (run_unV h2 (hs.ev h1))
 case h_7 s d x ho=>
  obtain⟨d',h1,h2⟩:=ζc.1 h
  exact lift (s:=convert s d (a.eval x)) (by simp only[execOp,ho]) (run_convL hs h2 (hs.ev h1))
 case h_8 f first captured ho=>
  split at h
  ·rename_i fa fb h1 h2
   simp only[ζa] at h;subst h
   refine⟨.func (.func f) (first.map a.eval) (captured.map a.eval),by simp[execOp,ho,Instr.makeFunc],?_⟩
   have e1:=evs_rep hs h1
   have e2:=evs_rep hs h2
   have k1:(first.toList.map a.eval).toArray=first.map a.eval:=Array.ext' (by rw[Array.toList_map])
   have k2:(captured.toList.map a.eval).toArray=captured.map a.eval:=Array.ext' (by rw[Array.toList_map])
   rw[k1] at e1
   rw[k2] at e2
   exact J8.rep_fn e1 e2
  ·simp at h
 case h_9 t x ho=>
  obtain⟨d,h1,h2⟩:=ζc.1 h
  exact lift (s:=Instr.loadAt t (a.eval x)) (by simp only[execOp,ho]) (run_loadV hs h2 (hs.ev h1))
 case h_10 s x f ho=>
  obtain⟨d,h1,h2⟩:=ζc.1 h
  exact lift (s:=Instr.fieldAt s (a.eval x) f) (by simp only[execOp,ho]) (run_fieldAddrV h2 (hs.ev h1))
 case h_11 t x f ho=>
  obtain⟨d,h1,h2⟩:=ζc.1 h
  exact lift (s:=Instr.field t (a.eval x) f) (by simp only[execOp,ho]) (run_fieldV h2 (hs.ev h1))
 case h_12 t x i ho=>
  split at h
  ·rename_i cx cy h1 h2
   exact lift (s:=Instr.indexAt t (a.eval x) (a.eval i)) (by simp only[execOp,ho]) (run_indexAddrV h (hs.ev h1) (hs.ev h2))
  ·simp at h
 case h_13 t x i ho=>
  split at h
  ·rename_i cx cy h1 h2
   exact lift (s:=Instr.index t (a.eval x) (a.eval i)) (by simp only[execOp,ho]) (run_indexV h (hs.ev h1) (hs.ev h2))
  ·simp at h
 case h_14 t x lo hi mx ho=>
  split at h
  ·rename_i cx l hh m h1 h2 h3 h4
   exact lift (s:=Instr.sliceAt t (a.eval x) (lo.map a.eval) (hi.map a.eval) (mx.map a.eval)) (by simp only[execOp,ho]) (run_sliceV h (hs.ev h1) (evO_rep hs h2) (evO_rep hs h3) (evO_rep hs h4))
  ·simp at h
 case h_15 x i ho=>
  split at h
  ·rename_i cs hc
   obtain⟨vs,hv,hl,hp⟩:=(hs.ev hc).tup_inv
   obtain⟨hlt,hget⟩:=ζe.1 h
   have hvi:vs[i]?=some (vs[i]'(by omega)):=ζd (by omega)
   exact lift (s:=Instr.extract (a.eval x) i) (by simp only[execOp,ho]) ⟨_,by simp[hv,Instr.extract,hvi],hp i c _ h hvi⟩
  ·simp at h
 case h_16 t ps ho=>
  obtain⟨parts,h1,h2⟩:=ζc.1 h
  obtain⟨l,hp⟩:=evParts_rep hs h1
  refine lift (s:=Instr.build t (ps.map fun(i,x)=>(i,a.eval x))) (by simp only[execOp,ho]) (run_buildV h2 (by simpa using l) fun j p x hj hk=>hp j p x hj ?_)
  have:ps.toList.map (fun y=>(y.1,a.eval y.2))=(ps.map fun(i,x)=>(i,a.eval x)).toList:=by simp
  rw[this];simpa using hk
 case h_17 b args argTypes ho=>
  obtain⟨cs,h1,h2⟩:=ζc.1 h
  have hc:=evs_rep hs h1
  have ev:(args.toList.map a.eval).toArray=args.map a.eval:=Array.ext' (by rw[Array.toList_map])
  rw[ev] at hc
  have pre:execOp a.eval o=builtin b argTypes o.type (args.map fun|.const _=>true|_=>false) (args.map a.eval):=by
   show (execOp a.eval o)=_;unfold execOp;rw[ho];rfl
  unfold builtinV at h2
  split at h2
  ·rename_i t c' ht
   have h0:(args.map a.eval)[0]?=some ((args.map a.eval)[0]'(by rw[hc.1];simp)):=ζg _
   obtain⟨y,hy,hr⟩:=run_lenV (ty:=o.type) h2 ht (hc.2 0 c' _ rfl h0) h0
   exact⟨y,by rw[pre];simp only[builtin,ζT,hy,ζQ];rfl,hr⟩
  ·rename_i c' rest
   have hsz:(args.map a.eval).toList.length=rest.length+1:=by simpa using hc.1
   obtain⟨x,xs,hx⟩:∃x xs,(args.map a.eval).toList=x :: xs:=by
    cases hh:(args.map a.eval).toList with
    | nil=>rw[hh] at hsz;simp at hsz
    | cons x xs=>exact⟨x,xs,rfl⟩
   have hp:∀(i:Nat) (c:V) (v:Value),(c' :: rest)[i]?=some c→(x :: xs)[i]?=some v→Rep γ w st.b st.u c v:=fun i c v h3 h4=>hc.2 i c v h3 (by rw[←hx] at h4;simpa using h4)
   obtain⟨y,hy,hr⟩:=run_maxV (P:=P) rest xs c' c x h2 (hp 0 _ _ rfl rfl) (by rw[hx] at hsz;simpa using hsz) (fun i c v h3 h4=>hp (i+1) c v (by simpa using h3) (by simpa using h4))
   exact⟨y,by rw[pre];simp only[builtin,Builtin.max_,hx,ζT,hy,ζQ];rfl,hr⟩
  ·rename_i c' rest
   have hsz:(args.map a.eval).toList.length=rest.length+1:=by simpa using hc.1
   obtain⟨x,xs,hx⟩:∃x xs,(args.map a.eval).toList=x :: xs:=by
    cases hh:(args.map a.eval).toList with
    | nil=>rw[hh] at hsz;simp at hsz
    | cons x xs=>exact⟨x,xs,rfl⟩
   have hp:∀(i:Nat) (c:V) (v:Value),(c' :: rest)[i]?=some c→(x :: xs)[i]?=some v→Rep γ w st.b st.u c v:=fun i c v h3 h4=>hc.2 i c v h3 (by rw[←hx] at h4;simpa using h4)
   obtain⟨y,hy,hr⟩:=run_minV (P:=P) rest xs c' c x h2 (hp 0 _ _ rfl rfl) (by rw[hx] at hsz;simpa using hsz) (fun i c v h3 h4=>hp (i+1) c v (by simpa using h3) (by simpa using h4))
   exact⟨y,by rw[pre];simp only[builtin,Builtin.min_,hx,ζT,hy,ζQ];rfl,hr⟩
  ·simp at h2
 case h_18=>simp at h
theorem effO_read{P:Program}{G:Nat→Option (List V)}{o:Oper}{st:St}{c:V}(h:B7 P (st.ev G) st.b o.op=some c)(hd:H2 st.n o.dst=true):N0 P G o st (st.put o.dst c):=
 X9 hd fun _ _ _ hs=>run_readV hs h
end Go.EV
