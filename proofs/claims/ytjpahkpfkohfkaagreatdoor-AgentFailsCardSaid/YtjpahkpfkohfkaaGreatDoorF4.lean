/- Guided execution: the guide (a tree that says what a function's body comes to), what it is worth, and what is checked of it. Definitions and first le ..; no conditions. -/
import Derived.Test.YtjpahkpfkohfkaaGreatDoorF3
import Derived.KernelRfl
set_option linter.unusedVariables false
set_option linter.unusedSimpArgs false
namespace Go.EV
open Go
structure Ty(α:Type) where
 c:α→List V
 d:α→List V
 cd:∀x,(c x).all U5=true
 dd:∀x,(d x).all U5=true
 vw:∀look x,K7 (fun v=>D4 (M9 look 1 v)) (c x)=some (d x)
 st:∀x,(d x).map V.strip=d x
def U8(rows:List (List V)):Prop:=∀r,r∈rows→∀c,c∈r→U5 c=true
theorem Ty.data{α:Type}(t:Ty α)(l:List α):U8 (l.map t.c):=fun r hr c hc=>by
 obtain⟨x,_,rfl⟩:=ζt.1 hr
 exact ζE.1 (t.cd x) c hc
structure Spec(P:Program)(G:Nat→Option (List V))(α:Type) where
 f:FuncId
 args:List V
 ins:List (Nat×Blk)
 o:Option α
 res:α→V
 outs:α→List (Nat×Blk)
 dt:List Nat
 dat:∀r p,p∈outs r→p.1∈dt→U8 p.2.rows
 ok:∀r,o=some r→CallC P G f args (ofL ins) (res r) (ofL (outs r))
structure Ext where
 ex:Exit
 ts:List (Nat×V)
 bs:List (Nat×Blk)
 dt:List Nat
 dat:∀p,p∈bs→p.1∈dt→U8 p.2.rows
def Ext.l(ex:Exit)(ts:List (Nat×V))(bs:List (Nat×Blk)):Ext:=⟨ex,ts,bs,[],fun _ _ h=>by simp at h⟩
structure BT where
 id:Nat
 k:Blk
 dat:U8 k.rows
def BT.of{α:Type}(id:Nat)(t:Ty α)(size:Nat)(l:List α)(excl:Bool:=true):BT:=⟨id,⟨size,excl,l.map t.c⟩,t.data l⟩
theorem bts_dat(tb:List BT){p:Nat×Blk}(h:p∈tb.map fun x=>(x.id,x.k)):U8 p.2.rows:=by
 obtain⟨x,_,rfl⟩:=ζt.1 h
 exact x.dat
def Ext.of(ex:Exit)(ts:List (Nat×V))(bs:List (Nat×Blk))(tb:List BT)(h:(bs.all fun p=>!(tb.any fun x=>x.id==p.1))=true):Ext:=
 ⟨ex,ts,bs++tb.map fun x=>(x.id,x.k),tb.map (·.id),fun p hp hd=>by
  rcases ζr.1 hp with hp|hp
  ·obtain⟨x,hx,e⟩:=ζt.1 hd
   have:=ζE.1 h p hp
   simp only[ζB,List.any_eq_false,beq_iff_eq] at this
   exact absurd e (this x hx)
  ·exact bts_dat tb hp⟩
structure ReW where
 a:List Wr
 b:List Wr
 h:a=b
 dt:List Nat
 dat:∀i k,Wr.b i (some k)∈b→i∈dt→U8 k.rows
structure VwW:Type 1 where
 b:Nat
 α:Type
 ty:Ty α
 rows:List (List V)
 n:Nat
 l:List α
 w:Bool
 h:rows.take n=l.map ty.c
 hw:w=true→n=rows.length
def VwW.o(b:Nat){α:Type}(ty:Ty α)(l:List α):VwW:=⟨b,α,ty,l.map ty.c,l.length,l,true,by rw[←ζs (f:=ty.c),List.take_length],fun _=>(ζs _).symm⟩
def VwW.part(b:Nat){α:Type}(ty:Ty α)(l:List α)(n:Nat):VwW:=⟨b,α,ty,l.map ty.c,n,l.take n,false,List.map_take.symm,fun h=>by simp at h⟩
def vsOk(vs:List VwW):Bool:=vs.all fun v=>v.w || (vs.filter fun x=>x.b==v.b).length==1
inductive GhW:Type 1 where
 | virt (d t size:Nat)
 | virtC (d b j size:Nat)
 | ren (a b:Nat)
 | share (v:VwW) (n:Nat)
 | drop (bs:List Nat)
 | tell (b:Nat) (es:List (List V))
 | len (b m:Nat) (ns:List Nat) (h:∀n,n∈ns→n=m)
structure Rule(P:Program)(G:Nat→Option (List V))(β:Type) where
 op:Op
 dst:Option Nat
 vals:List (Operand×V)
 blks:List (Nat×Blk)
 o:Option β
 ws:β→List Wr
 dt:List Nat
 dat:∀r i k,Wr.b i (some k)∈ws r→i∈dt→U8 k.rows
 ok:∀r,o=some r→∀(x:Oper) (st:St),x.op=op→x.dst=dst→(∀p,p∈vals→Evs G st p.1 p.2)→(∀p,p∈blks→st.b p.1=some p.2)→
  (∀d,dst=some d→d < st.n∧st.u d=false)→N0 P G x st (st.app (ws r))
structure Sub(P:Program)(G:Nat→Option (List V))(ε:Type) where
 c:Code
 n:Nat
 x:Ext
 o:Option ε
 E:ε→Ext
 ok:∀r,o=some r→TV P G c (G0 n x.ts x.bs (x.bs.map (·.1))) (fun e s=>e=(E r).ex∧Gst G s (G0 n (E r).ts (E r).bs ((E r).bs.map (·.1))))
inductive T(P:Program)(G:Nat→Option (List V)):Type→Type 1 where
 | done {ρ:Type} (r:ρ):T P G ρ
 | fail {ρ:Type}:T P G ρ
 | br {ρ:Type} (a:Nat) (c:Bool) (x y:T P G ρ):T P G ρ
 | tt {ρ:Type} (k:T P G ρ):T P G ρ
 | ff {ρ:Type} (k:T P G ρ):T P G ρ
 | chk {ρ:Type} (a:Nat) (c:Bool) (k:T P G ρ):T P G ρ
 | re {ρ:Type} (a:Nat) (w:ReW) (k:T P G ρ):T P G ρ
 | row {ρ α:Type} (a:Nat) (ty:Ty α) (l:List α) (j:Nat) (c:Bool) (k:α→T P G ρ):T P G ρ
 | app {ρ α:Type} (a:Nat) (ty:Ty α) (l x:List α) (bytes:Nat) (fl:Bool) (h:fl=true→∀y,ty.c y=ty.d y) (k:T P G ρ):T P G ρ
 | call {ρ α:Type} (a:Nat) (s:Spec P G α) (Li Lo:List (Nat×Nat)) (k:α→T P G ρ):T P G ρ
 | call2 {ρ α β:Type} (a:Nat) (s:Spec P G (α⊕β)) (Li Lo:List (Nat×Nat)) (k:α→T P G ρ) (k2:β→T P G ρ):T P G ρ
 | view {ρ α:Type} (a:Nat) (s:Spec P G α) (vs:List VwW) (k:α→T P G ρ):T P G ρ
 | fact {ρ:Type} (p:Prop) (i:Decidable p) (k:p→T P G ρ):T P G ρ
 | cnd {ρ ε:Type} (id:Nat) (ts:List Nat) (first:T P G ε) (E:ε→List V) (k:ε→T P G ρ):T P G ρ
 | bind {ρ ε:Type} (j:Nat) (first:T P G ε) (E:ε→Ext) (k:ε→T P G ρ):T P G ρ
 | bind2 {ρ ε ζ:Type} (j:Nat) (first:T P G (ε⊕ζ)) (E:ε→Ext) (E2:ζ→Ext) (k:ε→T P G ρ) (k2:ζ→T P G ρ):T P G ρ
 | lp {σ ε:Type} (S:σ→Ext) (body:σ→T P G (σ⊕ε)) (x:σ):T P G ε
 | gh {ρ:Type} (a:Nat) (g:GhW) (k:T P G ρ):T P G ρ
 | opr {ρ β:Type} (a:Nat) (R:Rule P G β) (k:β→T P G ρ):T P G ρ
 | sub {ρ ε:Type} (S:Sub P G ε) (k:ε→T P G ρ):T P G ρ
 | ceq {ρ:Type} (a:Nat) (n:Int) (vs:List Int) (k:Int→T P G ρ):T P G ρ
def I8{σ ε:Type}(f:σ→Option (σ⊕ε))(n:Nat):σ→Option ε:=
 Nat.rec (fun _=>none) (fun _ ih x=>match f x with
  | none=>none
  | some (.inl y)=>ih y
  | some (.inr e)=>some e) n
def FUEL:Nat:=18446744073709551616
def T.run{P:Program}{G:Nat→Option (List V)}:{ρ:Type}→T P G ρ→Option ρ
 | _,.done r=>some r
 | _,.fail=>none
 | _,.br _ c x y=>bif c then x.run else y.run
 | _,.tt k=>k.run
 | _,.ff k=>k.run
 | _,.chk _ c k=>bif c then k.run else none
 | _,.re _ _ k=>k.run
 | _,.row _ _ l j c k=>bif c then (match l[j]? with|some x=>(k x).run|none=>none) else none
 | _,.app _ _ l x bytes _ _ k=>bif decide ((l.length+x.length) * bytes≤140737488355328) then k.run else none
 | _,.call _ s _ _ k=>match s.o with|some r=>(k r).run|none=>none
 | _,.call2 _ s _ _ k k2=>match s.o with|some (.inl r)=>(k r).run|some (.inr r)=>(k2 r).run|none=>none
 | _,.view _ s _ k=>match s.o with|some r=>(k r).run|none=>none
 | _,.fact _ i k=>match i with|.isTrue h=>(k h).run|.isFalse _=>none
 | _,.cnd _ _ first _ k=>match first.run with|some e=>(k e).run|none=>none
 | _,.bind _ first _ k=>match first.run with|some e=>(k e).run|none=>none
 | _,.bind2 _ first _ _ k k2=>match first.run with|some (.inl e)=>(k e).run|some (.inr e)=>(k2 e).run|none=>none
 | _,.lp _ body x=>I8 (fun y=>(body y).run) FUEL x
 | _,.gh _ _ k=>k.run
 | _,.opr _ R k=>match R.o with|some r=>(k r).run|none=>none
 | _,.sub S k=>match S.o with|some r=>(k r).run|none=>none
 | _,.ceq _ n vs k=>bif vs.contains n then (k n).run else none
inductive C:Type 1 where
 | stuck (why:Nat)
 | fail
 | fin (v:Option V) (e:Option Exit) (ts:List (Nat×V)) (bs:List (Nat×Option Blk))
 | fins (ts:List V)
 | br (c:Bool) (x y:C)
 | chk (c:Bool) (k:C)
 | re (w:List Wr) (k:C)
 | row {α:Type} (rows:List (List V)) (j:Nat) (c:Bool) (k:α→C)
 | app (rows:List (List V)) (len:Nat) (srows:List (List V)) (bytes:Nat) (fl:Bool) (k:C)
 | call {α:Type} (f:FuncId) (args:List V) (ins:List (Nat×Blk)) (k:α→C)
 | call2 {α β:Type} (f:FuncId) (args:List V) (ins:List (Nat×Blk)) (k:α→C) (k2:β→C)
 | view {α:Type} (f:FuncId) (args:List V) (eqs:List (Nat×List (List V)×Nat)) (k:α→C)
 | bind {ε:Type} (x:C) (k:ε→C)
 | bind2 {ε ζ:Type} (x:C) (k:ε→C) (k2:ζ→C)
 | loop {σ:Type} (ts:List (Nat×V)) (bs:List (Nat×Option Blk)) (body:σ→C)
 | gh (eqs:List (Nat×List (List V)×Nat)) (k:C)
 | fact (p:Prop) (k:p→C)
 | sub {ε:Type} (c:Code) (n:Nat) (ts:List (Nat×V)) (bs:List (Nat×Option Blk)) (k:ε→C)
 | rule {β:Type} (op:Op) (dst:Option Nat) (vals:List (Option V)) (blks:List (Option Blk)) (k:β→C)
inductive C8:Type→Type 1 where
 | fn {ρ:Type} (rs:List ResultVar) (res:ρ→V) (outs:ρ→List (Nat×Blk)):C8 ρ
 | mid {ρ:Type} (E:ρ→Ext):C8 ρ
 | reg {ρ:Type} (ts:List Nat) (E:ρ→List V):C8 ρ
 | rnd {σ ε:Type} (S:σ→Ext) (E:ε→Ext):C8 (σ⊕ε)
 | fnp {α β:Type} (rs:List ResultVar) (res:α→V) (outs:α→List (Nat×Blk)) (ex:β→Exit) (pouts:β→List (Nat×Blk)):C8 (α⊕β)
def V8(f:V→V→V):List V→List V→List V
 | e :: es,c :: cs=>f e c :: V8 f es cs
 | _,cs=>cs
def A8:Nat→V→V→V
 | 0,_,c=>c
 | n+1,e,c=>match c with
  | .nilsl=>match e with
   | .sl o z _=>.sl o z []
   | _=>.nilsl
  | .sl o z r=>match e with
   | .sl false _ _=>.sl false z r
   | _=>.sl o z r
  | .agg cs=>match e with
   | .agg es=>.agg (V8 (A8 n) es cs)
   | _=>.agg cs
  | .tup cs=>match e with
   | .tup es=>.tup (V8 (A8 n) es cs)
   | _=>.tup cs
  | c=>c
def extFin(e:Exit)(x:Ext):C:=.fin none (some e) x.ts (x.bs.map fun p=>(p.1,some p.2))
def VwW.eqn(v:VwW):Nat×List (List V)×Nat:=(v.b,v.rows,v.n)
def GhW.eqs:GhW→List (Nat×List (List V)×Nat)
 | .share v n=>List.replicate (n+1) v.eqn
 | .len b _ ns _=>ns.map fun n=>(b,[],n)
 | _=>[]
def T.expect{P:Program}{G:Nat→Option (List V)}:{ρ:Type}→C8 ρ→T P G ρ→C
 | _,F,.done r=>match F with
  | .fn _ res outs=>.fin (some (res r)) none [] ((outs r).map fun p=>(p.1,some p.2))
  | .mid E=>extFin (E r).ex (E r)
  | .reg _ E=>.fins (E r)
  | .rnd S E=>match r with
   | .inl y=>extFin (S y).ex (S y)
   | .inr e=>extFin (E e).ex (E e)
  | .fnp _ res outs ex pouts=>match r with
   | .inl r=>.fin (some (res r)) none [] ((outs r).map fun p=>(p.1,some p.2))
   | .inr z=>.fin none (some (ex z)) [] ((pouts z).map fun p=>(p.1,some p.2))
 | _,_,.fail=>.fail
 | _,F,.br _ c x y=>.br c (x.expect F) (y.expect F)
 | _,F,.tt k=>k.expect F
 | _,F,.ff k=>k.expect F
 | _,F,.chk _ c k=>.chk c (k.expect F)
 | _,F,.re _ w k=>.re w.a (k.expect F)
 | _,F,.row _ ty l j c k=>.row (l.map ty.c) j c fun x=>(k x).expect F
 | _,F,.app _ ty l x bytes fl _ k=>.app (l.map ty.c) l.length (x.map ty.c) bytes fl (k.expect F)
 | _,F,.call _ s _ _ k=>.call s.f s.args s.ins fun r=>(k r).expect F
 | _,F,.call2 _ s _ _ k k2=>.call2 s.f s.args s.ins (fun r=>(k r).expect F) fun r=>(k2 r).expect F
 | _,F,.fact p _ k=>.fact p fun h=>(k h).expect F
 | _,F,.view _ s vs k=>.view s.f s.args (vs.map VwW.eqn) fun r=>(k r).expect F
 | _,F,.cnd _ ts first E k=>.bind (first.expect (.reg ts E)) fun e=>(k e).expect F
 | _,F,.bind _ first E k=>.bind (first.expect (.mid E)) fun e=>(k e).expect F
 | _,F,.bind2 _ first E E2 k k2=>.bind2 (first.expect (.mid (Sum.elim E E2))) (fun e=>(k e).expect F) fun e=>(k2 e).expect F
 | _,F,.lp S body x=>match F with
  | .mid E=>.loop (S x).ts ((S x).bs.map fun p=>(p.1,some p.2)) fun y=>(body y).expect (.rnd S E)
  | _=>.fail
 | _,F,.gh _ g k=>.gh g.eqs (k.expect F)
 | _,F,.opr _ R k=>.rule R.op R.dst (R.vals.map fun p=>some p.2) (R.blks.map fun p=>some p.2) fun r=>(k r).expect F
 | _,F,.sub S k=>.sub S.c S.n S.x.ts (S.x.bs.map fun p=>(p.1,some p.2)) fun r=>(k r).expect F
 | _,F,.ceq _ n vs k=>vs.foldr (fun v r=>.br (n==v) ((k v).expect F) r) .fail
structure D where
 n:Nat
 ts:List (Nat×V)
 bs:List (Nat×Blk)
 us:List Nat
 sy:List Nat
def D.st(d:D):St:=G0 d.n d.ts d.bs d.us
inductive Kf where
 | seq (y:Code)
 | block (id:Nat)
 | scope
 | lp (c:Code)
mutual
def nrm:Nat→V→(V→C)→C
 | 0,v,k=>k v
 | n+1,v,k=>match v with
  | .int a b=>k (.int a b)
  | .bool b=>k (.bool b)
  | .str s=>k (.str s)
  | .nilp=>k .nilp
  | .nilf=>k .nilf
  | .yld l=>k (.yld l)
  | .nilsl=>k .nilsl
  | .ifc x=>k (.ifc x)
  | .sl o z r=>k (.sl o z r)
  | .snap l=>nrmL n l fun l=>k (.snap l)
  | .ref b o l=>k (.ref b o l)
  | .ptr b i o=>k (.ptr b i o)
  | .fn f a c=>nrmL n a fun a=>nrmL n c fun c=>k (.fn f a c)
  | .agg l=>nrmL n l fun l=>k (.agg l)
  | .tup l=>nrmL n l fun l=>k (.tup l)
  | .undef=>k .undef
  | .mp b=>k (.mp b)
def nrmL:Nat→List V→(List V→C)→C
 | 0,l,k=>k l
 | n+1,l,k=>match l with
  | []=>k []
  | v :: l=>nrm n v fun v=>nrmL n l fun l=>k (v :: l)
end
def nrmR:List (List V)→(List (List V)→C)→C
 | [],k=>k []
 | r :: rs,k=>nrmL 1000 r fun r=>nrmR rs fun rs=>k (r :: rs)
def nrmT:List (Nat×V)→(List (Nat×V)→C)→C
 | [],k=>k []
 | (i,v) :: l,k=>nrm 1000 v fun v=>nrmT l fun l=>k ((i,v) :: l)
def nrmB(sy:List Nat):List (Nat×Blk)→(List (Nat×Blk)→C)→C
 | [],k=>k []
 | (i,b) :: l,k=>match sy.contains i with
  | true=>match b with|⟨z,x,r⟩=>nrmB sy l fun l=>k ((i,⟨z,x,r⟩) :: l)
  | false=>match b with|⟨z,x,r⟩=>nrmR r fun r=>nrmB sy l fun l=>k ((i,⟨z,x,r⟩) :: l)
def wrTs(ws:List Wr):List Nat:=ws.filterMap fun|.t i _=>some i|_=>none
def wrBs(ws:List Wr):List Nat:=ws.filterMap fun|.b i _=>some i|_=>none
def J0.wts(p:J0):List Nat:=p.flatMap fun x=>wrTs x.2
def J0.wbs(p:J0):List Nat:=p.flatMap fun x=>wrBs x.2
def binC(op:BinOp)(k:IntKind)(a b:Int):Option (Bool×V):=
 match op with
 | .quo=>some (!(b==0),.int k (k.wrap (a.tdiv b)))
 | .rem=>some (!(b==0),.int k (a.tmod b))
 | .shl=>some (decide (0≤b),.int k (k.wrap (a * 2 ^ (min b.toNat k.bits))))
 | .shr=>some (decide (0≤b),.int k (a.fdiv (2 ^ (min b.toNat k.bits))))
 | _=>none
def loC(lo:Option V)(h:Nat):Option (Bool×Nat):=
 match lo with
 | none=>some (true,0)
 | some (.int _ l)=>some (decide (0≤l)&&decide (l≤h),l.toNat)
 | _=>none
def hiC(n:Nat)(hi mx:Option V):Option (Bool×Nat):=
 match hi,mx with
 | none,none=>some (true,n)
 | some (.int _ h),none=>some (decide (0≤h)&&decide (h≤n),h.toNat)
 | some (.int _ h),some (.int _ m)=>some (decide (0≤h)&&(decide (h≤m)&&decide (m≤n)),h.toNat)
 | _,_=>none
def cutC(n:Nat)(lo hi mx:Option V):Option (Bool×Nat×Nat):=
 match hiC n hi mx with
 | some (c1,h)=>match loC lo h with
  | some (c2,l)=>some (match hi,mx,lo with|none,none,_=>c2|_,_,none=>c1|_,_,_=>c1&&c2,l,h)
  | none=>none
 | none=>none
def sliceC(P:Program)(look:Nat→Option Blk)(t:TypeId)(c:V)(lo hi mx:Option V):Option (Bool×V):=
 match P.underlying t with
 | some .string=>match c,mx with
  | .str s,none=>(cutC s.size lo hi none).map fun x=>(x.1,.str (s.extract x.2.1 x.2.2))
  | _,_=>none
 | some (.slice e)=>match P.info? e with
  | none=>none
  | some ei=>match c with
   | .sl _ size rows=>if size=ei.size then (cutC rows.length lo hi mx).map fun x=>(x.1,.sl false size ((rows.take x.2.2).drop x.2.1)) else none
   | .ref b off len=>match look b with
    | some k=>if k.size=ei.size∧mx.isNone=true then (cutC len lo hi none).map fun x=>(x.1,.ref b (match off with|0=>x.2.1|o+1=>o+1+x.2.1) (x.2.2 - x.2.1)) else none
    | none=>none
   | _=>none
 | _=>none
def readC(P:Program)(e:Operand→Option V)(look:Nat→Option Blk)(op:Op):Option (Bool×V):=
 match op with
 | .binOp op _ x y _=>match e x,e y with
  | some (.int k a),some (.int k' b)=>match op with
   | .shl|.shr=>binC op k a b
   | _=>if k=k' then binC op k a b else none
  | some (.str a),some (.str b)=>match op with
   | .add=>some (decide (a.size+b.size≤9223372036854775807),.str (a++b))
   | _=>none
  | _,_=>none
 | .index t x i=>match P.underlying t,e x,e i with
  | some .string,some (.str s),some (.int _ i)=>some (decide (0≤i∧i < s.size),.int .u8 (s.data.getD i.toNat 0).toNat)
  | _,_,_=>none
 | .indexAddr t x i=>match P.underlying t,e x,e i with
  | some (.slice el),some (.ref b off len),some (.int _ n)=>match P.info? el with
   | some ei=>match look b with
    | some k=>if k.size=ei.size then some (decide (0≤n)&&decide (n < len),.ptr b (off+n.toNat) 0) else none
    | none=>none
   | none=>none
  | _,_,_=>none
 | .slice t x lo hi mx=>match e x,evO e lo,evO e hi,evO e mx with
  | some c,some l,some h,some m=>sliceC P look t c l h m
  | _,_,_,_=>none
 | _=>none
def chkOp(P:Program)(G:Nat→Option (List V))(ops:Array Oper)(i:Nat)(s:St):Option (Bool×List Wr):=
 match opAt ops i s with
 | some o=>if H2 s.n o.dst=true then (readC P (s.evC G o) (s.lookC o []) o.op).map fun x=>(x.1,dstW o.dst x.2) else none
 | none=>none
def rowOp(P:Program)(G:Nat→Option (List V))(ops:Array Oper)(i:Nat)(s:St):Option (List (List V)×Nat×Bool×(List V→Option (List Wr))):=
 match opAt ops i s with
 | some o=>match o.op,o.dst with
  | .indexAddr t x j,some d=>if d < s.n then match s.evC G o x,s.evC G o j with
    | some (.sl _ size rows),some (.int _ n)=>if sliceSz P t=some size then some (rows,n.toNat,decide (0≤n),fun r=>some [.t d (.snap r)]) else none
    | _,_=>none
   else none
  | .load t x,some d=>if d < s.n then match s.evC G o x with
    | some (.ptr b r off)=>match s.lookC o [] b with
     | some k=>some (k.rows,r,true,fun row=>(O9 P t (row.drop off)).map fun c=>[.t d c])
     | none=>none
    | _=>none
   else none
  | .store t x y,none=>match s.evC G o x,s.evC G o y with
   | some (.ptr b r off),some c=>match s.lookC o [] b with
    | some k=>if k.excl=true then some (k.rows,r,true,fun row=>(storeRowV P t k.size row off c).map fun r'=>[.b b (some ⟨k.size,true,k.rows.set r (V8 (A8 8) row r')⟩)]) else none
    | none=>none
   | _,_=>none
  | _,_=>none
 | none=>none
structure AppD where
 d:Nat
 b:Option Nat
 rows:List (List V)
 len:Nat
 excl:Bool
 sb:Option Nat
 srows:List (List V)
 size:Nat
 bytes:Nat
 fl:Bool
def appDst(look:Nat→Option Blk)(size:Nat)(c:V):Option (Option Nat×List (List V)×Nat×Bool):=
 match c with
 | .nilsl=>some (none,[],0,true)
 | .ref b 0 len=>match look b with
  | some k=>if k.size=size then some (some b,k.rows,len,k.excl) else none
  | none=>none
 | _=>none
def appSrc(look:Nat→Option Blk)(size:Nat)(dst:Option Nat)(c:V):Option (Option Nat×List (List V)×Bool):=
 match c with
 | .nilsl=>some (none,[],false)
 | .sl _ z rows=>if z=size then some (none,rows,true) else none
 | .ref b 0 len=>match look b with
  | some k=>if k.size=size∧len=k.rows.length∧¬dst=some b then some (some b,k.rows,false) else none
  | none=>none
 | _=>none
def appOp(P:Program)(G:Nat→Option (List V))(ops:Array Oper)(ex:List Nat)(i:Nat)(s:St):Option AppD:=
  match opAt ops i s with
  | some o=>match o.op,o.dst with
    | .call { callee:=.builtin .append,args:=as,argTypes:=ts },some d=>if d < s.n∧s.u d=false then match as.toList,ts.toList with
        | [x,y],[t,t2]=>match s.evC G o x,s.evC G o y,P.underlying t,P.underlying t2 with
          | some cx,some cy,some (.slice e),some (.slice _)=>match P.info? e with
            | some ei=>if 0 < ei.bytes∧(zeroV P e).map List.length=some ei.size then match appDst (s.lookC o ex) ei.size cx with
                | some (b,rows,len,excl)=>match appSrc (s.lookC o ex) ei.size b cy with
                  | some (sb,srows,fl)=>some ⟨d,b,rows,len,excl,sb,srows,ei.size,ei.bytes,fl⟩
                  | none=>none
                | none=>none
              else none
            | none=>none
          | _,_,_,_=>none
        | _,_=>none
      else none
    | _,_=>none
  | none=>none
def takeOp(P:Program)(G:Nat→Option (List V))(ops:Array Oper)(col i:Nat)(s:St):Option (List (List V)×Nat×(List V→Option (List Wr))):=
  match opAt ops i s with
  | some o=>match o.op,o.dst with
    | .load t x,some d=>if d < s.n∧s.u d=false then match s.evC G o x with
        | some (.ptr b r off)=>match s.lookC o [] b with
          | some k=>match isAggT P t with
            | false=>some (k.rows,r,fun row=>match row[off]? with
              | some (.sl true z rs)=>if z < W9 then some [.b b (some ⟨k.size,k.excl,k.rows.set r (row.set off (.sl false z rs))⟩),.b d (some ⟨z,false,rs.map (·.map V.strip)⟩),.t d (.ref d 0 rs.length)] else none
              | _=>none)
            | true=>match P.info? t with
              | some ti=>some (k.rows,r,fun row=>match row[col]? with
                | some (.sl true z rs)=>if off≤col∧off+ti.size≤row.length∧(P.underlying t).isSome=true∧z < W9 then
                    some [.b b (some ⟨k.size,k.excl,k.rows.set r (row.set col (.sl false z rs))⟩),.b d (some ⟨z,false,rs.map (·.map V.strip)⟩),.t d (.agg (((row.set col (.ref d 0 rs.length)).drop off).take ti.size))]
                  else none
                | _=>none)
              | none=>none
          | none=>none
        | _=>none
      else none
    | _,_=>none
  | none=>none
def nstOp(P:Program)(G:Nat→Option (List V))(ops:Array Oper)(hole:List V)(fin:List (List V))(col i:Nat)(s:St):Option (Nat×Blk×Nat×Nat×Blk×Nat×Nat×List V):=
  match opAt ops i s with
  | some o=>match o.op,o.dst with
    | .store t x y,none=>match s.evC G o x,s.evC G o y with
      | some (.ptr b r off),some c=>match s.lookC o [] b with
        | some k=>if k.excl=true then match storeRowV P t k.size hole off c with
            | some r'=>match r'[col]? with
              | some (.ref d2 off2 len)=>match s.lookC o [] d2 with
                | some kd=>if b=d2∨W9≤k.size then none else some (b,k,r,d2,kd,off2,len,r'.set col (.sl true kd.size fin))
                | none=>none
              | _=>none
            | none=>none
          else none
        | none=>none
      | _,_=>none
    | _,_=>none
  | none=>none
def renB(sy:List Nat)(b:Nat)(f:Nat→Nat)(k:Blk):Blk:=match sy.contains b with
 | true=>k
 | false=>k.ren f
def anyL(L:List (Nat×Nat))(b:Nat):Bool:=L.any fun x=>x.2==b
def anyC(L:List (Nat×Nat))(b:Nat):Bool:=L.any fun x=>x.1==b
def callOp(P:Program)(G:Nat→Option (List V))(ops:Array Oper)(Li Lo:List (Nat×Nat))(sy:List Nat)(i:Nat)(s:St):Option (Option Nat×FuncId×List V×List (Nat×Blk)):=
 match callG P G ops ((Li++Lo).map (·.2)) Li Lo [] i s with
 | some (dst,f,as,bl,_)=>
  if (idsOk Li Lo []&&bl.all fun x=>sy.contains (Y8 (Li++Lo) x.1) || (H7 x.2.rows.flatten).all (anyL Li))=true then
   some (dst,f,as,bl.map fun x=>(x.1,renB sy (Y8 (Li++Lo) x.1) (Y1 (Li++Lo)) x.2))
  else none
 | none=>none
def outsOk(L:List (Nat×Nat))(dt:List Nat)(O:List (Nat×Blk))(res:V):Bool:=
 (O.all fun x=>anyC L x.1&&(dt.contains x.1 || (H7 x.2.rows.flatten).all (anyC L)))&&(U2 res).all (anyC L)
def callWs(L:List (Nat×Nat))(dt:List Nat)(O:List (Nat×Blk))(dst:Option Nat)(res:V):List Wr:=
 (L.map fun x=>Wr.b x.2 ((ofL O x.1).map (renB dt x.1 (Y8 L))))++dstW dst (W5 (Y8 L) res)
def syOuts(L:List (Nat×Nat))(dt:List Nat):List Nat:=(L.filter fun x=>dt.contains x.1).map (·.2)
def viewG(look:Nat→Option Blk)(vs:List VwW):Nat→V→Option V
 | 0,_=>none
 | n+1,c=>match c with
  | .ref b off len=>match vs.find? (fun v=>v.b==b) with
   | some v=>match off with
    | 0=>match n with
     | 0=>none
     | _+1=>(look b).map fun k=>.sl false k.size (v.l.map v.ty.d)
    | _+1=>none
   | none=>M9 look (n+1) (.ref b off len)
  | .ptr b i off=>match look b with
   | some k=>match k.rows[i]? with
    | some r=>(K7 (fun c=>D4 (viewG look vs n c)) (r.drop off)).map .snap
    | none=>none
   | none=>none
  | .fn f a c=>match K7 (viewG look vs n) a,K7 (viewG look vs n) c with
   | some a',some c'=>some (.fn f a' c')
   | _,_=>none
  | .agg l=>(K7 (viewG look vs n) l).map .agg
  | .tup l=>(K7 (viewG look vs n) l).map .tup
  | c=>M9 look (n+1) c
def N2(look:Nat→Option Blk)(vs:List VwW):Nat→V→List (Nat×List (List V)×Nat)
 | 0,_=>[]
 | n+1,c=>match c with
  | .ref b _ len=>match vs.find? (fun v=>v.b==b) with
   | some _=>match look b with
    | some k=>[(b,k.rows,len)]
    | none=>[]
   | none=>[]
  | .ptr b i off=>match look b with
   | some k=>match k.rows[i]? with
    | some r=>(r.drop off).flatMap (N2 look vs n)
    | none=>[]
   | none=>[]
  | .fn _ a c=>a.flatMap (N2 look vs n)++c.flatMap (N2 look vs n)
  | .agg l=>l.flatMap (N2 look vs n)
  | .tup l=>l.flatMap (N2 look vs n)
  | _=>[]
def viewOp(P:Program)(G:Nat→Option (List V))(ops:Array Oper)(ex:List Nat)(vs:List VwW)(i:Nat)(s:St):Option (Option Nat×FuncId×List V×List (Nat×List (List V)×Nat)):=
 match callAt P G ops i s with
 | some (o,f,cs)=>match vsOk vs with
  | true=>(K7 (viewG (s.lookC o ex) vs 8) cs).map fun ds=>(o.dst,f,ds,cs.flatMap (N2 (s.lookC o ex) vs 8))
  | false=>none
 | none=>none
def reach(look:Nat→Option Blk):Nat→List Nat→List Nat
 | 0,bs=>bs
 | n+1,bs=>bs++reach look n (bs.flatMap fun b=>match look b with|some k=>H7 (k.rows.headD [])|none=>[])
def coeR:List (List V)→List (List V)→List (List V)
 | e :: es,c :: cs=>V8 (A8 8) e c :: coeR es cs
 | _,cs=>cs
def coeSrc(sy:List Nat)(sb:Option Nat)(e rows:List (List V)):List (List V):=match sb with
 | some b=>match sy.contains b with
  | true=>rows
  | false=>coeR e rows
 | none=>rows
def syStep(sy:List Nat)(ws:List Wr)(told:List Nat):List Nat:=(told.filter fun b=>(wrBs ws).contains b)++sy.filter fun b=>!(wrBs ws).contains b
section
variable (P:Program) (G:Nat→Option (List V))
def reK(a:Nat){ρ:Type}(k:T P G ρ)(R:List Loc)(ws:List Wr)(s:St)(p:J0)(sy:List Nat)(next:T P G ρ→St→J0→List Nat→C):C:=
 match k with
 | .re a' w k'=>match a'==a with
  | true=>.re ws (next k' (s.app w.b) (p++[(R,w.b)]) (syStep sy w.b w.dt))
  | false=>next k (s.app ws) (p++[(R,ws)]) (syStep sy ws [])
 | k=>next k (s.app ws) (p++[(R,ws)]) (syStep sy ws [])
def dflt(ops:Array Oper)(i:Nat){ρ:Type}(g:T P G ρ)(s:St)(p:J0)(sy:List Nat)(next:T P G ρ→St→J0→List Nat→C):C:=
 match stepRW P G ops i s with
 | some (R,ws)=>next g (s.app ws) (p++[(R,ws)]) (syStep sy ws [])
 | none=>.stuck (1000+i)
def dop(id:Nat)(ops:Array Oper)(i:Nat){ρ:Type}(g:T P G ρ)(s:St)(p:J0)(sy:List Nat)(next:T P G ρ→St→J0→List Nat→C):C:=
 match g with
 | .fail=>.fail
 | .chk a c k=>match a==id * 1000+i+1 with
  | true=>match chkOp P G ops i s with
   | some (c',ws)=>.chk c' (reK P G a k (opR ops i s []) ws s p sy next)
   | none=>.stuck 1
  | false=>dflt P G ops i (.chk a c k) s p sy next
 | .re a w k=>match a==id * 1000+i+1 with
  | true=>match stepRW P G ops i s with
   | some (R,ws)=>.re ws (next k (s.app w.b) (p++[(R,w.b)]) (syStep sy w.b w.dt))
   | none=>.stuck 2
  | false=>dflt P G ops i (.re a w k) s p sy next
 | .row a ty l j c k=>match a==id * 1000+i+1 with
  | true=>match rowOp P G ops i s with
   | some (rows,j',c',f)=>.row rows j' c' fun x=>match f (ty.c x) with
    | some ws=>reK P G a (k x) (opR ops i s []) ws s p sy next
    | none=>.stuck 4
   | none=>.stuck 3
  | false=>dflt P G ops i (.row a ty l j c k) s p sy next
 | .app a ty l x bytes fl hf k=>match a==id * 1000+i+1 with
  | true=>match appOp P G ops [] i s with
   | some A=>.app A.rows A.len (coeSrc sy A.sb (x.map ty.c) A.srows) A.bytes A.fl (
     let ws:=delW A.b++(delW A.sb++[.b A.d (some ⟨A.size,A.excl,(l++x).map ty.c⟩),.t A.d (.ref A.d 0 (l++x).length)])
     next k (s.app ws) (p++[(opR ops i s [],ws)]) (syStep sy ws [A.d]))
   | none=>.stuck 5
  | false=>dflt P G ops i (.app a ty l x bytes fl hf k) s p sy next
 | .call a sp Li Lo k=>match a==id * 1000+i+1 with
  | true=>match callOp P G ops Li Lo sy i s with
   | some (dst,f,as,ins)=>.call f (V8 (A8 8) sp.args as) ins fun r=>match outsOk (Li++Lo) sp.dt (sp.outs r) (sp.res r) with
    | true=>reK P G a (k r) (opR ops i s ((Li++Lo).map (·.2))) (callWs (Li++Lo) sp.dt (sp.outs r) dst (sp.res r)) s p sy fun g s p sy=>next g s p (syOuts (Li++Lo) sp.dt++sy)
    | false=>.stuck 7
   | none=>.stuck 6
  | false=>dflt P G ops i (.call a sp Li Lo k) s p sy next
 | .call2 a sp Li Lo k k2=>match a==id * 1000+i+1 with
  | true=>match callOp P G ops Li Lo sy i s with
   | some (dst,f,as,ins)=>.call2 f (V8 (A8 8) sp.args as) ins (fun r=>match outsOk (Li++Lo) sp.dt (sp.outs (.inl r)) (sp.res (.inl r)) with
    | true=>reK P G a (k r) (opR ops i s ((Li++Lo).map (·.2))) (callWs (Li++Lo) sp.dt (sp.outs (.inl r)) dst (sp.res (.inl r))) s p sy fun g s p sy=>next g s p (syOuts (Li++Lo) sp.dt++sy)
    | false=>.stuck 7) fun r=>match outsOk (Li++Lo) sp.dt (sp.outs (.inr r)) (sp.res (.inr r)) with
    | true=>reK P G a (k2 r) (opR ops i s ((Li++Lo).map (·.2))) (callWs (Li++Lo) sp.dt (sp.outs (.inr r)) dst (sp.res (.inr r))) s p sy fun g s p sy=>next g s p (syOuts (Li++Lo) sp.dt++sy)
    | false=>.stuck 7
   | none=>.stuck 6
  | false=>dflt P G ops i (.call2 a sp Li Lo k k2) s p sy next
 | .view a sp vs k=>match a==id * 1000+i+1 with
  | true=>match ops[i]? with
   | some o=>
    let ex:=reach (fun b=>match sy.contains b with|true=>none|false=>s.b b) 3 (opBs s o)
    match viewOp P G ops ex vs i s with
    | some (dst,f,ds,eqs)=>.view f (V8 (A8 8) sp.args ds) eqs fun r=>match O1 (sp.res r)&&(sp.ins.isEmpty&&(sp.outs r).isEmpty) with
     | true=>next (k r) (s.app (dstW dst (sp.res r))) (p++[(opR ops i s ex,dstW dst (sp.res r))]) sy
     | false=>.stuck 10
    | none=>.stuck 9
   | none=>.stuck 8
  | false=>dflt P G ops i (.view a sp vs k) s p sy next
 | .opr a R k=>match a==id * 1000+i+1 with
  | true=>match opAt ops i s with
   | some o=>match (match o.dst with|some d=>decide (d < s.n)&&!(s.u d)|none=>true) with
    | true=>.rule o.op o.dst (R.vals.map fun p=>s.evC G o p.1) (R.blks.map fun p=>s.b p.1) fun r=>
      next (k r) (s.app (R.ws r)) (p++[(opR ops i s (R.blks.map (·.1)),R.ws r)]) (syStep sy (R.ws r) R.dt)
    | false=>.stuck 15
   | none=>.stuck 14
  | false=>dflt P G ops i (.opr a R k) s p sy next
 | g=>dflt P G ops i g s p sy next
def guardT(ops:Array Oper)(i:Nat)(s:St):Option (Nat×Bool):=
 match ops[i]? with
 | some o=>match o.guard with
  | some (j,_)=>match (ops[j]?).bind (·.dst) with
   | some d=>match s.t d with
    | .bool b=>some (d,b)
    | _=>none
   | none=>none
  | none=>none
 | none=>none
def idxT(ops:Array Oper)(i:Nat)(s:St):Option (Nat×IntKind×Int):=
 match ops[i]? with
 | some o=>match o.op with
  | .indexAddr _ _ (.tmp t)=>match s.t t with
   | .int k m=>some (t,k,m)
   | _=>none
  | .index _ _ (.tmp t)=>match s.t t with
   | .int k m=>some (t,k,m)
   | _=>none
  | _=>none
 | none=>none
def rg(id:Nat)(ops:Array Oper):List Nat→{ρ:Type}→T P G ρ→St→J0→List Nat→(T P G ρ→St→J0→List Nat→C)→(Value→T P G ρ→St→J0→List Nat→C)→C
 | [],_,g,s,p,sy,κ,_=>κ g s p sy
 | i :: l,_,g,s,p,sy,κ,κp=>match g with
  | .br a c x y=>match a==id * 1000+i+1 with
   | true=>match guardT ops i s with
    | some (d,b)=>.br b (dop P G id ops i x (s.setT d (.bool true)) p sy fun g s p sy=>rg id ops l g s p sy κ κp) (dop P G id ops i y (s.setT d (.bool false)) p sy fun g s p sy=>rg id ops l g s p sy κ κp)
    | none=>.stuck 20
   | false=>dop P G id ops i (.br a c x y) s p sy fun g s p sy=>rg id ops l g s p sy κ κp
  | .ceq a n vs k=>match a==id * 1000+i+1 with
   | true=>match idxT ops i s with
    | some (t,kd,m)=>vs.foldr (fun v r=>.br (m==v) (dop P G id ops i (k v) (s.setT t (.int kd v)) p sy fun g s p sy=>rg id ops l g s p sy κ κp) r) .fail
    | none=>.stuck 21
   | false=>dop P G id ops i (.ceq a n vs k) s p sy fun g s p sy=>rg id ops l g s p sy κ κp
  | g=>dop P G id ops i g s p sy fun g s p sy=>rg id ops l g s p sy κ κp
end
def okU(us:List Nat)(i:Nat):Bool:=us.contains i || uTop i
def blkOkB(us sy:List Nat)(p:Nat×Blk):Bool:=sy.contains p.1 || p.2.rows.all fun r=>r.all (okV (okU us))
def newTs(kp wt:List Nat)(s:St):List (Nat×V):=(kp.filter fun i=>wt.contains i).map fun i=>(i,s.t i)
def dedup:List Nat→List Nat
 | []=>[]
 | x :: l=>match l.contains x with
  | true=>dedup l
  | false=>x :: dedup l
def newBs(wb:List Nat)(s:St):List (Nat×Blk):=(dedup wb).filterMap fun b=>match s.b b with
 | some k=>some (b,k)
 | none=>none
def regEnd(kp:List Nat)(d:D)(s:St)(p:J0)(sy:List Nat)(next:D→C):C:=
 let wt:=p.wts
 let wb:=p.wbs
 let us:=dedup (wb++d.us)
 nrmT (newTs kp wt s) fun nt=>nrmB sy (newBs wb s) fun nb=>
  match nt.all (fun x=>okV (okU us) x.2)&&nb.all (blkOkB us sy) with
  | true=>next ⟨d.n,nt++d.ts.filter (fun x=>!wt.contains x.1),nb++d.bs.filter (fun x=>!wb.contains x.1),us,sy⟩
  | false=>.stuck 30
def regFin(P:Program)(G:Nat→Option (List V))(ops:Array Oper)(draw:Bool)(ts:List Nat)(d:D){ρ:Type}(g:T P G ρ)(s:St)(p:J0):C:=
 match g with
 | .done _=>match (!draw || drawOk ops p)&&((p.wbs.all fun b=>!(d.bs.any fun x=>x.1==b))&&(p.wts.all fun t=>(ops.toList.filterMap (·.dst)).contains t)) with
  | true=>.fins (ts.map s.t)
  | false=>.stuck 31
 | .fail=>.fail
 | _=>.stuck 32
def cndD(ops:Array Oper)(ts:List Nat)(d:D)(vs:List V):D:=
 { d with ts:=ts.zip vs++d.ts.filter fun x=>!(ops.toList.filterMap (·.dst)).contains x.1&&!ts.contains x.1 }
def Ext.us(x:Ext):List Nat:=x.bs.map (·.1)
def Ext.D(n:Nat)(x:Ext):D:=⟨n,x.ts,x.bs,x.us,x.dt⟩
def Ext.ok(x:Ext):Bool:=x.ts.all (fun p=>okV (okU x.us) p.2)&&x.bs.all (blkOkB x.us x.dt)
def D6:Exit→Bool
 | .normal=>true
 | _=>false
def coeB(dt:List Nat)(id:Nat)(e:Blk)(act:Option Blk):Option Blk:=match dt.contains id with
 | true=>act
 | false=>act.map fun k=>⟨k.size,k.excl,coeR e.rows k.rows⟩
def extTs(x:Ext)(st:St):List (Nat×V):=x.ts.map fun p=>(p.1,A8 8 p.2 (st.t p.1))
def extBs(x:Ext)(st:St):List (Nat×Option Blk):=x.bs.map fun p=>(p.1,coeB x.dt p.1 p.2 (st.b p.1))
def finExt(e:Exit)(x:Ext)(d:D):C:=.fin none (some e) (extTs x d.st) (extBs x d.st)
def fin(P:Program)(G:Nat→Option (List V)){ρ:Type}(F:C8 ρ)(g:T P G ρ)(e:Exit)(d:D):C:=
 match g with
 | .done r=>match F with
  | .fn rs res outs=>match e with
   | .normal|.ret=>.fin ((F7 P d.st rs).map (A8 8 (res r))) none [] ((outs r).map fun p=>(p.1,d.st.b p.1))
   | _=>.stuck 41
  | .mid E=>finExt e (E r) d
  | .rnd S E=>match r with
   | .inl y=>match D6 e with
    | true=>finExt e (S y) d
    | false=>.stuck 42
   | .inr z=>match D6 e with
    | true=>.stuck 43
    | false=>finExt e (E z) d
  | .reg _ _=>.stuck 44
  | .fnp rs res outs _ pouts=>match r with
   | .inl r=>match e with
    | .normal|.ret=>.fin ((F7 P d.st rs).map (A8 8 (res r))) none [] ((outs r).map fun p=>(p.1,d.st.b p.1))
    | _=>.stuck 41
   | .inr z=>.fin none (some e) [] ((pouts z).map fun p=>(p.1,d.st.b p.1))
 | _=>.stuck 40
def shD(b z:Nat)(rows:List (List V)):Nat→V→V
 | 0,_=>.undef
 | n+1,c=>match c with
  | .ref b' off len=>match b'==b with
   | true=>match off with
    | 0=>.sl false z rows
    | o+1=>.ref b' (o+1) len
   | false=>.ref b' off len
  | .fn f x y=>.fn f (x.map (shD b z rows n)) (y.map (shD b z rows n))
  | .agg l=>.agg (l.map (shD b z rows n))
  | .tup l=>.tup (l.map (shD b z rows n))
  | c=>c
def shE(b:Nat)(rows:List (List V)):Nat→V→List (Nat×List (List V)×Nat)
 | 0,_=>[]
 | n+1,c=>match c with
  | .ref b' off len=>match b'==b with
   | true=>match off with
    | 0=>[(b,rows,len)]
    | _+1=>[]
   | false=>[]
  | .fn _ x y=>x.flatMap (shE b rows n)++y.flatMap (shE b rows n)
  | .agg l=>l.flatMap (shE b rows n)
  | .tup l=>l.flatMap (shE b rows n)
  | _=>[]
def lnD(b m:Nat):Nat→V→V
 | 0,c=>c
 | n+1,c=>match c with
  | .ref b' off len=>match b'==b with
   | true=>match off with
    | 0=>.ref b' 0 m
    | o+1=>.ref b' (o+1) len
   | false=>.ref b' off len
  | .fn f x y=>.fn f (x.map (lnD b m n)) (y.map (lnD b m n))
  | .agg l=>.agg (l.map (lnD b m n))
  | .tup l=>.tup (l.map (lnD b m n))
  | c=>c
def lnB(sy:List Nat)(b m:Nat)(p:Nat×Blk):Nat×Blk:=match sy.contains p.1 with
 | true=>p
 | false=>(p.1,⟨p.2.size,p.2.excl,p.2.rows.map (·.map (lnD b m 6))⟩)
def lnEB(sy:List Nat)(b:Nat)(p:Nat×Blk):List (Nat×List (List V)×Nat):=match sy.contains p.1 with
 | true=>[]
 | false=>p.2.rows.flatMap fun r=>r.flatMap (shE b [] 6)
def ghE(w:GhW)(d:D):List (Nat×List (List V)×Nat):=
 match w with
 | .share v _=>match d.st.b v.b with
  | some k=>(d.ts.flatMap fun p=>shE v.b k.rows 6 p.2)++d.bs.flatMap fun p=>match p.1==v.b || d.sy.contains p.1 with
   | true=>[]
   | false=>p.2.rows.flatMap fun r=>r.flatMap (shE v.b k.rows 6)
  | none=>[]
 | .len b _ _ _=>(d.ts.flatMap fun p=>shE b [] 6 p.2)++d.bs.flatMap (lnEB d.sy b)
 | _=>[]
def shareBs(d:D)(v:VwW)(k:Blk):List (Nat×Blk):=(d.bs.filter fun p=>!(p.1==v.b)).map fun p=>(p.1,match d.sy.contains p.1 with
 | true=>p.2
 | false=>⟨p.2.size,p.2.excl,p.2.rows.map (·.map (shD v.b k.size (v.l.map v.ty.d) 6))⟩)
def setCell(k:Blk)(j:Nat)(c:V):Blk:=⟨k.size,k.excl,match k.rows with|r :: rs=>r.set j c :: rs|[]=>[]⟩
def ghX(w:GhW)(d:D)(next:D→C):C:=
 match w with
 | .virt b t size=>match d.st.t t,okU d.us b || !decide (size < W9) with
  | .nilsl,false=>next { d with ts:=(t,.ref b 0 0) :: d.ts.filter (fun x=>!(x.1==t)),bs:=(b,⟨size,true,[]⟩) :: d.bs,us:=b :: d.us }
  | _,_=>.stuck 50
 | .virtC b x j size=>match d.st.b x,okU d.us b || !decide (size < W9),d.sy.contains x with
  | some k,false,false=>match k.rows with
   | r :: _=>match r[j]? with
    | some .nilsl=>next { d with bs:=(b,⟨size,true,[]⟩) :: (x,setCell k j (.ref b 0 0)) :: d.bs.filter (fun p=>!(p.1==x)),us:=b :: d.us }
    | _=>.stuck 52
   | []=>.stuck 52
  | _,_,_=>.stuck 53
 | .ren a b=>match okU d.us b,a==b with
  | false,false=>nrmT (d.ts.map fun p=>(p.1,W5 (W3 a b) p.2)) fun ts=>nrmB ((d.sy.filter fun x=>!(x==b)).map (W3 a b)) (d.bs.map fun p=>(W3 a b p.1,renB d.sy p.1 (W3 a b) p.2)) fun bs=>
    next ⟨d.n,ts,bs,b :: d.us,(d.sy.filter fun x=>!(x==b)).map (W3 a b)⟩
  | _,_=>.stuck 54
 | .drop l=>
  let us:=d.us.filter fun b=>!l.contains b
  match (d.bs.filter fun p=>!l.contains p.1).all fun p=>okU us p.1&&blkOkB us d.sy p with
  | true=>next ⟨d.n,d.ts.filter (fun p=>okV (okU us) (d.st.t p.1)),d.bs.filter (fun p=>!l.contains p.1),us,d.sy⟩
  | false=>.stuck 55
 | .len b m _ _=>nrmT (d.ts.map fun p=>(p.1,lnD b m 6 p.2)) fun ts=>nrmB d.sy (d.bs.map (lnB d.sy b m)) fun bs=>next ⟨d.n,ts,bs,d.us,d.sy⟩
 | .tell b es=>match d.st.b b,d.sy.contains b with
  | some k,false=>nrmB d.sy ((b,⟨k.size,k.excl,coeR es k.rows⟩) :: d.bs.filter fun p=>!(p.1==b)) fun bs=>next { d with bs:=bs }
  | _,_=>.stuck 58
 | .share v _=>match d.st.b v.b with
  | some k=>match d.sy.contains v.b || k.rows.all fun r=>r.all U5 with
   | true=>nrmT (d.ts.map fun p=>(p.1,shD v.b k.size (v.l.map v.ty.d) 6 p.2)) fun ts=>
     nrmB d.sy (shareBs d v k) fun bs=>
     next ⟨d.n,ts,bs,v.b :: d.us,d.sy⟩
   | false=>.stuck 56
  | none=>.stuck 57
def isRange(c:Code):Bool:=match c with
 | .region _ ops _=>ops.toList.any fun o=>match o.op with
  | .range _ _=>true
  | _=>false
 | _=>false
abbrev Rec(P:Program)(G:Nat→Option (List V)):=(ρ:Type)→C8 ρ→T P G ρ→Code⊕Exit→List Kf→D→C
section
variable {P:Program} {G:Nat→Option (List V)} (kp:List Nat) (rec:Rec P G) {ρ:Type} (F:C8 ρ)
def sxE(g:T P G ρ)(e:Exit)(K:List Kf)(d:D):C:=
 match K with
 | []=>fin P G F g e d
 | .seq y :: K=>match D6 e with
  | true=>rec ρ F g (.inl y) K d
  | false=>rec ρ F g (.inr e) K d
 | .block id :: K=>match e with
  | .exit id'=>match id'==id with
   | true=>rec ρ F g (.inr .normal) K d
   | false=>rec ρ F g (.inr (.exit id')) K d
  | e=>rec ρ F g (.inr e) K d
 | .scope :: K=>match e with
  | .goto _=>.stuck 60
  | e=>rec ρ F g (.inr e) K d
 | .lp c :: K=>match D6 e with
  | true=>rec ρ F g (.inl c) (.lp c :: K) d
  | false=>rec ρ F g (.inr e) K d
def sxRg(id:Nat)(ops:Array Oper)(draw:Bool)(g:T P G ρ)(K:List Kf)(d:D):C:=
 rg P G id ops (List.range' 0 ops.size) g d.st [] d.sy (fun g s p sy=>match !draw || drawOk ops p with
  | true=>regEnd kp d s p sy fun d'=>rec ρ F g (.inr .normal) K d'
  | false=>.stuck 63) fun v g s p sy=>match draw with
  | false=>regEnd kp d s p sy fun d'=>rec ρ F g (.inr (.panic (thrown v))) K d'
  | true=>.stuck 77
def sxR(id:Nat)(ops:Array Oper)(draw:Bool)(g:T P G ρ)(K:List Kf)(d:D):C:=
 match g with
 | .cnd id' ts first E k=>match id'==id with
  | true=>.bind (rg P G id ops (List.range' 0 ops.size) first d.st [] d.sy (fun g s p _=>regFin P G ops draw ts d g s p) fun _ _ _ _ _=>.stuck 78) fun e=>match (E e).all (okV (okU d.us))&&(E e).length==ts.length with
   | true=>rec ρ F (k e) (.inr .normal) K (cndD ops ts d (E e))
   | false=>.stuck 61
  | false=>sxRg kp rec F id ops draw (.cnd id' ts first E k) K d
 | g=>sxRg kp rec F id ops draw g K d
def sxN(g:T P G ρ)(c:Code)(K:List Kf)(d:D):C:=
 match c with
 | .cond o x y=>match g with
  | .br _ _ a b=>match d.st.ev G o with
   | some (.bool c)=>.br c (rec ρ F a (.inl x) K d) (rec ρ F b (.inl y) K d)
   | _=>.stuck 65
  | .tt k=>match d.st.ev G o with
   | some (.bool c)=>match c with
    | true=>rec ρ F k (.inl x) K d
    | false=>.stuck 66
   | _=>.stuck 66
  | .ff k=>match d.st.ev G o with
   | some (.bool c)=>match c with
    | false=>rec ρ F k (.inl y) K d
    | true=>.stuck 67
   | _=>.stuck 67
  | _=>.stuck 68
 | .block id x=>rec ρ F g (.inl x) (.block id :: K) d
 | .scope x=>rec ρ F g (.inl x) (.scope :: K) d
 | .loop x=>match g with
  | .lp S body x0=>match F with
   | .mid E=>match K with
    | []=>.loop (extTs (S x0) d.st) (extBs (S x0) d.st) fun y=>match (S y).ok&&D6 (S y).ex with
     | true=>rec _ (.rnd S E) (body y) (.inl x) [] ((S y).D d.n)
     | false=>.stuck 69
    | _ :: _=>.stuck 73
   | _=>.stuck 74
  | g=>rec ρ F g (.inl x) (.lp x :: K) d
 | .rangeFunc o ps as bd=>match g with
  | .sub S k=>match S.x.ok with
   | true=>.sub (.rangeFunc o ps as bd) d.n (extTs S.x d.st) (extBs S.x d.st) fun e=>match (S.E e).ok with
    | true=>rec ρ F (k e) (.inr (S.E e).ex) K ((S.E e).D d.n)
    | false=>.stuck 64
   | false=>.stuck 76
  | _=>.stuck 75
 | _=>.stuck 71
def sxB(g:T P G ρ)(c:Code)(K:List Kf)(d:D):C:=
 match g with
 | .bind 0 first E k=>.bind (rec _ (.mid E) first (.inl c) [] d) fun e=>match (E e).ok with
  | true=>rec ρ F (k e) (.inr (E e).ex) K ((E e).D d.n)
  | false=>.stuck 64
 | .bind2 0 first E E2 k k2=>.bind2 (rec _ (.mid (Sum.elim E E2)) first (.inl c) [] d)
  (fun e=>match (E e).ok with
   | true=>rec ρ F (k e) (.inr (E e).ex) K ((E e).D d.n)
   | false=>.stuck 64) fun e=>match (E2 e).ok with
   | true=>rec ρ F (k2 e) (.inr (E2 e).ex) K ((E2 e).D d.n)
   | false=>.stuck 64
 | .bind2 (j+1) first E E2 k k2=>match c with
  | .block id x=>rec ρ F (.bind2 j first E E2 k k2) (.inl x) (.block id :: K) d
  | .scope x=>rec ρ F (.bind2 j first E E2 k k2) (.inl x) (.scope :: K) d
  | .loop x=>rec ρ F (.bind2 j first E E2 k k2) (.inl x) (.lp x :: K) d
  | _=>.stuck 72
 | .bind (j+1) first E k=>match c with
  | .block id x=>rec ρ F (.bind j first E k) (.inl x) (.block id :: K) d
  | .scope x=>rec ρ F (.bind j first E k) (.inl x) (.scope :: K) d
  | .loop x=>rec ρ F (.bind j first E k) (.inl x) (.lp x :: K) d
  | _=>.stuck 72
 | g=>sxN rec F g c K d
def sxSub(g:T P G ρ)(c:Code)(K:List Kf)(d:D):C:=
 match g with
 | .sub S k=>match S.x.ok with
  | true=>.sub c d.n (extTs S.x d.st) (extBs S.x d.st) fun e=>match (S.E e).ok with
   | true=>rec ρ F (k e) (.inr (S.E e).ex) K ((S.E e).D d.n)
   | false=>.stuck 64
  | false=>.stuck 76
 | _=>.stuck 75
def sxC(g:T P G ρ)(c:Code)(K:List Kf)(d:D):C:=
 match c with
 | .skip=>rec ρ F g (.inr .normal) K d
 | .label _=>rec ρ F g (.inr .normal) K d
 | .exit id=>rec ρ F g (.inr (.exit id)) K d
 | .ret=>rec ρ F g (.inr .ret) K d
 | .seq x y=>match isRange x with
  | true=>sxSub rec F g (.seq x y) K d
  | false=>rec ρ F g (.inl x) (.seq y :: K) d
 | .region id ops draw=>sxR kp rec F id ops draw g K d
 | c=>sxB rec F g c K d
def ghAt(a:Nat)(cur:Code⊕Exit)(K:List Kf):Bool:=
 match cur with
 | .inr _=>K.isEmpty&&a==0
 | .inl (.loop _)=>a==1
 | .inl (.rangeFunc _ _ _ _)=>a==1
 | .inl (.seq x _)=>a==1&&isRange x
 | .inl (.region id _ _)=>a==id+2
 | _=>false
def sxD(g:T P G ρ)(cur:Code⊕Exit)(K:List Kf)(d:D):C:=
 match cur with
 | .inr e=>sxE rec F g e K d
 | .inl c=>sxC kp rec F g c K d
def sxS(g:T P G ρ)(cur:Code⊕Exit)(K:List Kf)(d:D):C:=
 match g with
 | .fail=>.fail
 | .fact p _ k=>.fact p fun h=>rec ρ F (k h) cur K d
 | .gh a w k=>match ghAt a cur K with
  | true=>.gh (ghE w d) (ghX w d fun d'=>rec ρ F k cur K d')
  | false=>sxD kp rec F (.gh a w k) cur K d
 | g=>sxD kp rec F g cur K d
end
def sx(P:Program)(G:Nat→Option (List V))(kp:List Nat)(n:Nat):Rec P G:=
 Nat.rec (fun _ _ _ _ _ _=>.stuck 99) (fun _ ih ρ F g cur K d=>sxS kp ih (ρ:=ρ) F g cur K d) n
end Go.EV
namespace Go.EV
open Go
theorem coeL_len(f:V→V→V):∀(es cs:List V),(V8 f es cs).length=cs.length
 | [],cs=>by cases cs<;>rfl
 | _ :: _,[]=>rfl
 | e :: es,c :: cs=>by simp[V8,coeL_len f es cs]
theorem coeL_get(f:V→V→V):∀(es cs:List V) (i:Nat) (d:V),(V8 f es cs)[i]?=some d→∃c,cs[i]?=some c∧(d=c∨∃e,d=f e c)
 | [],cs,i,d,h=>by cases cs<;>exact⟨d,h,.inl rfl⟩
 | _ :: _,[],i,d,h=>by simp[V8] at h
 | e :: es,c :: cs,i,d,h=>by
  cases i with
  | zero=>simp[V8] at h;exact⟨c,rfl,.inr ⟨e,h.symm⟩⟩
  | succ i=>
   simp only[V8,List.getElem?_cons_succ] at h
   obtain⟨c',h1,h2⟩:=coeL_get f es cs i d h
   exact⟨c',by simpa using h1,h2⟩
theorem coeV_rep{γ:Gh}{w:World}{bs:Nat→Option Blk}{u:Nat→Bool}:∀(n:Nat) (e c:V) (v:Value),Rep γ w bs u c v→Rep γ w bs u (A8 n e c) v
 | 0,_,_,_,h=>h
 | n+1,e,c,v,h=>by
  have ih:=coeV_rep (γ:=γ) (w:=w) (bs:=bs) (u:=u) n
  cases c<;>simp only[A8]<;>try exact h
  case nilsl=>
   split
   ·have:=h.nilsl_inv;subst this;exact .data (.slNil _ _)
   ·exact h
  case sl o z r=>
   split
   ·exact h.strip
   ·exact h
  case agg cs=>
   split
   ·rename_i es
    obtain⟨vs,rfl,h1,h2⟩:=h.agg_inv
    refine .agg _ vs (by rw[coeL_len];exact h1) fun i c v hc hv=>?_
    obtain⟨c',k1,k2⟩:=coeL_get _ _ _ _ _ hc
    rcases k2 with rfl|⟨e,rfl⟩
    ·exact h2 i _ v k1 hv
    ·exact ih e c' v (h2 i c' v k1 hv)
   ·exact h
  case tup cs=>
   split
   ·rename_i es
    obtain⟨vs,rfl,h1,h2⟩:=h.tup_inv
    refine .tup _ vs (by rw[coeL_len];exact h1) fun i c v hc hv=>?_
    obtain⟨c',k1,k2⟩:=coeL_get _ _ _ _ _ hc
    rcases k2 with rfl|⟨e,rfl⟩
    ·exact h2 i _ v k1 hv
    ·exact ih e c' v (h2 i c' v k1 hv)
   ·exact h
theorem coeV_own:∀(n:Nat) (e c:V),(A8 n e c).isOwn=true→A8 n e c=c∨c=.nilsl
 | 0,_,_,_=>.inl rfl
 | n+1,e,c,h=>by
  cases c
  case nilsl=>exact .inr rfl
  case sl o z r=>
   simp only[A8] at h ⊢
   cases e with
   | sl o' z' r'=>cases o'<;>simp_all [V.isOwn]
   | _=>exact .inl rfl
  case agg cs=>simp only[A8] at h;split at h<;>simp[V.isOwn] at h
  case tup cs=>simp only[A8] at h;split at h<;>simp[V.isOwn] at h
  all_goals exact .inl rfl
theorem coeV_wk{bs:Nat→Option Blk}{u:Nat→Bool}(n:Nat)(e c:V):Wk bs u c (A8 n e c):=fun _ _ v h=>coeV_rep n e c v h
theorem coeR_rel{bs:Nat→Option Blk}{u:Nat→Bool}:∀(es cs:List (List V)),W4 (fun c c'=>Wk bs u c c'∧(c'.isOwn=true→c'=c∨c=.nilsl)) cs (coeR es cs)
 | [],cs=>by
  cases cs<;>exact⟨rfl,fun i r' h=>⟨r',h,rfl,fun j c' hc=>⟨c',hc,Wk.refl _,fun _=>.inl rfl⟩⟩⟩
 | _ :: _,[]=>⟨rfl,fun i r' h=>by simp[coeR] at h⟩
 | e :: es,c :: cs=>by
  obtain⟨h1,h2⟩:=coeR_rel (bs:=bs) (u:=u) es cs
  refine⟨by simp[coeR,h1],fun i r' h=>?_⟩
  cases i with
  | zero=>
   simp only[coeR,ξo,ζa] at h
   subst h
   refine⟨c,rfl,coeL_len _ _ _,fun j c' hc=>?_⟩
   obtain⟨c0,k1,k2⟩:=coeL_get _ _ _ _ _ hc
   refine⟨c0,k1,?_⟩
   rcases k2 with rfl|⟨e0,rfl⟩
   ·exact⟨Wk.refl _,fun _=>.inl rfl⟩
   ·exact⟨coeV_wk 8 e0 c0,coeV_own 8 e0 c0⟩
  | succ i=>
   simp only[coeR,List.getElem?_cons_succ] at h
   obtain⟨r,k1,k2⟩:=h2 i r' h
   exact⟨r,by simpa using k1,k2⟩
theorem W4.same{R:V→V→Prop}(h:∀c,R c c)(l:List (List V)):W4 R l l:=⟨rfl,fun _ r' hr=>⟨r',hr,rfl,fun _ c' hc=>⟨c',hc,h c'⟩⟩⟩
theorem W4.append{R:V→V→Prop}{l l' m m':List (List V)}(h:W4 R l l')(k:W4 R m m'):W4 R (l++m) (l'++m'):=
  ⟨by simp[h.1,k.1],fun i r' hr=>by
    by_cases hi:i < l'.length
    · rw[ζl hi] at hr
      rw[ζl (by rw[←h.1];exact hi)]
      exact h.2 i r' hr
    · rw[ζm (by omega)] at hr
      rw[ζm (by rw[←h.1];omega),←h.1]
      exact k.2 _ r' hr⟩
theorem W4.set{R:V→V→Prop}(h:∀c,R c c)(l:List (List V))(j:Nat){r r':List V}(k:W4 R [r] [r']):W4 R (l.set j r) (l.set j r'):=
  ⟨by simp,fun i q hq=>by
    by_cases hi:j=i
    · subst hi
      have hl:j < l.length:=by
        have:=(ζe.1 hq).1
        simpa using this
      rw[ζj hl] at hq ⊢
      simp only[ζa] at hq;subst hq
      obtain⟨r0,h1,h2⟩:=k.2 0 r' rfl
      simp at h1;subst h1
      exact⟨r,rfl,h2⟩
    · rw[ζk hi] at hq ⊢
      exact⟨q,hq,rfl,fun _ c' hc=>⟨c',hc,h c'⟩⟩⟩
def CoeR(bs:Nat→Option Blk)(u:Nat→Bool)(c c':V):Prop:=Wk bs u c c'∧(c'.isOwn=true→c'=c∨c=.nilsl)
theorem CoeR.same{bs:Nat→Option Blk}{u:Nat→Bool}(c:V):CoeR bs u c c:=⟨Wk.refl _,fun _=>.inl rfl⟩
theorem Gst.rowsT{G:Nat→Option (List V)}(s:St)(d:Nat)(z:Nat)(x:Bool){rows rows':List (List V)}(h:∀bs u,W4 (CoeR bs u) rows rows')(t:List (Nat×V)) :
  Gst G ((s.setB d ⟨z,x,rows⟩).app (t.map fun p=>.t p.1 p.2)) ((s.setB d ⟨z,x,rows'⟩).app (t.map fun p=>.t p.1 p.2)):=by
 have key:∀(t:List (Nat×V)) (s s':St),s'.n=s.n→s'.u=s.u→s'.t=s.t→(s'.app (t.map fun p=>.t p.1 p.2)).n=(s.app (t.map fun p=>.t p.1 p.2)).n∧(s'.app (t.map fun p=>.t p.1 p.2)).u=(s.app (t.map fun p=>.t p.1 p.2)).u∧(s'.app (t.map fun p=>.t p.1 p.2)).t=(s.app (t.map fun p=>.t p.1 p.2)).t∧(s'.app (t.map fun p=>.t p.1 p.2)).b=s'.b∧(s.app (t.map fun p=>.t p.1 p.2)).b=s.b:=by
  intro t
  induction t with
  | nil=>intro s s' h1 h2 h3;exact⟨h1,h2,h3,rfl,rfl⟩
  | cons p t ih=>
   intro s s' h1 h2 h3
   exact ih (s.setT p.1 p.2) (s'.setT p.1 p.2) h1 h2 (by simp[St.setT,h3])
 obtain⟨h1,h2,h3,h4,h5⟩:=key t (s.setB d ⟨z,x,rows⟩) (s.setB d ⟨z,x,rows'⟩) rfl rfl rfl
 refine Gst.cells h1 h2 (fun i=>by rw[h3];exact Wk.refl _) fun b=>?_
 rw[h4,h5]
 simp only[St.setB]
 by_cases hb:b=d
 ·subst hb
  exact .inr ⟨_,_,if_pos rfl,if_pos rfl,rfl,rfl,h _ _⟩
 ·rw[if_neg hb,if_neg hb]
  cases hs:s.b b with
  | none=>exact .inl ⟨rfl,rfl⟩
  | some k=>exact .inr ⟨k,k,rfl,rfl,rfl,rfl,W4.same (fun c=>CoeR.same c) _⟩
theorem coe1_rel{bs:Nat→Option Blk}{u:Nat→Bool}(e c:List V):W4 (CoeR bs u) [c] [V8 (A8 8) e c]:=coeR_rel [e] [c]
mutual
theorem nrm_eq:∀(n:Nat) (v:V) (k:V→C),nrm n v k=k v
 | 0,_,_=>rfl
 | n+1,v,k=>by
  cases v<;>simp only[nrm]<;>simp only[nrmL_eq n]
theorem nrmL_eq:∀(n:Nat) (l:List V) (k:List V→C),nrmL n l k=k l
 | 0,_,_=>rfl
 | n+1,l,k=>by
  cases l with
  | nil=>rfl
  | cons v l=>simp only[nrmL,nrm_eq n,nrmL_eq n]
end
theorem nrmR_eq:∀(l:List (List V)) (k:List (List V)→C),nrmR l k=k l
 | [],_=>rfl
 | r :: l,k=>by simp only[nrmR,nrmL_eq,nrmR_eq l]
theorem nrmT_eq:∀(l:List (Nat×V)) (k:List (Nat×V)→C),nrmT l k=k l
 | [],_=>rfl
 | (i,v) :: l,k=>by simp only[nrmT,nrm_eq,nrmT_eq l]
theorem nrmB_eq(sy:List Nat):∀(l:List (Nat×Blk)) (k:List (Nat×Blk)→C),nrmB sy l k=k l
 | [],_=>rfl
 | (i,b) :: l,k=>by
  cases h:sy.contains i<;>simp only[nrmB,h,nrmR_eq,nrmB_eq sy l]
theorem binC_spec{op:BinOp}{k:IntKind}{a b:Int}{c:Bool}{v:V}(h:binC op k a b=some (c,v))(hc:c=true):intV op k a b=some v∨shiftV op k a b=some v:=by
 subst hc
 cases op<;>simp only[binC,ζa,ζP,reduceCtorEq] at h
 case quo=>obtain⟨h1,rfl⟩:=h;left;simp only[ζB,ζY,ne_eq] at h1;simp[intV,h1]
 case rem=>obtain⟨h1,rfl⟩:=h;left;simp only[ζB,ζY,ne_eq] at h1;simp[intV,h1]
 case shl=>obtain⟨h1,rfl⟩:=h;right;simp only[ζF] at h1;simp[shiftV,show ¬b < 0 by omega]
 case shr=>obtain⟨h1,rfl⟩:=h;right;simp only[ζF] at h1;simp[shiftV,show ¬b < 0 by omega]
theorem loC_spec{lo:Option V}{h:Nat}{c:Bool}{l:Nat}(e:loC lo h=some (c,l))(hc:c=true):loV lo h=some l:=by
 unfold loC at e
 unfold loV
 split at e
 ·simp only[ζa,ζP] at e;rw[e.2]
 ·simp only[ζa,ζP] at e
  obtain⟨e1,rfl⟩:=e
  subst hc
  simp only[ζA,ζF] at e1
  simp[e1.1,e1.2]
 ·simp at e
theorem hiC_spec{n:Nat}{hi mx:Option V}{c:Bool}{h:Nat}(e:hiC n hi mx=some (c,h))(hc:c=true):hiV n hi mx=some h:=by
 unfold hiC at e
 unfold hiV
 split at e
 ·simp only[ζa,ζP] at e;rw[e.2]
 ·simp only[ζa,ζP] at e
  obtain⟨e1,rfl⟩:=e
  subst hc
  simp only[ζA,ζF] at e1
  simp[e1.1,e1.2]
 ·simp only[ζa,ζP] at e
  obtain⟨e1,rfl⟩:=e
  subst hc
  simp only[ζA,ζF] at e1
  simp[e1.1,e1.2.1,e1.2.2]
 ·simp at e
theorem cutC_spec{n:Nat}{lo hi mx:Option V}{c:Bool}{l h:Nat}(e:cutC n lo hi mx=some (c,l,h))(hc:c=true):hiV n hi mx=some h∧loV lo h=some l:=by
 unfold cutC at e
 split at e
 ·rename_i c1 h' e1
  split at e
  ·rename_i c2 l' e2
   simp only[ζa,ζP] at e
   obtain⟨e3,rfl,rfl⟩:=e
   subst hc
   split at e3
   ·subst e3
    have:c1=true:=by simp[hiC] at e1;exact e1.1.symm▸rfl
    exact⟨hiC_spec e1 this,loC_spec e2 rfl⟩
   ·subst e3
    have:c2=true:=by simp[loC] at e2;exact e2.1.symm▸rfl
    exact⟨hiC_spec e1 rfl,loC_spec e2 this⟩
   ·simp only[ζA] at e3
    exact⟨hiC_spec e1 e3.1,loC_spec e2 e3.2⟩
  ·simp at e
 ·simp at e
theorem sliceC_spec{P:Program}{look:Nat→Option Blk}{t:TypeId}{c d:V}{lo hi mx:Option V}{b:Bool}(e:sliceC P look t c lo hi mx=some (b,d))(hb:b=true):sliceV P look t c lo hi mx=some d:=by
 unfold sliceC at e
 unfold sliceV
 split at e
 ·rename_i hu
  rw[hu]
  split at e
  ·obtain⟨⟨c1,l,h⟩,e1,e2⟩:=ζb.1 e
   simp only[ζP] at e2
   obtain⟨rfl,rfl⟩:=e2
   obtain⟨k1,k2⟩:=cutC_spec e1 hb
   simp[k1,k2]
  ·simp at e
 ·rename_i el hu
  rw[hu]
  simp only
  split at e
  ·simp at e
  ·rename_i ei he
   rw[he]
   simp only
   split at e
   ·split at e
    ·rename_i hs
     obtain⟨⟨c1,l,h⟩,e1,e2⟩:=ζb.1 e
     simp only[ζP] at e2
     obtain⟨rfl,rfl⟩:=e2
     obtain⟨k1,k2⟩:=cutC_spec e1 hb
     simp[hs,k1,k2]
    ·simp at e
   ·rename_i b' off len'
    split at e
    ·rename_i k hk
     split at e
     ·rename_i hs
      obtain⟨⟨c1,l,h⟩,e1,e2⟩:=ζb.1 e
      simp only[ζP] at e2
      obtain⟨rfl,rfl⟩:=e2
      obtain⟨k1,k2⟩:=cutC_spec e1 hb
      obtain⟨hs,hmx⟩:=hs
      have hmx:=Option.isNone_iff_eq_none.1 hmx
      subst hmx
      have k1:=hiR_of (N:=k.rows.length - off) k1
      cases off with
      | zero=>simp only[Nat.sub_zero] at k1;simp[hs,hk,k1,k2]
      | succ o=>simp[hs,hk,k1,k2]
     ·simp at e
    ·simp at e
   ·simp at e
 ·simp at e
theorem readC_spec{P:Program}{e:Operand→Option V}{look:Nat→Option Blk}{op:Op}{c:Bool}{v:V}(h:readC P e look op=some (c,v))(hc:c=true):B7 P e look op=some v:=by
 unfold readC at h
 unfold B7
 split at h
 ·rename_i op t x y _
  split at h
  ·rename_i k a k' b hx hy
   simp only[hx,hy,binV]
   split at h
   ·rcases binC_spec h hc with h|h
    ·simp[intV] at h
    ·exact h
   ·rcases binC_spec h hc with h|h
    ·simp[intV] at h
    ·exact h
   ·rename_i n1 n2
    split at h
    ·rename_i hk
     rcases binC_spec h hc with h|h
     ·cases op<;>first|exact absurd rfl n1|exact absurd rfl n2|(subst hk;simp only[if_true,h])
     ·cases op<;>first|exact absurd rfl n1|exact absurd rfl n2|(simp[shiftV] at h)
    ·simp at h
  ·rename_i a b hx hy
   simp only[hx,hy,binV]
   split at h
   ·simp only[ζa,ζP] at h
    obtain⟨h1,rfl⟩:=h
    subst hc
    simp only[ζF] at h1
    simp only[strV,h1,if_true]
   ·simp at h
  ·simp at h
 ·rename_i t x i
  split at h
  ·rename_i s n hu hx hi
   simp only[ζa,ζP] at h
   obtain⟨h1,rfl⟩:=h
   subst hc
   simp only[ζF] at h1
   simp only[hx,hi,indexV,hu,h1,and_self,if_true]
  ·simp at h
 ·rename_i t x i
  split at h
  ·rename_i el b off len kk n hu hx hi
   split at h
   ·rename_i ei he
    split at h
    ·rename_i k hk
     split at h
     ·rename_i hs
      simp only[ζa,ζP] at h
      obtain⟨h1,rfl⟩:=h
      subst hc
      simp only[ζA,ζF] at h1
      simp only[hx,hi,L0,hu,he,hk,hs]
      simp[h1]
     ·simp at h
    ·simp at h
   ·simp at h
  ·simp at h
 ·rename_i t x lo hi mx
  split at h
  ·rename_i c' l' h' m' e1 e2 e3 e4
   simp only[e1,e2,e3,e4]
   exact sliceC_spec h hc
  ·simp at h
 ·simp at h
section
variable {P:Program} {G:Nat→Option (List V)} {ops:Array Oper} {i:Nat} {s:St}
theorem chkOp_spec{c:Bool}{ws:List Wr}(h:chkOp P G ops i s=some (c,ws))(hc:c=true):A3 P G ops i s (opR ops i s []) ws:=by
 unfold chkOp at h
 split at h
 ·rename_i o ho
  split at h
  ·rename_i hd
   obtain⟨⟨c',v⟩,h1,h2⟩:=ζb.1 h
   simp only[ζP] at h2
   obtain⟨rfl,rfl⟩:=h2
   exact P5 ⟨o,ho,effL_read hd (readC_spec h1 hc)⟩
  ·simp at h
 ·simp at h
theorem N0.ghost{o:Oper}{st st1 st2:St}(h:N0 P G o st st1)(g:Gst G st1 st2):N0 P G o st st2:=fun fx γ a w hs hd next Q hn=>
 h fx γ a w hs hd next Q fun a' w' γ' k1 k2 k3 k4=>by
  obtain⟨γ2,g1,g2,g3⟩:=g γ' a'.tmps w' k1
  exact hn a' w' γ2 g1 (k2.trans g2) (k3.trans g3) k4
theorem rowOp_spec{rows:List (List V)}{j:Nat}{c:Bool}{f:List V→Option (List Wr)}{r:List V}{ws:List Wr}(h:rowOp P G ops i s=some (rows,j,c,f))(hc:c=true)(hr:rows[j]?=some r)(hf:f r=some ws) :
  A3 P G ops i s (opR ops i s []) ws:=by
 subst hc
 unfold rowOp at h
 split at h
 ·rename_i o ho
  split at h
  ·rename_i t x jj d hop hdst
   split at h
   ·rename_i hd
    split at h
    ·rename_i ow size rows' kk n hx hj
     split at h
     ·rename_i hsz
      simp only[ζa,ζP] at h
      obtain⟨rfl,rfl,h3,rfl⟩:=h
      simp only[ζa] at hf
      subst hf
      refine told_idxSl (n:=n) (rows:=rows') (d:=d) ?_ (by simpa using h3) hr
      simp only[idxSl,ho,hop,hdst,hd,if_true,hx,hj,hsz]
     ·simp at h
    ·simp at h
   ·simp at h
  ·rename_i t x d hop hdst
   split at h
   ·rename_i hd
    split at h
    ·rename_i b r' off hx
     split at h
     ·rename_i k hk
      simp only[ζa,ζP,true_and] at h
      obtain⟨rfl,rfl,rfl⟩:=h
      obtain⟨v,h1,rfl⟩:=ζb.1 hf
      refine told_loadRow (t:=t) (rows:=k.rows) (j:=r') (off:=off) (d:=d) ?_ hr h1
      simp only[loadRow,ho,hop,hdst,hd,if_true,hx,hk]
     ·simp at h
    ·simp at h
   ·simp at h
  ·rename_i t x y hop hdst
   split at h
   ·rename_i b r' off cv hx hy
    split at h
    ·rename_i k hk
     split at h
     ·rename_i hex
      simp only[ζa,ζP,true_and] at h
      obtain⟨rfl,rfl,rfl⟩:=h
      obtain⟨v,h1,rfl⟩:=ζb.1 hf
      obtain⟨oo,ho',hE⟩:=told_storeRowE (P:=P) (G:=G) (ops:=ops) (i:=i) (s:=s) (ex:=[]) (t:=t) (rows:=k.rows) (j:=r') (off:=off) (b:=b) (size:=k.size) (c:=cv) (by simp only[storeRow,ho,hop,hdst,hx,hy,hk,hex,if_true]) hr h1
      exact P5 ⟨oo,ho',fun s2 hn ht hbm hu=>(hE s2 hn ht hbm hu).ghost (Gst.rowsT s2 b k.size true (fun bs u=>W4.set (fun c=>CoeR.same c) _ _ (coe1_rel _ _)) [])⟩
     ·simp at h
    ·simp at h
   ·simp at h
  ·simp at h
 ·simp at h
theorem strip_map_d{α:Type}(ty:Ty α)(x:List α):(x.map ty.d).map (·.map V.strip)=x.map ty.d:=by
 rw[ζq]
 exact ξi fun a _=>ty.st a
theorem appAt_of{ex:List Nat}{A:AppD}(h:appOp P G ops ex i s=some A)(hlen:A.len=A.rows.length)(hf:A.fl=true→A.srows.map (·.map V.strip)=A.srows) :
  ∃off,appAt P G ops ex i s=some (A.d,⟨A.b,0,A.size,A.excl,A.rows⟩,⟨A.sb,off,A.size,true,A.srows⟩,A.size,A.bytes,true):=by
 unfold appOp at h
 split at h
 ·rename_i o ho
  split at h
  ·rename_i as ts d hop hdst
   split at h
   ·rename_i hd
    split at h
    ·rename_i x' y' t t2 hxs hts
     split at h
     ·rename_i cx cy e e2 hx hy ht ht2
      split at h
      ·rename_i ei hi
       split at h
       ·rename_i hz
        split at h
        ·rename_i b rows len excl hds
         split at h
         ·rename_i sb srows fl hss
          simp only[ζa] at h
          subst h
          simp only at hlen hf ⊢
          subst hlen
          have k1:dstL (s.lookC o ex) ei.size cx=some (⟨b,0,ei.size,excl,rows⟩,true):=by
           unfold appDst at hds
           unfold dstL
           split at hds
           ·simp only[ζa,ζP] at hds
            obtain⟨rfl,rfl,h2,rfl⟩:=hds
            rfl
           ·rename_i b' len'
            split at hds
            ·rename_i k hk
             split at hds
             ·rename_i hsz
              simp only[ζa,ζP] at hds
              obtain⟨rfl,rfl,rfl,rfl⟩:=hds
              simp only[hk]
              simp[hsz]
             ·simp at hds
            ·simp at hds
           ·simp at hds
          have k2:∃off,srcL (s.lookC o ex) ei.size b cy=some (⟨sb,off,ei.size,true,srows⟩,true):=by
           unfold appSrc at hss
           unfold srcL
           split at hss
           ·simp only[ζa,ζP] at hss
            obtain⟨rfl,rfl,h2⟩:=hss
            exact⟨0,rfl⟩
           ·rename_i ow z rows'
            split at hss
            ·rename_i hzz
             simp only[ζa,ζP] at hss
             obtain⟨rfl,rfl,rfl⟩:=hss
             exact⟨0,by simp only[hf rfl,hzz,beq_self_eq_true]⟩
            ·simp at hss
           ·rename_i b' len'
            split at hss
            ·rename_i k hk
             split at hss
             ·rename_i hsz
              simp only[ζa,ζP] at hss
              obtain⟨rfl,rfl,h2⟩:=hss
              refine⟨0,?_⟩
              obtain⟨z1,z2,z3⟩:=hsz
              simp only[hk,if_neg z3]
              simp[z1,z2]
             ·simp at hss
            ·simp at hss
           ·simp at hss
          obtain⟨off,k2⟩:=k2
          refine⟨off,?_⟩
          simp only[appAt,ho,hop,hdst,hd,and_self,if_true,hxs,hts,hx,hy,ht,ht2,hi,hz,k1,k2]
          rfl
         ·simp at h
        ·simp at h
       ·simp at h
      ·simp at h
     ·simp at h
    ·simp at h
   ·simp at h
  ·simp at h
 ·simp at h
theorem appOp_fl{ex:List Nat}{A:AppD}(h:appOp P G ops ex i s=some A)(e:A.fl=true):A.sb=none:=by
 unfold appOp at h
 split at h
 ·split at h
  ·split at h
   ·split at h
    ·split at h
     ·split at h
      ·split at h
       ·split at h
        ·split at h
         ·rename_i hss
          simp only[ζa] at h
          subst h
          simp only at e ⊢
          subst e
          unfold appSrc at hss
          split at hss
          ·simp at hss
          ·split at hss<;>simp at hss
           exact hss.1.symm
          ·split at hss
           ·split at hss<;>simp at hss
           ·simp at hss
          ·simp at hss
         ·simp at h
        ·simp at h
       ·simp at h
      ·simp at h
     ·simp at h
    ·simp at h
   ·simp at h
  ·simp at h
 ·simp at h
theorem coeSrc_rel{bs:Nat→Option Blk}{u:Nat→Bool}(sy:List Nat)(sb:Option Nat)(e rows:List (List V)):W4 (CoeR bs u) rows (coeSrc sy sb e rows):=by
 unfold coeSrc
 split
 ·split
  ·exact W4.same (fun c=>CoeR.same c) _
  ·exact coeR_rel _ _
 ·exact W4.same (fun c=>CoeR.same c) _
theorem appOp_spec{A:AppD}(h:appOp P G ops [] i s=some A){α:Type}{ty:Ty α}{l x:List α}{sy:List Nat}(hr:A.rows=l.map ty.c)(hlen:A.len=l.length)(hs:coeSrc sy A.sb (x.map ty.c) A.srows=x.map ty.c)(hf:A.fl=true→A.sb=none∧∀y,ty.c y=ty.d y)
  (hb:(l.length+x.length) * A.bytes≤140737488355328) :
  A3 P G ops i s (opR ops i s []) (delW A.b++(delW A.sb++[.b A.d (some ⟨A.size,A.excl,(l++x).map ty.c⟩),.t A.d (.ref A.d 0 (l++x).length)])):=by
 have hlx:A.srows.length=x.length:=by
  have:=(coeSrc_rel (bs:=fun _=>none) (u:=fun _=>false) sy A.sb (x.map ty.c) A.srows).1
  rw[hs] at this;simpa using this.symm
 obtain⟨off,hat⟩:=appAt_of h (by rw[hlen,hr];simp) (fun e=>by
  obtain⟨e0,e2⟩:=hf e
  have e1:x.map ty.c=x.map ty.d:=ξi fun a _=>e2 a
  rw[e0] at hs
  have hs':A.srows=x.map ty.c:=hs
  rw[hs',e1,strip_map_d])
 obtain⟨oo,ho,hE⟩:=told_appendE (ds:=⟨A.b,0,A.size,A.excl,A.rows⟩) (ss:=⟨A.sb,off,A.size,true,A.srows⟩) (rows:=l.map ty.c++A.srows) (m:=(l++x).length) hat rfl (by simpa[hr,hlx] using hb) (by simp[hr]) (by simp[hr,hlx])
 refine P5 ⟨oo,ho,fun s2 hn ht hbm hu=>(hE s2 hn ht hbm hu).ghost ?_⟩
 simp only
 rw[app_delW,app_delW,app_delW,app_delW]
 have:=Gst.rowsT (G:=G) ((s2.delO A.b).delO A.sb) A.d A.size A.excl (rows:=l.map ty.c++A.srows) (rows':=(l++x).map ty.c) (fun bs u=>by
  rw[ζp]
  refine W4.append (W4.same (fun c=>CoeR.same c) _) ?_
  have:=coeSrc_rel (bs:=bs) (u:=u) sy A.sb (x.map ty.c) A.srows
  rw[hs] at this;exact this) [(A.d,.ref A.d 0 (l++x).length)]
 exact this
theorem Evs.of{o:Oper}{s s2:St}{x:Operand}{c:V}(hx:s.evC G o x=some c)(ht:∀t,t∈Y5 o→s2.t t=s.t t):Evs G s2 x c:=fun _ _ _ hs=>
 (hs.cutT (Y5 o)).ev (by rw[P1 ht];exact hx)
theorem dcell_ren{c:V}(h:U5 c=true)(f:Nat→Nat):W5 f c=c:=by
 cases c<;>simp_all [U5,W5]
 obtain⟨rfl,rfl⟩:=h
 simp[F0]
theorem dcell_refs{c:V}(h:U5 c=true):U2 c=[]:=by
 cases c<;>simp_all [U5,U2]
 obtain⟨rfl,rfl⟩:=h
 simp[H7]
theorem G7{c:V}(h:U5 c=true)(u:Nat→Bool):okV u c=true:=by
 cases c<;>simp_all [U5,okV]
 obtain⟨rfl,rfl⟩:=h
 simp[okL]
theorem U8.ren{k:Blk}(h:U8 k.rows)(f:Nat→Nat):k.ren f=k:=by
 unfold Blk.ren
 have:k.rows.map (F0 f)=k.rows:=by
  have:∀l:List (List V),U8 l→l.map (F0 f)=l:=by
   intro l hl
   induction l with
   | nil=>rfl
   | cons r l ih=>
    rw[ξf,ih fun r' hr'=>hl r' (by simp[hr'])]
    congr 1
    rw[renL_eq]
    conv=>rhs;rw[←List.map_id r]
    exact ξi fun c hc=>dcell_ren (hl r (by simp) c hc) f
  exact this _ h
 rw[this]
theorem U8.refs{rows:List (List V)}(h:U8 rows):H7 rows.flatten=[]:=by
 have:∀l:List V,(∀c,c∈l→U5 c=true)→H7 l=[]:=by
  intro l hl
  induction l with
  | nil=>rfl
  | cons c l ih=>simp only[H7,dcell_refs (hl c (by simp)),ih fun c' hc'=>hl c' (by simp[hc']),ξk]
 refine this _ fun c hc=>?_
 obtain⟨r,h1,h2⟩:=ξm.1 hc
 exact h r h1 c h2
def C6(sy:List Nat)(s:St):Prop:=∀b,b∈sy→∀k,s.b b=some k→U8 k.rows
theorem renB_eq{dt:List Nat}{b:Nat}{f:Nat→Nat}{k:Blk}(h:b∈dt→U8 k.rows):renB dt b f k=k.ren f:=by
 unfold renB
 split
 ·rename_i hc;exact((h (by simpa using hc)).ren f).symm
 ·rfl
theorem callOp_spec{Li Lo:List (Nat×Nat)}{sy:List Nat}{dst:Option Nat}{f:FuncId}{as:List V}{I:List (Nat×Blk)}(hsy:C6 sy s)(h:callOp P G ops Li Lo sy i s=some (dst,f,as,I)){O:List (Nat×Blk)}{res:V}
  {dt:List Nat} (hdt:∀p,p∈O→p.1∈dt→U8 p.2.rows) (hc:CallC P G f as (ofL I) res (ofL O)) (ho:outsOk (Li++Lo) dt O res=true) :
  A3 P G ops i s (opR ops i s ((Li++Lo).map (·.2))) (callWs (Li++Lo) dt O dst res):=by
 unfold callOp at h
 split at h
 ·rename_i dst' f' as' bl shl hcg
  split at h
  ·rename_i hcond
   simp only[ζa,ζP] at h
   obtain⟨rfl,rfl,rfl,rfl⟩:=h
   simp only[ζA,ζE,ζX] at hcond
   obtain⟨hids,hbl⟩:=hcond
   have hids':=hids
   simp only[idsOk,ζA,ζE,beq_iff_eq,ζF,ζB] at hids'
   obtain⟨⟨⟨i1,i2⟩,i3⟩,i4⟩:=hids'
   have hblk:∀x,x∈bl→sy.contains (Y8 (Li++Lo) x.1)=true→U8 x.2.rows:=by
    intro x hx hs
    simp only[callG] at hcg
    split at hcg
    ·rename_i o ff cs hca
     split at hcg
     ·rename_i shl' bl' hsh hb'
      split at hcg
      ·simp only[ζa,ζP] at hcg
       obtain⟨-,-,-,rfl,-⟩:=hcg
       obtain⟨n,hn⟩:=ζh.1 hx
       obtain⟨y,y1,y2⟩:=F8 hb' n x hn
       obtain⟨k,k1,rfl⟩:=ζb.1 y2
       have hy:=ζi y1
       have e:Y8 (Li++Lo) y.1=y.2:=(i1 y (ξd _ hy)).1.1
       simp only[e] at hs
       exact hsy y.2 (by simpa using hs) k (cutB_le _ _ _ _ k1)
      ·simp at hcg
     ·simp at hcg
    ·simp at hcg
   have eI:(bl.map fun x=>(x.1,renB sy (Y8 (Li++Lo) x.1) (Y1 (Li++Lo)) x.2))=bl.map fun x=>(x.1,x.2.ren (Y1 (Li++Lo))):=
    ξi fun x hx=>by rw[renB_eq fun hm=>hblk x hx (by simpa using hm)]
   simp only[outsOk,ζA,ζE,ζX] at ho
   have hshl:shl=[]:=by
    simp only[callG] at hcg
    split at hcg
    ·split at hcg
     ·rename_i hsh _
      split at hcg
      ·simp only[ζa,ζP] at hcg
       simp only[K7,ζa] at hsh
       rw[←hcg.2.2.2.2,←hsh]
      ·simp at hcg
     ·simp at hcg
    ·simp at hcg
   subst hshl
   refine told_call Li Lo [] hids hcg hc eI.symm (by simp) (fun x hx b hb=>?_) (fun x hx=>⟨(ho.1 x hx).1,fun b hb=>?_⟩) (by simpa[anyC] using ho.2) ?_
   ·rcases hbl x hx with h1|h1
    ·rw[(hblk x hx h1).refs] at hb;simp at hb
    ·exact h1 b hb
   ·rcases(ho.1 x hx).2 with h1|h1
    ·rw[(hdt x hx (by simpa using h1)).refs] at hb;simp at hb
    ·exact h1 b hb
   ·unfold callWs outW
    simp only[List.map_nil,ξk,ζq]
    congr 1
    refine ξi fun x hx=>?_
    simp only[Function.comp]
    congr 1
    cases hO:ofL O x.1 with
    | none=>rfl
    | some k=>
     simp only[ζZ]
     rw[renB_eq fun hm=>hdt _ (O8 hO) hm]
  ·simp at h
 ·simp at h
end
end Go.EV
namespace Go.EV
open Go
theorem mapO_sub{α β:Type}{f g:α→Option β}:∀{l:List α} {r:List β},K7 f l=some r→(∀x,x∈l→∀y,f x=some y→g x=some y)→K7 g l=some r
 | [],r,h,_=>h
 | x :: l,r,h,hg=>by
  simp only[K7] at h ⊢
  split at h
  ·rename_i y r' h1 h2
   rw[hg x (by simp) y h1,mapO_sub h2 fun z hz=>hg z (by simp[hz])];exact h
  ·simp at h
theorem viewV_dcell{look:Nat→Option Blk}{c:V}(h:U5 c=true)(n:Nat):M9 look (n+1) c=M9 look 1 c:=by
 cases c<;>simp_all [U5,M9]
 obtain⟨rfl,rfl⟩:=h
 simp[K7]
theorem Ty.view{α:Type}(ty:Ty α)(look:Nat→Option Blk)(n:Nat)(x:α):K7 (fun v=>D4 (M9 look (n+1) v)) (ty.c x)=some (ty.d x):=
 mapO_sub (ty.vw look x) fun c hc y hy=>by
  rw[viewV_dcell (ζE.1 (ty.cd x) c hc)];exact hy
theorem Ty.views{α:Type}(ty:Ty α)(look:Nat→Option Blk)(n:Nat):∀l:List α,K7 (K7 fun v=>D4 (M9 look (n+1) v)) (l.map ty.c)=some (l.map ty.d)
 | []=>rfl
 | x :: l=>by simp only[ξf,K7,ty.view look n x,ty.views look n l]
theorem viewE_rows{look:Nat→Option Blk}{vs:List VwW}:∀(n:Nat) (c:V) (e:Nat×List (List V)×Nat),e∈N2 look vs n c→∃k,look e.1=some k∧e.2.1=k.rows
 | 0,_,_,h=>by simp[N2] at h
 | n+1,c,e,h=>by
  have fl:∀l:List V,e∈l.flatMap (N2 look vs n)→∃k,look e.1=some k∧e.2.1=k.rows:=fun l hl=>by
   obtain⟨x,_,hx⟩:=ξb.1 hl
   exact viewE_rows n x e hx
  cases c<;>simp only[N2,ζw] at h
  case ref b off len=>
   split at h
   ·split at h
    ·rename_i k hk
     simp only[ζu] at h
     subst h;exact⟨k,hk,rfl⟩
    ·simp at h
   ·simp at h
  case ptr b i off=>
   split at h
   ·split at h
    ·exact fl _ h
    ·simp at h
   ·simp at h
  case fn f a c=>
   rcases ζr.1 h with h|h
   ·exact fl _ h
   ·exact fl _ h
  case agg l=>exact fl _ h
  case tup l=>exact fl _ h
def VOk(vs:List VwW)(es:List (Nat×List (List V)×Nat)):Prop:=
 ∀e,e∈es→∀v,vs.find? (fun v=>v.b==e.1)=some v→e.2.1.take e.2.2=v.l.map v.ty.c
theorem viewG_spec{look:Nat→Option Blk}{vs:List VwW}:∀(n:Nat) (c d:V),viewG look vs n c=some d→VOk vs (N2 look vs n c)→M9 look n c=some d
 | 0,_,_,h,_=>by simp[viewG] at h
 | n+1,c,d,h,hv=>by
  have ih:=viewG_spec (look:=look) (vs:=vs) n
  have sub:∀(l:List V) (r:List V),K7 (viewG look vs n) l=some r→VOk vs (l.flatMap (N2 look vs n))→K7 (M9 look n) l=some r:=fun l r hm hl=>
   mapO_sub hm fun x hx y hy=>ih x y hy fun e he=>hl e (ξb.2 ⟨x,hx,he⟩)
  cases c<;>simp only[viewG] at h<;>try exact h
  case ref b off len=>
   split at h
   ·rename_i v hf
    split at h
    ·split at h
     ·simp at h
     ·rename_i n0
      obtain⟨k,hk,rfl⟩:=ζb.1 h
      have:=hv (b,k.rows,len) (by simp only[N2,hf,hk];simp)
      have e:(k.rows.drop 0).take len=v.l.map v.ty.c:=by rw[List.drop_zero];exact this v hf
      simp only[M9,hk]
      rw[e,v.ty.views]
      rfl
    ·simp at h
   ·exact h
  case ptr b i off=>
   split at h
   ·rename_i k hk
    split at h
    ·rename_i r hr
     obtain⟨l,h1,rfl⟩:=ζb.1 h
     simp only[N2,hk,hr] at hv
     simp only[M9,hk,hr]
     rw[mapO_sub h1 fun x hx y hy=>?_]
     ·rfl
     ·obtain⟨a1,a2⟩:=P2 hy
      have:=ih x y a1 fun e he=>hv e (ξb.2 ⟨x,hx,he⟩)
      unfold D4;rw[this];simp[a2]
    ·simp at h
   ·simp at h
  case fn f a c=>
   split at h
   ·rename_i a' c' h1 h2
    simp only[N2] at hv
    simp only[M9]
    rw[sub a a' h1 fun e he=>hv e (ξd _ he),sub c c' h2 fun e he=>hv e (List.mem_append_right _ he)]
    exact h
   ·simp at h
  case agg l=>
   obtain⟨r,h1,rfl⟩:=ζb.1 h
   simp only[M9]
   rw[sub l r h1 hv];rfl
  case tup l=>
   obtain⟨r,h1,rfl⟩:=ζb.1 h
   simp only[M9]
   rw[sub l r h1 hv];rfl
theorem vOk_of{look:Nat→Option Blk}{vs:List VwW}{n:Nat}{cs:List V}(hw:vsOk vs=true)(h:cs.flatMap (N2 look vs n)=vs.map VwW.eqn):VOk vs (cs.flatMap (N2 look vs n)):=by
 have rows:∀e,e∈cs.flatMap (N2 look vs n)→∃k,look e.1=some k∧e.2.1=k.rows:=fun e he=>by
  obtain⟨x,_,hx⟩:=ξb.1 he
  exact viewE_rows n x e hx
 intro e he v hv
 obtain⟨k,k1,k2⟩:=rows e he
 have hm:=ξh hv
 have hb:v.b=e.1:=by simpa using List.find?_some hv
 have:v.eqn∈cs.flatMap (N2 look vs n):=by rw[h];exact ζt.2 ⟨v,hm,rfl⟩
 obtain⟨k',k3,k4⟩:=rows _ this
 simp only[VwW.eqn] at k3 k4
 rw[hb,k1] at k3
 simp only[ζa] at k3
 subst k3
 obtain⟨v',hm',he'⟩:=ζt.1 (h▸he)
 subst he'
 simp only[VwW.eqn] at k1 k2 hb ⊢
 have one:∀x,x∈vs→∀y,y∈vs→y.b=x.b→x.w=false→x=y:=fun x hx y hy hxy hw0=>by
  have:=ζE.1 hw x hx
  rw[hw0] at this
  simp only[Bool.false_or,beq_iff_eq] at this
  obtain⟨z,hz⟩:=List.length_eq_one_iff.1 this
  have hx':x∈vs.filter fun q=>q.b==x.b:=List.mem_filter.2 ⟨hx,by simp⟩
  have hy':y∈vs.filter fun q=>q.b==x.b:=List.mem_filter.2 ⟨hy,by simpa using hxy⟩
  rw[hz] at hx' hy'
  rw[ζu.1 hx',ζu.1 hy']
 cases hwv:v.w with
 | false=>rw[←one v hm v' hm' hb.symm hwv];exact v.h
 | true=>
  cases hwv':v'.w with
  | false=>rw[one v' hm' v hm hb hwv'];exact v.h
  | true=>rw[v'.hw hwv',show v'.rows.length=v.n by rw[v.hw hwv,k2,k4],k2,←k4];exact v.h
section
variable {P:Program} {G:Nat→Option (List V)} {ops:Array Oper} {i:Nat} {s:St}
theorem viewOp_spec{ex:List Nat}{vs:List VwW}{dst:Option Nat}{f:FuncId}{ds:List V}{es:List (Nat×List (List V)×Nat)}{r:V}(h:viewOp P G ops ex vs i s=some (dst,f,ds,es))(he:es=vs.map VwW.eqn)
  (hc:PureC P G f ds r) (hr:O1 r=true):A3 P G ops i s (opR ops i s ex) (dstW dst r):=by
 unfold viewOp at h
 split at h
 ·rename_i o f' cs hca
  split at h
  rotate_left
  ·simp at h
  rename_i hw
  obtain⟨ds',hm,h2⟩:=ζb.1 h
  simp only[ζP] at h2
  obtain⟨rfl,rfl,rfl,rfl⟩:=h2
  have hv:=vOk_of hw he
  refine told_view 8 ?_ hc hr
  simp only[viewAt,hca]
  rw[mapO_sub hm fun x hx y hy=>viewG_spec 8 x y hy fun e he=>hv e (ξb.2 ⟨x,hx,he⟩)]
  rfl
 ·simp at h
end
def R2(P:Program)(G:Nat→Option (List V))(ops:Array Oper)(p:J0)(st0 s:St):Prop:=
 s=K0 p st0 p.length∧∀j,j < p.length→A3 P G ops j (K0 p st0 j) (p.rs j) (p.ws j)
theorem along_append(p:J0)(x:List Loc×List Wr)(st:St):∀n,n≤p.length→K0 (p++[x]) st n=K0 p st n
 | 0,_=>rfl
 | n+1,h=>by
  simp only[K0]
  rw[along_append p x st n (by omega)]
  congr 1
  unfold J0.ws
  rw[ζV,ζV,ζl (by omega)]
theorem R2.push{P:Program}{G:Nat→Option (List V)}{ops:Array Oper}{p:J0}{st0 s:St}(h:R2 P G ops p st0 s){R:List Loc}{ws:List Wr}(hs:A3 P G ops p.length s R ws):R2 P G ops (p++[(R,ws)]) st0 (s.app ws):=by
 obtain⟨h1,h2⟩:=h
 have e:(p++[(R,ws)]).getD p.length ([],[])=(R,ws):=by rw[ζV];simp
 refine⟨?_,fun j hj=>?_⟩
 ·rw[ζn]
  show _=(K0 (p++[(R,ws)]) st0 p.length).app _
  rw[along_append _ _ _ _ (ζK _),←h1]
  unfold J0.ws;rw[e]
 ·simp only[ζn,List.length_singleton] at hj
  rw[along_append _ _ _ _ (by omega)]
  by_cases hjl:j < p.length
  ·have e2:(p++[(R,ws)]).getD j ([],[])=p.getD j ([],[]):=by
    rw[ζV,ζV,ζl hjl]
   unfold J0.rs J0.ws
   rw[e2]
   exact h2 j hjl
  ·have:j=p.length:=by omega
   subst this
   unfold J0.rs J0.ws
   rw[e,←h1];exact hs
theorem app_b_other{ws:List Wr}{s:St}{b:Nat}(h:¬b∈wrBs ws):(s.app ws).b b=s.b b:=
 (L8 (l:=.b b) ws s fun x hx e=>h (by
  unfold wrBs
  refine List.mem_filterMap.2 ⟨x,hx,?_⟩
  cases x with
  | t i c=>simp[Wr.loc] at e
  | b i k=>simp only[Wr.loc,Loc.b.injEq] at e;subst e;rfl)).1
theorem app_t_other{ws:List Wr}{s:St}{t:Nat}(h:¬t∈wrTs ws):(s.app ws).t t=s.t t:=
 L8 (l:=.t t) ws s fun x hx e=>h (by
  unfold wrTs
  refine List.mem_filterMap.2 ⟨x,hx,?_⟩
  cases x with
  | b i c=>simp[Wr.loc] at e
  | t i k=>simp only[Wr.loc,Loc.t.injEq] at e;subst e;rfl)
theorem app_append(a b:List Wr)(s:St):s.app (a++b)=(s.app a).app b:=by unfold St.app;rw[List.foldl_append]
theorem app_snoc(ws:List Wr)(x:Wr)(s:St):s.app (ws++[x])=(s.app ws).wr x:=by
 unfold St.app;rw[List.foldl_append];rfl
theorem app_b_mem{s:St}{b:Nat}{k:Blk}:∀(n:Nat) (ws:List Wr),ws.length=n→(s.app ws).b b=some k→b∈wrBs ws→Wr.b b (some k)∈ws
 | 0,ws,hn,_,hm=>by rw[ζS.1 hn] at hm;simp[wrBs] at hm
 | n+1,ws,hn,h,hm=>by
  obtain⟨ws',x,rfl⟩:∃ws' x,ws=ws'++[x]:=⟨ws.dropLast,ws.getLast (by intro e;rw[e] at hn;simp at hn),(List.dropLast_concat_getLast _).symm⟩
  rw[app_snoc] at h
  have hl:ws'.length=n:=by simpa using hn
  cases x with
  | t i c=>
   have hm':b∈wrBs ws':=by
    unfold wrBs at hm ⊢
    rw[List.filterMap_append] at hm
    simpa using hm
   exact ξd _ (app_b_mem n ws' hl h hm')
  | b i q=>
   by_cases hi:b=i
   ·subst hi
    cases q with
    | none=>simp[St.wr,St.delB] at h
    | some q=>
     simp only[St.wr,St.setB,if_true,ζa] at h
     subst h;simp
   ·have h':(s.app ws').b b=some k:=by
     cases q with
     | none=>simpa[St.wr,St.delB,hi] using h
     | some q=>simpa[St.wr,St.setB,hi] using h
    have hm':b∈wrBs ws':=by
     unfold wrBs at hm ⊢
     rw[List.filterMap_append] at hm
     simpa[hi] using hm
    exact ξd _ (app_b_mem n ws' hl h' hm')
theorem C6.step{sy:List Nat}{s:St}(h:C6 sy s){ws:List Wr}{told:List Nat}(ht:∀i k,Wr.b i (some k)∈ws→i∈told→U8 k.rows):C6 (syStep sy ws told) (s.app ws):=by
 intro b hb k hk
 unfold syStep at hb
 rcases ζr.1 hb with hb|hb
 ·obtain⟨h1,h2⟩:=List.mem_filter.1 hb
  exact ht b k (app_b_mem _ ws rfl hk (by simpa using h2)) h1
 ·obtain⟨h1,h2⟩:=List.mem_filter.1 hb
  rw[app_b_other (by simpa using h2)] at hk
  exact h b h1 k hk
theorem CallC.coe{P:Program}{G:Nat→Option (List V)}{f:FuncId}{es as:List V}{ins outs:Nat→Option Blk}{res:V}(h:CallC P G f (V8 (A8 8) es as) ins res outs):CallC P G f as ins res outs:=fun γ w vs hg ho ha hb=>
 h γ w vs hg ho ⟨by rw[coeL_len];exact ha.1,fun i c v hc hv=>by
  obtain⟨c',k1,k2⟩:=coeL_get _ _ _ _ _ hc
  rcases k2 with rfl|⟨e,rfl⟩
  ·exact ha.2 i _ v k1 hv
  ·exact coeV_rep 8 e c' v (ha.2 i c' v k1 hv)⟩ hb
section
variable {P:Program} {G:Nat→Option (List V)} {id:Nat} {ops:Array Oper}
def Goes(P:Program)(G:Nat→Option (List V))(ops:Array Oper){ρ:Type}(F:C8 ρ)(r:ρ)(st0:St)(n:Nat)(next:T P G ρ→St→J0→List Nat→C):Prop:=
 ∃g' s' p' sy',next g' s' p' sy'=g'.expect F∧g'.run=some r∧R2 P G ops p' st0 s'∧C6 sy' s'∧p'.length=n
theorem reK_sound{ρ:Type}{F:C8 ρ}{a:Nat}{k:T P G ρ}{R:List Loc}{ws:List Wr}{s st0:St}{p:J0}{sy:List Nat}{next:T P G ρ→St→J0→List Nat→C}{r:ρ}
  (h:reK P G a k R ws s p sy next=k.expect F) (hr:k.run=some r) (hp:R2 P G ops p st0 s) (hsy:C6 sy s) (hs:A3 P G ops p.length s R ws) :
  ∃g' sy' p',next g' (s.app ws) p' sy'=g'.expect F∧g'.run=some r∧R2 P G ops p' st0 (s.app ws)∧C6 sy' (s.app ws)∧p'.length=p.length+1:=by
 have plain:next k (s.app ws) (p++[(R,ws)]) (syStep sy ws [])=k.expect F→∃g' sy' p',next g' (s.app ws) p' sy'=g'.expect F∧g'.run=some r∧R2 P G ops p' st0 (s.app ws)∧C6 sy' (s.app ws)∧p'.length=p.length+1:=
  fun h=>⟨k,_,_,h,hr,hp.push hs,hsy.step (fun _ _ _ h=>by simp at h),by simp⟩
 cases k<;>try exact plain h
 case re a' w k'=>
  simp only[reK] at h
  split at h
  ·simp only[T.expect,C.re.injEq] at h
   obtain⟨h1,h2⟩:=h
   have e:ws=w.b:=h1.trans w.h
   rw[e]
   exact⟨k',_,_,h2,hr,hp.push (e▸hs),hsy.step w.dat,by simp⟩
  ·exact plain h
theorem dflt_sound{ρ:Type}{F:C8 ρ}{g:T P G ρ}{s st0:St}{p:J0}{sy:List Nat}{next:T P G ρ→St→J0→List Nat→C}{r:ρ}(hns:∀j,C.stuck j≠g.expect F)
  (h:dflt P G ops p.length g s p sy next=g.expect F) (hr:g.run=some r) (hp:R2 P G ops p st0 s) (hsy:C6 sy s):Goes P G ops F r st0 (p.length+1) next:=by
 unfold dflt at h
 split at h
 ·rename_i R ws hrw
  exact⟨g,_,_,_,h,hr,hp.push (stepRW_spec hrw),hsy.step (fun _ _ _ h=>by simp at h),by simp⟩
 ·exact absurd h (hns _)
theorem Z5{ρ:Type}(F:C8 ρ)(g:T P G ρ)(j:Nat):C.stuck j≠g.expect F:=by
 induction g with
 | done r=>
  cases F with
  | rnd S E=>cases r<;>simp[T.expect,extFin]
  | fnp rs res outs ex pouts=>cases r<;>simp[T.expect,extFin]
  | _=>simp[T.expect,extFin]
 | tt k ih=>simpa[T.expect] using ih F
 | ff k ih=>simpa[T.expect] using ih F
 | lp S body x=>cases F<;>simp[T.expect]
 | ceq a n vs k=>cases vs<;>simp[T.expect]
 | _=>simp[T.expect]
theorem sy_call{s:St}{sy sy':List Nat}{i:Nat}{Li Lo:List (Nat×Nat)}{dst dst':Option Nat}{f:FuncId}{as:List V}{ins:List (Nat×Blk)}
  {O:List (Nat×Blk)} {res:V} {dt:List Nat} (hc:callOp P G ops Li Lo sy i s=some (dst',f,as,ins)) (hdt:∀q,q∈O→q.1∈dt→U8 q.2.rows)
  (x4:C6 sy' (s.app (callWs (Li++Lo) dt O dst res))):C6 (syOuts (Li++Lo) dt++sy') (s.app (callWs (Li++Lo) dt O dst res)):=by
 intro b hb q hq
 rcases ζr.1 hb with hb|hb
 ·unfold syOuts at hb
  obtain⟨y,hy,rfl⟩:=ζt.1 hb
  obtain⟨y1,y2⟩:=List.mem_filter.1 hy
  unfold callOp at hc
  split at hc
  ·split at hc
   ·rename_i hcond
    simp only[ζA] at hcond
    have hids:=hcond.1
    simp only[idsOk,ζA,ζE,beq_iff_eq,ζF,ζB] at hids
    have i1:=hids.1.1.1
    have e0:(s.app (callWs (Li++Lo) dt O dst res)).b y.2=(ofL O y.1).map (renB dt y.1 (Y8 (Li++Lo))):=by
     unfold callWs
     rw[app_append]
     have e1:∀s':St,(s'.app (dstW dst (W5 (Y8 (Li++Lo)) res))).b y.2=s'.b y.2:=fun s'=>app_b_other (by cases dst<;>simp[dstW,wrBs])
     rw[e1]
     have:=(app_b_in ((ofL O y.1).map (renB dt y.1 (Y8 (Li++Lo)))) ((Li++Lo).map fun z=>(z.2,(ofL O z.1).map (renB dt z.1 (Y8 (Li++Lo))))) s y.2 (fun z hz e=>by
      obtain⟨z',hz',rfl⟩:=ζt.1 hz
      simp only at e ⊢
      have a1:=(i1 z' hz').1.2
      have a2:=(i1 y y1).1.2
      rw[e,a2] at a1
      rw[a1]) ⟨_,ζt.2 ⟨y,y1,rfl⟩,rfl⟩).1
     rw[ζq] at this
     exact this
    rw[e0] at hq
    cases hO:ofL O y.1 with
    | none=>rw[hO] at hq;simp at hq
    | some k=>
     rw[hO] at hq
     simp only[ζZ,ζa] at hq
     subst hq
     have hd:=hdt (y.1,k) (O8 hO) (by simpa using y2)
     rw[renB_eq (fun _=>hd),hd.ren];exact hd
   ·simp at hc
  ·simp at hc
 ·exact x4 b hb q hq
theorem call_case{ρ:Type}{F:C8 ρ}{a:Nat}{k:T P G ρ}{s st0:St}{p:J0}{sy:List Nat}{next:T P G ρ→St→J0→List Nat→C}{r:ρ}{Li Lo:List (Nat×Nat)}{dst:Option Nat}{f:FuncId}{as:List V}{ins:List (Nat×Blk)}
  {O:List (Nat×Blk)} {res:V} {dt:List Nat} (hp:R2 P G ops p st0 s) (hsy:C6 sy s) (hc:callOp P G ops Li Lo sy p.length s=some (dst,f,as,ins)) (hdt:∀q,q∈O→q.1∈dt→U8 q.2.rows)
  (hok:CallC P G f as (ofL ins) res (ofL O)) (hout:outsOk (Li++Lo) dt O res=true)
  (h5:reK P G a k (opR ops p.length s ((Li++Lo).map (·.2))) (callWs (Li++Lo) dt O dst res) s p sy (fun g s p sy=>next g s p (syOuts (Li++Lo) dt++sy))=k.expect F) (hr:k.run=some r):Goes P G ops F r st0 (p.length+1) next:=by
 have hs:=callOp_spec hsy hc hdt hok hout
 obtain⟨g',sy',p',x1,x2,x3,x4,x5⟩:=reK_sound h5 hr hp hsy hs
 exact⟨g',_,p',_,x1,x2,x3,sy_call hc hdt x4,x5⟩
theorem dop_sound{ρ:Type}{F:C8 ρ}{g:T P G ρ}{s st0:St}{p:J0}{sy:List Nat}{next:T P G ρ→St→J0→List Nat→C}{r:ρ}
  (h:dop P G id ops p.length g s p sy next=g.expect F) (hr:g.run=some r) (hp:R2 P G ops p st0 s) (hsy:C6 sy s):Goes P G ops F r st0 (p.length+1) next:=by
 have pl:dflt P G ops p.length g s p sy next=g.expect F→Goes P G ops F r st0 (p.length+1) next:=fun h=>dflt_sound (Z5 F g) h hr hp hsy
 cases g<;>simp only[dop] at h<;>try exact pl h
 case fail=>simp[T.run] at hr
 case chk a c k=>
  split at h
  ·split at h
   ·rename_i c' ws hc
    simp only[T.expect,C.chk.injEq] at h
    obtain⟨rfl,h2⟩:=h
    simp only[T.run] at hr
    cases c' with
    | false=>simp at hr
    | true=>
     obtain⟨g',sy',p',x1,x2,x3,x4,x5⟩:=reK_sound h2 hr hp hsy (chkOp_spec hc rfl)
     exact⟨g',_,p',sy',x1,x2,x3,x4,x5⟩
   ·exact absurd h (Z5 F _ _)
  ·exact pl h
 case re a w k=>
  split at h
  ·split at h
   ·rename_i R ws hrw
    simp only[T.expect,C.re.injEq] at h
    obtain⟨h1,h2⟩:=h
    have e:ws=w.b:=h1.trans w.h
    subst e
    exact⟨k,_,_,_,h2,hr,hp.push (stepRW_spec hrw),hsy.step w.dat,by simp⟩
   ·exact absurd h (Z5 F _ _)
  ·exact pl h
 case row α a ty l j c k=>
  split at h
  ·split at h
   ·rename_i rows j' c' f hro
    simp only[T.expect,C.row.injEq,heq_eq_eq,true_and] at h
    obtain⟨rfl,rfl,rfl,h4⟩:=h
    simp only[T.run] at hr
    cases c' with
    | false=>simp at hr
    | true=>
     simp only[cond_true] at hr
     split at hr
     ·rename_i x hx
      have h5:=congrFun h4 x
      split at h5
      ·rename_i ws hws
       have hrow:(l.map ty.c)[j']?=some (ty.c x):=by rw[ζo,hx];rfl
       obtain⟨g',sy',p',x1,x2,x3,x4,x5⟩:=reK_sound h5 hr hp hsy (rowOp_spec hro rfl hrow hws)
       exact⟨g',_,p',sy',x1,x2,x3,x4,x5⟩
      ·exact absurd h5 (Z5 F _ _)
     ·simp at hr
   ·exact absurd h (Z5 F _ _)
  ·exact pl h
 case app α a ty l x bytes fl hf k=>
  split at h
  ·split at h
   ·rename_i A hA
    simp only[T.expect,C.app.injEq] at h
    obtain⟨h1,h2,h3,h4,h5,h6⟩:=h
    simp only[T.run] at hr
    cases hc:decide ((l.length+x.length) * bytes≤140737488355328) with
    | false=>rw[hc] at hr;simp at hr
    | true=>
     rw[hc] at hr
     simp only[cond_true] at hr
     have hb:(l.length+x.length) * A.bytes≤140737488355328:=by rw[h4];simpa using hc
     have hs:=appOp_spec hA h1 h2 h3 (fun e=>⟨appOp_fl hA e,hf (by rw[←h5];exact e)⟩) hb
     refine⟨k,_,_,_,h6,hr,hp.push hs,hsy.step (fun i k hm hi=>?_),by simp⟩
     simp only[ζu] at hi
     subst hi
     simp only[ζr,ζv,ζw,or_false,Wr.b.injEq,ζa,true_and,reduceCtorEq] at hm
     rcases hm with hm|hm|hm
     ·unfold delW at hm;split at hm<;>simp at hm
     ·unfold delW at hm;split at hm<;>simp at hm
     ·subst hm;exact ty.data _
   ·exact absurd h (Z5 F _ _)
  ·exact pl h
 case call α a sp Li Lo k=>
  split at h
  ·split at h
   ·rename_i dst f as ins hc
    simp only[T.expect,C.call.injEq,heq_eq_eq,true_and] at h
    obtain⟨rfl,h2,rfl,h4⟩:=h
    simp only[T.run] at hr
    split at hr
    ·rename_i x hx
     have h5:=congrFun h4 x
     split at h5
     ·rename_i hout
      exact call_case hp hsy hc (sp.dat x) (by have:=sp.ok x hx;rw[←h2] at this;exact this.coe) hout h5 hr
     ·exact absurd h5 (Z5 F _ _)
    ·simp at hr
   ·exact absurd h (Z5 F _ _)
  ·exact pl h
 case call2 α β a sp Li Lo k k2=>
  split at h
  ·split at h
   ·rename_i dst f as ins hc
    simp only[T.expect,C.call2.injEq,heq_eq_eq,true_and] at h
    obtain⟨rfl,h2,rfl,h4,h4b⟩:=h
    simp only[T.run] at hr
    split at hr
    ·rename_i x hx
     have h5:=congrFun h4 x
     split at h5
     ·rename_i hout
      exact call_case hp hsy hc (sp.dat _) (by have:=sp.ok _ hx;rw[←h2] at this;exact this.coe) hout h5 hr
     ·exact absurd h5 (Z5 F _ _)
    ·rename_i x hx
     have h5:=congrFun h4b x
     split at h5
     ·rename_i hout
      exact call_case hp hsy hc (sp.dat _) (by have:=sp.ok _ hx;rw[←h2] at this;exact this.coe) hout h5 hr
     ·exact absurd h5 (Z5 F _ _)
    ·simp at hr
   ·exact absurd h (Z5 F _ _)
  ·exact pl h
 case view α a sp vs k=>
  split at h
  ·split at h
   ·split at h
    ·rename_i dst f ds eqs hv
     simp only[T.expect,C.view.injEq,heq_eq_eq,true_and] at h
     obtain⟨rfl,h2,h3,h4⟩:=h
     simp only[T.run] at hr
     split at hr
     ·rename_i x hx
      have h5:=congrFun h4 x
      split at h5
      ·rename_i hfl
       simp only[ζA,List.isEmpty_iff] at hfl
       obtain⟨f1,f2,f3⟩:=hfl
       have hok:=sp.ok x hx
       rw[f2,f3,←h2] at hok
       have hok:=hok.coe
       have hs:=viewOp_spec hv h3 hok f1
       exact⟨_,_,_,_,h5,hr,hp.push hs,fun b hb q hq=>hsy b hb q (by
        rw[←hq];exact(app_b_other (by cases dst<;>simp[dstW,wrBs])).symm),by simp⟩
      ·exact absurd h5 (Z5 F _ _)
     ·simp at hr
    ·exact absurd h (Z5 F _ _)
   ·exact absurd h (Z5 F _ _)
  ·exact pl h
 case opr β a R k=>
  split at h
  ·split at h
   ·rename_i o ho
    split at h
    ·rename_i hfr
     simp only[T.expect,C.rule.injEq,heq_eq_eq,true_and] at h
     obtain⟨h1,h2,h3,h4,h5⟩:=h
     simp only[T.run] at hr
     split at hr
     ·rename_i x hx
      have hs:A3 P G ops p.length s (opR ops p.length s (R.blks.map (·.1))) (R.ws x):=P5 ⟨o,ho,fun s2 hn ht hb hu=>R.ok x hx o s2 h1 h2
       (fun q hq=>Evs.of (List.map_inj_left.1 h3 q hq) ht)
       (fun q hq=>by rw[(hb q.1 (List.mem_append_right _ (ζt.2 ⟨q,hq,rfl⟩))).1];exact List.map_inj_left.1 h4 q hq)
       (fun d hd=>by
        have hd':o.dst=some d:=h2.trans hd
        rw[hd'] at hfr
        simp only[ζA,ζF,ζB] at hfr
        rw[hn,(hu d hd').2];exact hfr)⟩
      exact⟨_,_,_,_,congrFun h5 x,hr,hp.push hs,hsy.step (R.dat x),by simp⟩
     ·simp at hr
    ·exact absurd h (Z5 F _ _)
   ·exact absurd h (Z5 F _ _)
  ·exact pl h
theorem guardT_spec{i:Nat}{s:St}{d:Nat}{b:Bool}(h:guardT ops i s=some (d,b)):s.setT d (.bool b)=s:=by
 unfold guardT at h
 split at h
 ·split at h
  ·split at h
   ·split at h
    ·rename_i b' hb
     simp only[ζa,ζP] at h
     obtain⟨rfl,rfl⟩:=h
     unfold St.setT
     cases s
     simp only[St.mk.injEq,true_and,and_true]
     funext j
     split
     ·rename_i hj;subst hj;exact hb.symm
     ·rfl
    ·simp at h
   ·simp at h
  ·simp at h
 ·simp at h
theorem setT_self{s:St}{t:Nat}{c:V}(hb:s.t t=c):s.setT t c=s:=by
 unfold St.setT
 cases s
 simp only[St.mk.injEq,true_and,and_true]
 funext j
 split
 ·rename_i hj;subst hj;exact hb.symm
 ·rfl
theorem idxT_spec{i:Nat}{s:St}{t:Nat}{k:IntKind}{m:Int}(h:idxT ops i s=some (t,k,m)):s.setT t (.int k m)=s:=by
 unfold idxT at h
 split at h
 ·split at h
  ·split at h
   ·rename_i hb
    simp only[ζa,ζP] at h
    obtain⟨rfl,rfl,rfl⟩:=h
    exact setT_self hb
   ·simp at h
  ·split at h
   ·rename_i hb
    simp only[ζa,ζP] at h
    obtain⟨rfl,rfl,rfl⟩:=h
    exact setT_self hb
   ·simp at h
  ·simp at h
 ·simp at h
theorem ceq_sound{m n:Int}{A B:Int→C}:∀(vs:List Int),vs.foldr (fun v r=>C.br (m==v) (A v) r) C.fail=vs.foldr (fun v r=>C.br (n==v) (B v) r) C.fail→vs.contains n=true→m=n∧A n=B n
 | [],_,h=>by simp at h
 | v :: vs,h,hc=>by
  simp only[List.foldr_cons,C.br.injEq] at h
  obtain⟨h1,h2,h3⟩:=h
  by_cases hn:n=v
  ·subst hn
   simp only[beq_self_eq_true,beq_iff_eq] at h1
   exact⟨h1,h2⟩
  ·refine ceq_sound vs h3 ?_
   simp only[List.contains_cons,ζX,beq_iff_eq] at hc
   exact hc.resolve_left hn
def GoesP(P:Program)(G:Nat→Option (List V))(ops:Array Oper){ρ:Type}(F:C8 ρ)(r:ρ)(st0:St)(n:Nat)(κp:Value→T P G ρ→St→J0→List Nat→C):Prop:=
 ∃v g' s' p' sy' p s,κp v g' s' p' sy'=g'.expect F∧g'.run=some r∧R2 P G ops p st0 s∧StepP P G ops p.length s (.panic (thrown v)) s'∧p.length < n∧C6 sy' s'∧s'=K0 p' st0 p'.length
theorem rg_sound{ρ:Type}{F:C8 ρ}{r:ρ}{st0:St}{κ:T P G ρ→St→J0→List Nat→C}{κp:Value→T P G ρ→St→J0→List Nat→C}:∀(m:Nat) (g:T P G ρ) (s:St) (p:J0) (sy:List Nat),
  rg P G id ops (List.range' p.length m) g s p sy κ κp=g.expect F→g.run=some r→R2 P G ops p st0 s→C6 sy s→Goes P G ops F r st0 (p.length+m) κ∨GoesP P G ops F r st0 (p.length+m) κp
 | 0,g,s,p,sy,h,hr,hp,hsy=>.inl ⟨g,s,p,sy,h,hr,hp,hsy,rfl⟩
 | m+1,g,s,p,sy,h,hr,hp,hsy=>by
  rw[List.range'_succ] at h
  have next:∀{g':T P G ρ} {s':St} {p':J0} {sy':List Nat} (n1:Nat),n1=p.length+1→rg P G id ops (List.range' n1 m) g' s' p' sy' κ κp=g'.expect F→g'.run=some r→R2 P G ops p' st0 s'→C6 sy' s'→p'.length=p.length+1→
    Goes P G ops F r st0 (p.length+(m+1)) κ∨GoesP P G ops F r st0 (p.length+(m+1)) κp:=by
   intro g' s' p' sy' n1 hn1 x1 x2 x3 x4 x5
   have:=rg_sound m g' s' p' sy' (by rw[x5,←hn1];exact x1) x2 x3 x4
   rw[x5] at this
   rw[show p.length+(m+1)=p.length+1+m by omega];exact this
  have step:∀(g:T P G ρ) (s:St),R2 P G ops p st0 s→C6 sy s→g.run=some r→∀n1,n1=p.length+1→
    dop P G id ops p.length g s p sy (fun g s p' sy=>rg P G id ops (List.range' n1 m) g s p' sy κ κp)=g.expect F→Goes P G ops F r st0 (p.length+(m+1)) κ∨GoesP P G ops F r st0 (p.length+(m+1)) κp:=by
   intro g s hp hsy hr n1 hn1 h
   obtain⟨g',s',p',sy',x1,x2,x3,x4,x5⟩:=dop_sound h hr hp hsy
   exact next n1 hn1 x1 x2 x3 x4 x5
  have pl:dop P G id ops p.length g s p sy (fun g s p' sy=>rg P G id ops (List.range' (p.length+1) m) g s p' sy κ κp)=g.expect F→Goes P G ops F r st0 (p.length+(m+1)) κ∨GoesP P G ops F r st0 (p.length+(m+1)) κp:=step g s hp hsy hr _ rfl
  cases g<;>try exact pl h
  case br a c x y=>
   simp only[rg] at h
   split at h
   ·split at h
    ·rename_i d b hg
     simp only[T.expect,C.br.injEq] at h
     obtain⟨rfl,h1,h2⟩:=h
     simp only[T.run] at hr
     have e:=guardT_spec hg
     cases b with
     | true=>rw[e] at h1;exact step x s hp hsy (by simpa using hr) _ rfl h1
     | false=>rw[e] at h2;exact step y s hp hsy (by simpa using hr) _ rfl h2
    ·exact absurd h (Z5 F _ _)
   ·exact pl h
  case ceq a n vs k=>
   simp only[rg] at h
   split at h
   ·split at h
    ·rename_i t kd m' hg
     simp only[T.expect] at h
     simp only[T.run] at hr
     cases hc:vs.contains n with
     | false=>rw[hc] at hr;simp at hr
     | true=>
      rw[hc] at hr
      obtain⟨rfl,h2⟩:=ceq_sound vs h hc
      have e:=idxT_spec hg
      rw[e] at h2
      exact step _ s hp hsy (by simpa using hr) _ rfl h2
    ·exact absurd h (Z5 F (T.ceq a n vs k) _)
   ·exact pl h
theorem region_sound{ρ:Type}{F:C8 ρ}{g:T P G ρ}{r:ρ}{st:St}{sy:List Nat}{κ:T P G ρ→St→J0→List Nat→C}{κp:Value→T P G ρ→St→J0→List Nat→C}(h:rg P G id ops (List.range' 0 ops.size) g st [] sy κ κp=g.expect F)(hr:g.run=some r)(hsy:C6 sy st) :
  (∃g' s p sy',κ g' s p sy'=g'.expect F∧g'.run=some r∧C6 sy' s∧p.length=ops.size∧s=K0 p st ops.size∧∀i,i < ops.size→A3 P G ops i (K0 p st i) (p.rs i) (p.ws i))∨
  (∃v g' s' p' sy' p n,κp v g' s' p' sy'=g'.expect F∧g'.run=some r∧C6 sy' s'∧n < ops.size∧(∀i,i < n→A3 P G ops i (K0 p st i) (p.rs i) (p.ws i))∧StepP P G ops n (K0 p st n) (.panic (thrown v)) s'∧s'=K0 p' st p'.length):=by
 rcases rg_sound (st0:=st) ops.size g st [] sy h hr ⟨rfl,fun j hj=>by simp at hj⟩ hsy with⟨g',s,p,sy',x1,x2,x3,x4,x5⟩|⟨v,g',s',p',sy',p,s,x1,x2,x3,x4,x5,x6,x7⟩
 ·simp only[List.length_nil,ξv] at x5
  refine .inl ⟨g',s,p,sy',x1,x2,x4,x5,?_,fun i hi=>?_⟩
  ·rw[←x5];exact x3.1
  ·exact x3.2 i (by omega)
 ·simp only[List.length_nil,ξv] at x5
  exact .inr ⟨v,g',s',p',sy',p,p.length,x1,x2,x6,x5,x3.2,by rw[←x3.1];exact x4,x7⟩
theorem H3.planTo{Q:Exit→St→Prop}{p:J0}{st:St}{m t:Nat}(h:∀i,i < m→A3 P G ops i (K0 p st i) (p.rs i) (p.ws i))(hq:H3 P G ops (List.range' m t) (K0 p st m) Q) :
  ∀n k,k+n=m→H3 P G ops (List.range' k (n+t)) (K0 p st k) Q
 | 0,k,hk=>by
  have:k=m:=by omega
  subst this;rw[ξv];exact hq
 | n+1,k,hk=>by
  rw[show n+1+t=(n+t)+1 by omega,List.range'_succ]
  exact H3.cons (h k (by omega) _ rfl (fun l _=>F2.refl _ l)) (H3.planTo h hq n (k+1) (by omega))
theorem TV.planP{rid:Nat}{st s':St}{p:J0}{n:Nat}{ex:Exit}{Q:Exit→St→Prop}(hn:n < ops.size)(hst:∀i,i < n→A3 P G ops i (K0 p st i) (p.rs i) (p.ws i))(hp:StepP P G ops n (K0 p st n) ex s')(hq:Q ex s'):TV P G (.region rid ops false) st Q:=by
 refine TV.region ?_
 have:=H3.planTo (Q:=Q) (t:=ops.size - n) hst (by
  rw[show ops.size - n=(ops.size - n - 1)+1 by omega,List.range'_succ]
  exact H3.stop hp hq) n 0 (by omega)
 rw[List.range_eq_range']
 rw[show n+(ops.size - n)=ops.size by omega] at this
 exact this
theorem TV.plan{draw:Bool}{rid:Nat}{st s:St}{p:J0}{Q:Exit→St→Prop}(hm:P.follows .mixedOrders=true)(hd:(!draw || drawOk ops p)=true)(hs:s=K0 p st ops.size)
  (hst:∀i,i < ops.size→A3 P G ops i (K0 p st i) (p.rs i) (p.ws i)) (hq:Q .normal s):TV P G (.region rid ops draw) st Q:=by
 cases draw with
 | false=>
  refine TV.region ?_
  have:=H3.plan (Q:=Q) hst (by rw[←hs];exact hq) ops.size 0 (by omega)
  rw[List.range_eq_range'];exact this
 | true=>
  simp only[Bool.not_true,Bool.false_or,drawOk,ζA] at hd
  refine TV.draw hm hd.1 hd.2 (fun i hi=>?_) ?_
  ·rw[C1,show min i ops.size=i by omega];exact hst i hi
  ·rw[planSt_all,←hs];exact hq
end
mutual
theorem O7{u u':Nat→Bool}(h:∀b,u b=true→u' b=true):∀(c:V),okV u c=true→okV u' c=true
 | .int _ _,_=>rfl
 | .bool _,_=>rfl
 | .str _,_=>rfl
 | .nilp,_=>rfl
 | .nilf,_=>rfl
 | .yld _,_=>rfl
 | .nilsl,_=>rfl
 | .ifc _,_=>rfl
 | .sl _ _ _,_=>rfl
 | .snap _,_=>rfl
 | .undef,_=>rfl
 | .ref b _ _,hc=>by simp only[okV] at hc ⊢;exact h b hc
 | .ptr b _ _,hc=>by simp only[okV] at hc ⊢;exact h b hc
 | .mp b,hc=>by simp only[okV] at hc ⊢;exact h b hc
 | .fn _ a c,hc=>by
  simp only[okV,ζA] at hc ⊢
  exact⟨okL_mono h a hc.1,okL_mono h c hc.2⟩
 | .agg l,hc=>by simp only[okV] at hc ⊢;exact okL_mono h l hc
 | .tup l,hc=>by simp only[okV] at hc ⊢;exact okL_mono h l hc
theorem okL_mono{u u':Nat→Bool}(h:∀b,u b=true→u' b=true):∀(l:List V),okL u l=true→okL u' l=true
 | [],_=>rfl
 | c :: l,hc=>by
  simp only[okL,ζA] at hc ⊢
  exact⟨O7 h c hc.1,okL_mono h l hc.2⟩
end
structure D.Ok(d:D):Prop where
 tmp:∀i,okV (okU d.us) (d.st.t i)=true
 blk:∀{b k},d.st.b b=some k→okU d.us b=true∧∀r,r∈k.rows→∀c,c∈r→okV (okU d.us) c=true
 sy:C6 d.sy d.st
theorem D.Ok.of_forget{s:St}{d:D}(f:G3 s d.st)(hsy:C6 d.sy d.st):d.Ok where
 tmp:=fun i=>by
  rcases f.t i with e|⟨e,h⟩
  ·rw[e];rfl
  ·rw[e];exact h
 blk:=fun {b k} hk=>by
  rcases f.b b with e|⟨e,h⟩
  ·rw[e] at hk;simp at hk
  ·rw[e] at hk;exact h k hk
 sy:=hsy
theorem D8{α:Type}{l:List (Nat×α)}{i:Nat}{p:Nat×α}(h:l.find? (fun x=>x.1==i)=some p):p∈l∧p.1=i:=
 ⟨ξh h,by simpa using List.find?_some h⟩
theorem find_none{α:Type}{l:List (Nat×α)}{i:Nat}(h:l.find? (fun x=>x.1==i)=none):∀p,p∈l→p.1≠i:=fun p hp e=>by
 have:=List.find?_eq_none.1 h p hp
 simp[e] at this
theorem E3{α:Type}{q:Nat→Bool}{i:Nat}(hq:q i=true):∀l:List (Nat×α),(l.filter fun x=>q x.1).find? (fun x=>x.1==i)=l.find? (fun x=>x.1==i)
 | []=>rfl
 | p :: l=>by
  have ih:=E3 hq l
  by_cases hp:p.1=i
  ·have:q p.1=true:=by rw[hp];exact hq
   simp only[List.filter_cons,this,if_true]
   simp[hp]
  ·by_cases hqp:q p.1=true
   ·simp only[List.filter_cons,hqp,if_true]
    rw[ξg (by simpa using hp),ξg (by simpa using hp),ih]
   ·simp only[List.filter_cons,hqp,if_false,Bool.false_eq_true]
    rw[ξg (by simpa using hp),ih]
theorem E4{α:Type}{q:Nat→Bool}{i:Nat}(hq:q i=false)(l:List (Nat×α)):(l.filter fun x=>q x.1).find? (fun x=>x.1==i)=none:=by
 refine List.find?_eq_none.2 fun p hp e=>?_
 have:=(List.mem_filter.1 hp).2
 simp only[beq_iff_eq] at e
 rw[e,hq] at this
 simp at this
theorem stOf_t{n:Nat}{ts:List (Nat×V)}{bs:List (Nat×Blk)}{us:List Nat}(i:Nat):(G0 n ts bs us).t i=(match ts.find? (fun p=>p.1==i) with|some p=>p.2|none=>.undef):=rfl
theorem stOf_b{n:Nat}{ts:List (Nat×V)}{bs:List (Nat×Blk)}{us:List Nat}(i:Nat):(G0 n ts bs us).b i=(match bs.find? (fun p=>p.1==i) with|some p=>some p.2|none=>none):=rfl
theorem okU_top{us:List Nat}{b:Nat}(h:1000000≤b):okU us b=true:=by simp[okU,uTop,h]
theorem D.st_u(d:D):d.st.u=okU d.us:=rfl
theorem D.Ok.of_lists{d:D}(ht:∀p,p∈d.ts→okV (okU d.us) p.2=true)(hb:∀p,p∈d.bs→okU d.us p.1=true∧∀r,r∈p.2.rows→∀c,c∈r→okV (okU d.us) c=true)(hsy:C6 d.sy d.st):d.Ok where
 tmp:=fun i=>by
  unfold D.st
  rw[stOf_t]
  split
  ·rename_i p hp;exact ht p (D8 hp).1
  ·rfl
 blk:=fun {b k} hk=>by
  unfold D.st at hk
  rw[stOf_b] at hk
  split at hk
  ·rename_i p hp
   simp only[ζa] at hk
   subst hk
   obtain⟨h1,h2⟩:=D8 hp
   have:=hb p h1
   rw[h2] at this;exact this
  ·simp at hk
 sy:=hsy
theorem dedup_mem:∀(l:List Nat) (x:Nat),x∈dedup l↔x∈l
 | [],x=>by simp[dedup]
 | y :: l,x=>by
  simp only[dedup]
  split
  ·rename_i hc
   rw[dedup_mem l x]
   simp only[ζv]
   constructor
   ·exact .inr
   ·rintro(rfl|h)
    ·simpa using hc
    ·exact h
  ·simp only[ζv,dedup_mem l x]
theorem along_t_other{p:J0}{st:St}{t:Nat}(h:¬t∈p.wts):∀n,(K0 p st n).t t=st.t t
 | 0=>rfl
 | n+1=>by
  simp only[K0]
  rw[app_t_other,along_t_other h n]
  intro hm
  by_cases hn:n < p.length
  ·refine h (ξb.2 ⟨p[n],List.getElem_mem hn,?_⟩)
   have:p.ws n=p[n].2:=by unfold J0.ws;rw[ζV,ζd hn];rfl
   rwa [this] at hm
  ·have:p.ws n=[]:=by unfold J0.ws;rw[ζV,ξn (by omega)];rfl
   rw[this] at hm;simp[wrTs] at hm
theorem along_b_other{p:J0}{st:St}{b:Nat}(h:¬b∈p.wbs):∀n,(K0 p st n).b b=st.b b
 | 0=>rfl
 | n+1=>by
  simp only[K0]
  rw[app_b_other,along_b_other h n]
  intro hm
  by_cases hn:n < p.length
  ·refine h (ξb.2 ⟨p[n],List.getElem_mem hn,?_⟩)
   have:p.ws n=p[n].2:=by unfold J0.ws;rw[ζV,ζd hn];rfl
   rwa [this] at hm
  ·have:p.ws n=[]:=by unfold J0.ws;rw[ζV,ξn (by omega)];rfl
   rw[this] at hm;simp[wrBs] at hm
theorem along_n{p:J0}{st:St}:∀n,(K0 p st n).n=st.n
 | 0=>rfl
 | n+1=>by simp only[K0,app_n,along_n n]
theorem regEnd_spec{kp:List Nat}{d:D}{s:St}{p:J0}{sy:List Nat}{next:D→C}{X:C}{m:Nat}(h:regEnd kp d s p sy next=X)(hX:∀j,C.stuck j≠X)(hd:d.Ok)(hs:s=K0 p d.st m)(hsy:C6 sy s) :
  ∃d':D,next d'=X∧d'.Ok∧G3 s d'.st∧d'.n=d.n:=by
 unfold regEnd at h
 simp only[nrmT_eq,nrmB_eq] at h
 split at h
 rotate_left
 ·exact absurd h (hX _)
 rename_i hc
 simp only[ζA,ζE] at hc
 obtain⟨hnt,hnb⟩:=hc
 refine⟨_,h,?_⟩
 have mu:∀b,okU d.us b=true→okU (dedup (p.wbs++d.us)) b=true:=fun b hb=>by
  simp only[okU,ζX,ζD,ζF] at hb ⊢
  rcases hb with hb|hb
  ·exact .inl ((dedup_mem _ _).2 (List.mem_append_right _ hb))
  ·exact .inr hb
 have nbm:∀x,x∈newBs p.wbs s→x.1∈p.wbs∧s.b x.1=some x.2:=fun x hx=>by
  unfold newBs at hx
  obtain⟨b,h1,h2⟩:=List.mem_filterMap.1 hx
  split at h2
  ·rename_i k hk
   simp only[ζa] at h2
   subst h2
   exact⟨(dedup_mem _ _).1 h1,hk⟩
  ·simp at h2
 have nbOk:∀x,x∈newBs p.wbs s→okU (dedup (p.wbs++d.us)) x.1=true∧∀r,r∈x.2.rows→∀c,c∈r→okV (okU (dedup (p.wbs++d.us))) c=true:=fun x hx=>by
  obtain⟨h1,h2⟩:=nbm x hx
  refine⟨by simp only[okU,ζX,ζD,ζF];exact .inl ((dedup_mem _ _).2 (ξd _ h1)),fun r hr c hc=>?_⟩
  have:=hnb x hx
  simp only[blkOkB,ζX,ζD,ζF,ζE] at this
  rcases this with h3|h3
  ·exact G7 (hsy x.1 h3 _ h2 r hr c hc) _
  ·exact h3 r hr c hc
 have F:G3 s (G0 d.n (newTs kp p.wts s++d.ts.filter fun x=>!p.wts.contains x.1) (newBs p.wbs s++d.bs.filter fun x=>!p.wbs.contains x.1) (dedup (p.wbs++d.us))):=by
  refine⟨?_,fun i=>?_,fun b=>?_,fun b hb=>okU_top (uPin_le hb)⟩
  ·rw[hs,along_n];rfl
  ·rw[stOf_t,List.find?_append]
   cases hf:(newTs kp p.wts s).find? (fun p=>p.1==i) with
   | some x=>
    obtain⟨h1,h2⟩:=D8 hf
    have hx:=hnt x h1
    unfold newTs at h1
    obtain⟨j,_,rfl⟩:=ζt.1 h1
    simp only at h2;subst h2
    exact .inr ⟨rfl,hx⟩
   | none=>
    simp only[Option.none_or]
    cases hw:p.wts.contains i with
    | true=>rw[E4 (q:=fun j=>!p.wts.contains j) (by simpa using hw)];exact .inl rfl
    | false=>
     rw[E3 (q:=fun j=>!p.wts.contains j) (by simp only[hw,Bool.not_false])]
     have e:s.t i=d.st.t i:=by rw[hs];exact along_t_other (by simpa using hw) m
     refine .inr ⟨by rw[e];rfl,?_⟩
     rw[e]
     exact O7 mu _ (hd.tmp i)
  ·rw[stOf_b,List.find?_append]
   cases hf:(newBs p.wbs s).find? (fun p=>p.1==b) with
   | some x=>
    obtain⟨h1,h2⟩:=D8 hf
    obtain⟨_,h4⟩:=nbm x h1
    have h5:=nbOk x h1
    rw[h2] at h4 h5
    refine .inr ⟨by simp only[Option.some_or];exact h4.symm,fun k hk=>?_⟩
    rw[h4] at hk
    simp only[ζa] at hk
    subst hk;exact h5
   | none=>
    simp only[Option.none_or]
    cases hw:p.wbs.contains b with
    | true=>rw[E4 (q:=fun j=>!p.wbs.contains j) (by simpa using hw)];exact .inl rfl
    | false=>
     rw[E3 (q:=fun j=>!p.wbs.contains j) (by simp only[hw,Bool.not_false])]
     have e:s.b b=d.st.b b:=by rw[hs];exact along_b_other (by simpa using hw) m
     refine .inr ⟨by rw[e];rfl,fun k hk=>?_⟩
     rw[e] at hk
     obtain⟨h1,h2⟩:=hd.blk hk
     exact⟨mu b h1,fun r hr c hc=>O7 mu c (h2 r hr c hc)⟩
 refine⟨D.Ok.of_forget F fun b hb k hk=>?_,F,rfl⟩
 rcases F.b b with e|⟨e,_⟩
 ·have:(none:Option Blk)=some k:=e.symm.trans hk
  simp at this
 ·exact hsy b hb k (e.symm.trans hk)
end Go.EV
