/- Guided execution: the executor, which goes through a function's body by its guide and says what is to be checked. Definitions; no conditions. Guided ..; no conditions. -/
import Derived.Test.YtjpahkpfkohfkaaGreatDoorW3
import Derived.KernelRfl
set_option linter.unusedVariables false
set_option linter.unusedSimpArgs false
namespace Go.EV
open Go
structure D where
 n:Nat
 ts:List (Nat×V)
 bs:List (Nat×Blk)
 us:List Nat
 sy:List Nat
def D.st(d:D):St:=X0 d.n d.ts d.bs d.us
inductive Kf where
 | seq (y:Code)
 | block (id:Nat)
 | scope
 | lp (c:Code)
mutual
def nrm:Nat->V->(V->C)->C
 | 0,v,k=>k v
 | n+1,v,k=>match v with
  | .int a b=>k (.int a b)
  | .bool b=>k (.bool b)
  | .str s=>k (.str s)
  | .nilp=>k .nilp
  | .nilf=>k .nilf
  | .yld l=>k (.yld l)
  | .nilsl=>k .nilsl
  | .ifc x=>k (.ifc x)
  | .sl o z r=>k (.sl o z r)
  | .snap l=>nrmL n l λl=>k (.snap l)
  | .ref b o l=>k (.ref b o l)
  | .ptr b i o=>k (.ptr b i o)
  | .fn f a c=>nrmL n a λa=>nrmL n c λc=>k (.fn f a c)
  | .agg l=>nrmL n l λl=>k (.agg l)
  | .tup l=>nrmL n l λl=>k (.tup l)
  | .undef=>k .undef
  | .mp b=>k (.mp b)
def nrmL:Nat->List V->(List V->C)->C
 | 0,l,k=>k l
 | n+1,l,k=>match l with
  | []=>k []
  | v :: l=>nrm n v λv=>nrmL n l λl=>k (v :: l)
end
def nrmR:List (List V)->(List (List V)->C)->C
 | [],k=>k []
 | r :: rs,k=>nrmL 1000 r λr=>nrmR rs λrs=>k (r :: rs)
def nrmT:List (Nat×V)->(List (Nat×V)->C)->C
 | [],k=>k []
 | (i,v) :: l,k=>nrm 1000 v λv=>nrmT l λl=>k ((i,v) :: l)
def nrmB(sy:List Nat):List (Nat×Blk)->(List (Nat×Blk)->C)->C
 | [],k=>k []
 | (i,b) :: l,k=>match sy.contains i with
  | true=>match b with|⟨z,x,r⟩=>nrmB sy l λl=>k ((i,⟨z,x,r⟩) :: l)
  | false=>match b with|⟨z,x,r⟩=>nrmR r λr=>nrmB sy l λl=>k ((i,⟨z,x,r⟩) :: l)
def wrTs(ws:List Wr):List Nat:=ws.filterMap fun|.t i _=>some i|_=>none
def wrBs(ws:List Wr):List Nat:=ws.filterMap fun|.b i _=>some i|_=>none
def J6.wts(p:J6):List Nat:=p.flatMap λx=>wrTs x.2
def J6.wbs(p:J6):List Nat:=p.flatMap λx=>wrBs x.2
def binC(op:BinOp)(k:IntKind)(a b:Int):Option (Bool×V):=
 match op with
 | .quo=>some (!(b==0),.int k (k.wrap (a.tdiv b)))
 | .rem=>some (!(b==0),.int k (a.tmod b))
 | .shl=>some (decide (0<=b),.int k (k.wrap (a * 2 ^ (min b.toNat k.bits))))
 | .shr=>some (decide (0<=b),.int k (a.fdiv (2 ^ (min b.toNat k.bits))))
 | _=>none
def loC(lo:Option V)(h:Nat):Option (Bool×Nat):=
 match lo with
 | none=>some (true,0)
 | some (.int _ l)=>some (decide (0<=l)&&decide (l<=h),l.toNat)
 | _=>none
def hiC(n:Nat)(hi mx:Option V):Option (Bool×Nat):=
 match hi,mx with
 | none,none=>some (true,n)
 | some (.int _ h),none=>some (decide (0<=h)&&decide (h<=n),h.toNat)
 | some (.int _ h),some (.int _ m)=>some (decide (0<=h)&&(decide (h<=m)&&decide (m<=n)),h.toNat)
 | _,_=>none
def cutC(n:Nat)(lo hi mx:Option V):Option (Bool×Nat×Nat):=
 match hiC n hi mx with
 | some (c1,h)=>match loC lo h with
  | some (c2,l)=>some (match hi,mx,lo with|none,none,_=>c2|_,_,none=>c1|_,_,_=>c1&&c2,l,h)
  | none=>none
 | none=>none
def sliceC(P:Program)(look:ze)(t:TypeId)(c:V)(lo hi mx:Option V):Option (Bool×V):=
 match P.underlying t with
 | some .string=>match c,mx with
  | .str s,none=>(cutC s.size lo hi none).map λx=>(x.1,.str (s.extract x.2.1 x.2.2))
  | _,_=>none
 | some (.slice e)=>match P.info? e with
  | none=>none
  | some ei=>match c with
   | .sl _ size rows=>if size=ei.size then (cutC rows.length lo hi mx).map λx=>(x.1,.sl false size ((rows.take x.2.2).drop x.2.1)) else none
   | .ref b off len=>match look b with
    | some k=>if k.size=ei.size/\mx.isNone=true then (cutC len lo hi none).map λx=>(x.1,.ref b (match off with|0=>x.2.1|o+1=>o+1+x.2.1) (x.2.2 - x.2.1)) else none
    | none=>none
   | _=>none
 | _=>none
def readC(P:Program)(e:Operand->Option V)(look:ze)(op:Op):Option (Bool×V):=
 match op with
 | .binOp op _ x y _=>match e x,e y with
  | some (.int k a),some (.int k' b)=>match op with
   | .shl|.shr=>binC op k a b
   | _=>if k=k' then binC op k a b else none
  | some (.str a),some (.str b)=>match op with
   | .add=>some (decide (a.size+b.size<=9223372036854775807),.str (a++b))
   | _=>none
  | _,_=>none
 | .index t x i=>match P.underlying t,e x,e i with
  | some .string,some (.str s),some (.int _ i)=>some (decide (0<=i/\i < s.size),.int .u8 (s.data.getD i.toNat 0).toNat)
  | _,_,_=>none
 | .indexAddr t x i=>match P.underlying t,e x,e i with
  | some (.slice el),some (.ref b off len),some (.int _ n)=>match P.info? el with
   | some ei=>match look b with
    | some k=>if k.size=ei.size then some (decide (0<=n)&&decide (n < len),.ptr b (off+n.toNat) 0) else none
    | none=>none
   | none=>none
  | _,_,_=>none
 | .slice t x lo hi mx=>match e x,evO e lo,evO e hi,evO e mx with
  | some c,some l,some h,some m=>sliceC P look t c l h m
  | _,_,_,_=>none
 | _=>none
def chkOp(P:Program)(G:zd)(ops:Array Oper)(i:Nat)(s:St):Option (Bool×List Wr):=
 match opAt ops i s with
 | some o=>if H7 s.n o.dst=true then (readC P (s.evC G o) (s.lookC o []) o.op).map λx=>(x.1,dstW o.dst x.2) else none
 | none=>none
def rowOp(P:Program)(G:zd)(ops:Array Oper)(i:Nat)(s:St):Option (List (List V)×Nat×Bool×(List V->Option (List Wr))):=
 match opAt ops i s with
 | some o=>match o.op,o.dst with
  | .indexAddr t x j,some d=>if d < s.n then match s.evC G o x,s.evC G o j with
    | some (.sl _ size rows),some (.int _ n)=>if sliceSz P t=some size then some (rows,n.toNat,decide (0<=n),λr=>some [.t d (.snap r)]) else none
    | _,_=>none
   else none
  | .load t x,some d=>if d < s.n then match s.evC G o x with
    | some (.ptr b r off)=>match s.lookC o [] b with
     | some k=>some (k.rows,r,true,λrow=>(F2 P t (row.drop off)).map λc=>[.t d c])
     | none=>none
    | _=>none
   else none
  | .store t x y,none=>match s.evC G o x,s.evC G o y with
   | some (.ptr b r off),some c=>match s.lookC o [] b with
    | some k=>if k.excl=true then some (k.rows,r,true,λrow=>(storeRowV P t k.size row off c).map λr'=>[.b b (some ⟨k.size,true,k.rows.set r (T7 (A3 8) row r')⟩)]) else none
    | none=>none
   | _,_=>none
  | _,_=>none
 | none=>none
structure AppD where
 d:Nat
 b:Option Nat
 rows:List (List V)
 len:Nat
 excl:Bool
 sb:Option Nat
 srows:List (List V)
 size:Nat
 bytes:Nat
 fl:Bool
def appDst(look:ze)(size:Nat)(c:V):Option (Option Nat×List (List V)×Nat×Bool):=
 match c with
 | .nilsl=>some (none,[],0,true)
 | .ref b 0 len=>match look b with
  | some k=>if k.size=size then some (some b,k.rows,len,k.excl) else none
  | none=>none
 | _=>none
def appSrc(look:ze)(size:Nat)(dst:Option Nat)(c:V):Option (Option Nat×List (List V)×Bool):=
 match c with
 | .nilsl=>some (none,[],false)
 | .sl _ z rows=>if z=size then some (none,rows,true) else none
 | .ref b 0 len=>match look b with
  | some k=>if k.size=size/\len=k.rows.length/\¬dst=some b then some (some b,k.rows,false) else none
  | none=>none
 | _=>none
def appOp(P:Program)(G:zd)(ops:Array Oper)(ex:List Nat)(i:Nat)(s:St):Option AppD:=
  match opAt ops i s with
  | some o=>match o.op,o.dst with
    | .call { callee:=.builtin .append,args:=as,argTypes:=ts },some d=>if d < s.n/\s.u d=false then match as.toList,ts.toList with
        | [x,y],[t,t2]=>match s.evC G o x,s.evC G o y,P.underlying t,P.underlying t2 with
          | some cx,some cy,some (.slice e),some (.slice _)=>match P.info? e with
            | some ei=>if 0 < ei.bytes/\(zeroV P e).map List.length=some ei.size then match appDst (s.lookC o ex) ei.size cx with
                | some (b,rows,len,excl)=>match appSrc (s.lookC o ex) ei.size b cy with
                  | some (sb,srows,fl)=>some ⟨d,b,rows,len,excl,sb,srows,ei.size,ei.bytes,fl⟩
                  | none=>none
                | none=>none
              else none
            | none=>none
          | _,_,_,_=>none
        | _,_=>none
      else none
    | _,_=>none
  | none=>none
def takeOp(P:Program)(G:zd)(ops:Array Oper)(col i:Nat)(s:St):Option (List (List V)×Nat×(List V->Option (List Wr))):=
  match opAt ops i s with
  | some o=>match o.op,o.dst with
    | .load t x,some d=>if d < s.n/\s.u d=false then match s.evC G o x with
        | some (.ptr b r off)=>match s.lookC o [] b with
          | some k=>match isAggT P t with
            | false=>some (k.rows,r,λrow=>match row[off]? with
              | some (.sl true z rs)=>if z < J8 then some [.b b (some ⟨k.size,k.excl,k.rows.set r (row.set off (.sl false z rs))⟩),.b d (some ⟨z,false,rs.map (·.map V.strip)⟩),.t d (.ref d 0 rs.length)] else none
              | _=>none)
            | true=>match P.info? t with
              | some ti=>some (k.rows,r,λrow=>match row[col]? with
                | some (.sl true z rs)=>if off<=col/\off+ti.size<=row.length/\(P.underlying t).isSome=true/\z < J8 then
                    some [.b b (some ⟨k.size,k.excl,k.rows.set r (row.set col (.sl false z rs))⟩),.b d (some ⟨z,false,rs.map (·.map V.strip)⟩),.t d (.agg (((row.set col (.ref d 0 rs.length)).drop off).take ti.size))]
                  else none
                | _=>none)
              | none=>none
          | none=>none
        | _=>none
      else none
    | _,_=>none
  | none=>none
def nstOp(P:Program)(G:zd)(ops:Array Oper)(hole:List V)(fin:List (List V))(col i:Nat)(s:St):Option (Nat×Blk×Nat×Nat×Blk×Nat×Nat×List V):=
  match opAt ops i s with
  | some o=>match o.op,o.dst with
    | .store t x y,none=>match s.evC G o x,s.evC G o y with
      | some (.ptr b r off),some c=>match s.lookC o [] b with
        | some k=>if k.excl=true then match storeRowV P t k.size hole off c with
            | some r'=>match r'[col]? with
              | some (.ref d2 off2 len)=>match s.lookC o [] d2 with
                | some kd=>if b=d2\/J8<=k.size then none else some (b,k,r,d2,kd,off2,len,r'.set col (.sl true kd.size fin))
                | none=>none
              | _=>none
            | none=>none
          else none
        | none=>none
      | _,_=>none
    | _,_=>none
  | none=>none
def renB(sy:List Nat)(b:Nat)(f:Nat->Nat)(k:Blk):Blk:=match sy.contains b with
 | true=>k
 | false=>k.ren f
def anyL(L:List (Nat×Nat))(b:Nat):Bool:=L.any λx=>x.2==b
def anyC(L:List (Nat×Nat))(b:Nat):Bool:=L.any λx=>x.1==b
def callOp(P:Program)(G:zd)(ops:Array Oper)(Li Lo:List (Nat×Nat))(sy:List Nat)(i:Nat)(s:St):Option (Option Nat×FuncId×List V×List (Nat×Blk)):=
 match callG P G ops ((Li++Lo).map (·.2)) Li Lo [] i s with
 | some (dst,f,as,bl,_)=>
  if (idsOk Li Lo []&&bl.all λx=>sy.contains (Y9 (Li++Lo) x.1) || (W1 x.2.rows.flatten).all (anyL Li))=true then
   some (dst,f,as,bl.map λx=>(x.1,renB sy (Y9 (Li++Lo) x.1) (Y3 (Li++Lo)) x.2))
  else none
 | none=>none
def outsOk(L:List (Nat×Nat))(dt:List Nat)(O:List (Nat×Blk))(res:V):Bool:=
 (O.all λx=>anyC L x.1&&(dt.contains x.1 || (W1 x.2.rows.flatten).all (anyC L)))&&(U8 res).all (anyC L)
def G5(L:List (Nat×Nat))(dt:List Nat)(O:List (Nat×Blk))(dst:Option Nat)(res:V):List Wr:=
 (L.map λx=>Wr.b x.2 ((ofL O x.1).map (renB dt x.1 (Y9 L))))++dstW dst (W5 (Y9 L) res)
def syOuts(L:List (Nat×Nat))(dt:List Nat):List Nat:=(L.filter λx=>dt.contains x.1).map (·.2)
def viewG(look:ze)(vs:List VwW):Nat->V->Option V
 | 0,_=>none
 | n+1,c=>match c with
  | .ref b off len=>match vs.find? (λv=>v.b==b) with
   | some v=>match off with
    | 0=>match n with
     | 0=>none
     | _+1=>(look b).map λk=>.sl false k.size (v.l.map v.ty.d)
    | _+1=>none
   | none=>D0 look (n+1) (.ref b off len)
  | .ptr b i off=>match look b with
   | some k=>match k.rows[i]? with
    | some r=>(M7 (λc=>A8 (viewG look vs n c)) (r.drop off)).map .snap
    | none=>none
   | none=>none
  | .fn f a c=>match M7 (viewG look vs n) a,M7 (viewG look vs n) c with
   | some a',some c'=>some (.fn f a' c')
   | _,_=>none
  | .agg l=>(M7 (viewG look vs n) l).map .agg
  | .tup l=>(M7 (viewG look vs n) l).map .tup
  | c=>D0 look (n+1) c
def R5(look:ze)(vs:List VwW):Nat->V->List (Nat×List (List V)×Nat)
 | 0,_=>[]
 | n+1,c=>match c with
  | .ref b _ len=>match vs.find? (λv=>v.b==b) with
   | some _=>match look b with
    | some k=>[(b,k.rows,len)]
    | none=>[]
   | none=>[]
  | .ptr b i off=>match look b with
   | some k=>match k.rows[i]? with
    | some r=>(r.drop off).flatMap (R5 look vs n)
    | none=>[]
   | none=>[]
  | .fn _ a c=>a.flatMap (R5 look vs n)++c.flatMap (R5 look vs n)
  | .agg l=>l.flatMap (R5 look vs n)
  | .tup l=>l.flatMap (R5 look vs n)
  | _=>[]
def viewOp(P:Program)(G:zd)(ops:Array Oper)(ex:List Nat)(vs:List VwW)(i:Nat)(s:St):Option (Option Nat×FuncId×List V×List (Nat×List (List V)×Nat)):=
 match callAt P G ops i s with
 | some (o,f,cs)=>match vsOk vs with
  | true=>(M7 (viewG (s.lookC o ex) vs 8) cs).map λds=>(o.dst,f,ds,cs.flatMap (R5 (s.lookC o ex) vs 8))
  | false=>none
 | none=>none
def reach(look:ze):Nat->List Nat->List Nat
 | 0,bs=>bs
 | n+1,bs=>bs++reach look n (bs.flatMap λb=>match look b with|some k=>W1 (k.rows.headD [])|none=>[])
def coeR:List (List V)->List (List V)->List (List V)
 | e :: es,c :: cs=>T7 (A3 8) e c :: coeR es cs
 | _,cs=>cs
def coeSrc(sy:List Nat)(sb:Option Nat)(e rows:List (List V)):List (List V):=match sb with
 | some b=>match sy.contains b with
  | true=>rows
  | false=>coeR e rows
 | none=>rows
def syStep(sy:List Nat)(ws:List Wr)(told:List Nat):List Nat:=(told.filter λb=>(wrBs ws).contains b)++sy.filter λb=>!(wrBs ws).contains b
section
variable (P:Program) (G:zd)
def reK(a:Nat){ρ:Type}(k:T P G ρ)(R:List Loc)(ws:List Wr)(s:St)(p:J6)(sy:List Nat)(next:T P G ρ->St->J6->List Nat->C):C:=
 match k with
 | .re a' w k'=>match a'==a with
  | true=>.re ws (next k' (s.app w.b) (p++[(R,w.b)]) (syStep sy w.b w.dt))
  | false=>next k (s.app ws) (p++[(R,ws)]) (syStep sy ws [])
 | k=>next k (s.app ws) (p++[(R,ws)]) (syStep sy ws [])
def dflt(ops:Array Oper)(i:Nat){ρ:Type}(g:T P G ρ)(s:St)(p:J6)(sy:List Nat)(next:T P G ρ->St->J6->List Nat->C):C:=
 match stepRW P G ops i s with
 | some (R,ws)=>next g (s.app ws) (p++[(R,ws)]) (syStep sy ws [])
 | none=>.stuck (1000+i)
def dop(id:Nat)(ops:Array Oper)(i:Nat){ρ:Type}(g:T P G ρ)(s:St)(p:J6)(sy:List Nat)(next:T P G ρ->St->J6->List Nat->C):C:=
 match g with
 | .fail=>.fail
 | .chk a c k=>match a==id * 1000+i+1 with
  | true=>match chkOp P G ops i s with
   | some (c',ws)=>.chk c' (reK P G a k (opR ops i s []) ws s p sy next)
   | none=>.stuck 1
  | false=>dflt P G ops i (.chk a c k) s p sy next
 | .re a w k=>match a==id * 1000+i+1 with
  | true=>match stepRW P G ops i s with
   | some (R,ws)=>.re ws (next k (s.app w.b) (p++[(R,w.b)]) (syStep sy w.b w.dt))
   | none=>.stuck 2
  | false=>dflt P G ops i (.re a w k) s p sy next
 | .row a ty l j c k=>match a==id * 1000+i+1 with
  | true=>match rowOp P G ops i s with
   | some (rows,j',c',f)=>.row rows j' c' λx=>match f (ty.c x) with
    | some ws=>reK P G a (k x) (opR ops i s []) ws s p sy next
    | none=>.stuck 4
   | none=>.stuck 3
  | false=>dflt P G ops i (.row a ty l j c k) s p sy next
 | .app a ty l x bytes fl hf k=>match a==id * 1000+i+1 with
  | true=>match appOp P G ops [] i s with
   | some A=>.app A.rows A.len (coeSrc sy A.sb (x.map ty.c) A.srows) A.bytes A.fl (
     let ws:=delW A.b++(delW A.sb++[.b A.d (some ⟨A.size,A.excl,(l++x).map ty.c⟩),.t A.d (.ref A.d 0 (l++x).length)])
     next k (s.app ws) (p++[(opR ops i s [],ws)]) (syStep sy ws [A.d]))
   | none=>.stuck 5
  | false=>dflt P G ops i (.app a ty l x bytes fl hf k) s p sy next
 | .call a sp Li Lo k=>match a==id * 1000+i+1 with
  | true=>match callOp P G ops Li Lo sy i s with
   | some (dst,f,as,ins)=>.call f (T7 (A3 8) sp.args as) ins λr=>match outsOk (Li++Lo) sp.dt (sp.outs r) (sp.res r) with
    | true=>reK P G a (k r) (opR ops i s ((Li++Lo).map (·.2))) (G5 (Li++Lo) sp.dt (sp.outs r) dst (sp.res r)) s p sy λg s p sy=>next g s p (syOuts (Li++Lo) sp.dt++sy)
    | false=>.stuck 7
   | none=>.stuck 6
  | false=>dflt P G ops i (.call a sp Li Lo k) s p sy next
 | .call2 a sp Li Lo k k2=>match a==id * 1000+i+1 with
  | true=>match callOp P G ops Li Lo sy i s with
   | some (dst,f,as,ins)=>.call2 f (T7 (A3 8) sp.args as) ins (λr=>match outsOk (Li++Lo) sp.dt (sp.outs (.inl r)) (sp.res (.inl r)) with
    | true=>reK P G a (k r) (opR ops i s ((Li++Lo).map (·.2))) (G5 (Li++Lo) sp.dt (sp.outs (.inl r)) dst (sp.res (.inl r))) s p sy λg s p sy=>next g s p (syOuts (Li++Lo) sp.dt++sy)
    | false=>.stuck 7) λr=>match outsOk (Li++Lo) sp.dt (sp.outs (.inr r)) (sp.res (.inr r)) with
    | true=>reK P G a (k2 r) (opR ops i s ((Li++Lo).map (·.2))) (G5 (Li++Lo) sp.dt (sp.outs (.inr r)) dst (sp.res (.inr r))) s p sy λg s p sy=>next g s p (syOuts (Li++Lo) sp.dt++sy)
    | false=>.stuck 7
   | none=>.stuck 6
  | false=>dflt P G ops i (.call2 a sp Li Lo k k2) s p sy next
 | .view a sp vs k=>match a==id * 1000+i+1 with
  | true=>match ops[i]? with
   | some o=>
    let ex:=reach (λb=>match sy.contains b with|true=>none|false=>s.b b) 3 (opBs s o)
    match viewOp P G ops ex vs i s with
    | some (dst,f,ds,eqs)=>.view f (T7 (A3 8) sp.args ds) eqs λr=>match L2 (sp.res r)&&(sp.ins.isEmpty&&(sp.outs r).isEmpty) with
     | true=>next (k r) (s.app (dstW dst (sp.res r))) (p++[(opR ops i s ex,dstW dst (sp.res r))]) sy
     | false=>.stuck 10
    | none=>.stuck 9
   | none=>.stuck 8
  | false=>dflt P G ops i (.view a sp vs k) s p sy next
 | .opr a R k=>match a==id * 1000+i+1 with
  | true=>match opAt ops i s with
   | some o=>match (match o.dst with|some d=>decide (d < s.n)&&!(s.u d)|none=>true) with
    | true=>.rule o.op o.dst (R.vals.map λp=>s.evC G o p.1) (R.blks.map λp=>s.b p.1) λr=>
      next (k r) (s.app (R.ws r)) (p++[(opR ops i s (R.blks.map (·.1)),R.ws r)]) (syStep sy (R.ws r) R.dt)
    | false=>.stuck 15
   | none=>.stuck 14
  | false=>dflt P G ops i (.opr a R k) s p sy next
 | g=>dflt P G ops i g s p sy next
def guardT(ops:Array Oper)(i:Nat)(s:St):Option (Nat×Bool):=
 match ops[i]? with
 | some o=>match o.guard with
  | some (j,_)=>match (ops[j]?).bind (·.dst) with
   | some d=>match s.t d with
    | .bool b=>some (d,b)
    | _=>none
   | none=>none
  | none=>none
 | none=>none
def idxT(ops:Array Oper)(i:Nat)(s:St):Option (Nat×IntKind×Int):=
 match ops[i]? with
 | some o=>match o.op with
  | .indexAddr _ _ (.tmp t)=>match s.t t with
   | .int k m=>some (t,k,m)
   | _=>none
  | .index _ _ (.tmp t)=>match s.t t with
   | .int k m=>some (t,k,m)
   | _=>none
  | _=>none
 | none=>none
def panOp(P:Program)(G:zd)(ops:Array Oper)(i:Nat)(s:St):Option Value:=
 match opAt ops i s with
 | some o=>match o.op with
  | .panic x=>match s.evC G o x with
   | some (.ifc v)=>match v with
    | .iface t y=>some (.iface t y)
    | _=>none
   | _=>none
  | _=>none
 | none=>none
def rg(id:Nat)(ops:Array Oper):List Nat->{ρ:Type}->T P G ρ->St->J6->List Nat->(T P G ρ->St->J6->List Nat->C)->(Value->T P G ρ->St->J6->List Nat->C)->C
 | [],_,g,s,p,sy,κ,_=>κ g s p sy
 | i :: l,_,g,s,p,sy,κ,κp=>match g with
  | .br a c x y=>match a==id * 1000+i+1 with
   | true=>match guardT ops i s with
    | some (d,b)=>.br b (dop P G id ops i x (s.setT d (.bool true)) p sy λg s p sy=>rg id ops l g s p sy κ κp) (dop P G id ops i y (s.setT d (.bool false)) p sy λg s p sy=>rg id ops l g s p sy κ κp)
    | none=>.stuck 20
   | false=>dop P G id ops i (.br a c x y) s p sy λg s p sy=>rg id ops l g s p sy κ κp
  | .ceq a n vs k=>match a==id * 1000+i+1 with
   | true=>match idxT ops i s with
    | some (t,kd,m)=>vs.foldr (λv r=>.br (m==v) (dop P G id ops i (k v) (s.setT t (.int kd v)) p sy λg s p sy=>rg id ops l g s p sy κ κp) r) .fail
    | none=>.stuck 21
   | false=>dop P G id ops i (.ceq a n vs k) s p sy λg s p sy=>rg id ops l g s p sy κ κp
  | .callp a sp Li Lo k k2=>match a==id * 1000+i+1 with
   | true=>match callOp P G ops Li Lo sy i s with
    | some (dst,f,as,ins)=>.call2 f (T7 (A3 8) sp.args as) ins (λr=>match outsOk (Li++Lo) sp.dt (sp.outs r) (sp.res r) with
     | true=>reK P G a (k r) (opR ops i s ((Li++Lo).map (·.2))) (G5 (Li++Lo) sp.dt (sp.outs r) dst (sp.res r)) s p sy λg s p sy=>rg id ops l g s p (syOuts (Li++Lo) sp.dt++sy) κ κp
     | false=>.stuck 7) λr=>match outsOk (Li++Lo) sp.dt (sp.pouts r) .undef with
     | true=>κp (sp.pan r) (k2 r) (s.app (G5 (Li++Lo) sp.dt (sp.pouts r) none .undef)) (p++[(opR ops i s ((Li++Lo).map (·.2)),G5 (Li++Lo) sp.dt (sp.pouts r) none .undef)]) (syOuts (Li++Lo) sp.dt++syStep sy (G5 (Li++Lo) sp.dt (sp.pouts r) none .undef) [])
     | false=>.stuck 7
    | none=>.stuck 6
   | false=>dop P G id ops i (.callp a sp Li Lo k k2) s p sy λg s p sy=>rg id ops l g s p sy κ κp
  | .pan a k=>match a==id * 1000+i+1 with
   | true=>match panOp P G ops i s with
    | some v=>κp v k s (p++[(opR ops i s [],[])]) sy
    | none=>.stuck 22
   | false=>dop P G id ops i (.pan a k) s p sy λg s p sy=>rg id ops l g s p sy κ κp
  | g=>dop P G id ops i g s p sy λg s p sy=>rg id ops l g s p sy κ κp
end
def okU(us:List Nat)(i:Nat):Bool:=us.contains i || uTop i
def blkOkB(us sy:List Nat)(p:Nat×Blk):Bool:=sy.contains p.1 || p.2.rows.all λr=>r.all (okV (okU us))
def newTs(kp wt:List Nat)(s:St):List (Nat×V):=(kp.filter λi=>wt.contains i).map λi=>(i,s.t i)
def dedup:List Nat->List Nat
 | []=>[]
 | x :: l=>match l.contains x with
  | true=>dedup l
  | false=>x :: dedup l
def newBs(wb:List Nat)(s:St):List (Nat×Blk):=(dedup wb).filterMap λb=>match s.b b with
 | some k=>some (b,k)
 | none=>none
def regEnd(kp:List Nat)(d:D)(s:St)(p:J6)(sy:List Nat)(next:D->C):C:=
 let wt:=p.wts
 let wb:=p.wbs
 let us:=dedup (wb++d.us)
 nrmT (newTs kp wt s) λnt=>nrmB sy (newBs wb s) λnb=>
  match nt.all (λx=>okV (okU us) x.2)&&nb.all (blkOkB us sy) with
  | true=>next ⟨d.n,nt++d.ts.filter (λx=>!wt.contains x.1),nb++d.bs.filter (λx=>!wb.contains x.1),us,sy⟩
  | false=>.stuck 30
def regFin(P:Program)(G:zd)(ops:Array Oper)(draw:Bool)(ts:List Nat)(d:D){ρ:Type}(g:T P G ρ)(s:St)(p:J6):C:=
 match g with
 | .done _=>match (!draw || drawOk ops p)&&((p.wbs.all λb=>!(d.bs.any λx=>x.1==b))&&(p.wts.all λt=>(ops.toList.filterMap (·.dst)).contains t)) with
  | true=>.fins (ts.map s.t)
  | false=>.stuck 31
 | .fail=>.fail
 | _=>.stuck 32
def cndD(ops:Array Oper)(ts:List Nat)(d:D)(vs:List V):D:=
 { d with ts:=ts.zip vs++d.ts.filter λx=>!(ops.toList.filterMap (·.dst)).contains x.1&&!ts.contains x.1 }
def Ext.us(x:Ext):List Nat:=x.bs.map (·.1)
def Ext.D(n:Nat)(x:Ext):D:=⟨n,x.ts,x.bs,x.us,x.dt⟩
def Ext.ok(x:Ext):Bool:=x.ts.all (λp=>okV (okU x.us) p.2)&&x.bs.all (blkOkB x.us x.dt)
def A2:Exit->Bool
 | .normal=>true
 | _=>false
def coeB(dt:List Nat)(id:Nat)(e:Blk)(act:Option Blk):Option Blk:=match dt.contains id with
 | true=>act
 | false=>act.map λk=>⟨k.size,k.excl,coeR e.rows k.rows⟩
def extTs(x:Ext)(st:St):List (Nat×V):=x.ts.map λp=>(p.1,A3 8 p.2 (st.t p.1))
def extBs(x:Ext)(st:St):List (Nat×Option Blk):=x.bs.map λp=>(p.1,coeB x.dt p.1 p.2 (st.b p.1))
def finExt(e:Exit)(x:Ext)(d:D):C:=.fin none (some e) (extTs x d.st) (extBs x d.st)
def fin(P:Program)(G:zd){ρ:Type}(F:Fin' ρ)(g:T P G ρ)(e:Exit)(d:D):C:=
 match g with
 | .done r=>match F with
  | .fn rs res outs=>match e with
   | .normal|.ret=>.fin ((G9 P d.st rs).map (A3 8 (res r))) none [] ((outs r).map λp=>(p.1,d.st.b p.1))
   | _=>.stuck 41
  | .mid E=>finExt e (E r) d
  | .rnd S E=>match r with
   | .inl y=>match A2 e with
    | true=>finExt e (S y) d
    | false=>.stuck 42
   | .inr z=>match A2 e with
    | true=>.stuck 43
    | false=>finExt e (E z) d
  | .reg _ _=>.stuck 44
  | .fnp rs res outs _ pouts=>match r with
   | .inl r=>match e with
    | .normal|.ret=>.fin ((G9 P d.st rs).map (A3 8 (res r))) none [] ((outs r).map λp=>(p.1,d.st.b p.1))
    | _=>.stuck 41
   | .inr z=>.fin none (some e) [] ((pouts z).map λp=>(p.1,d.st.b p.1))
 | _=>.stuck 40
def shD(b z:Nat)(rows:List (List V)):Nat->V->V
 | 0,_=>.undef
 | n+1,c=>match c with
  | .ref b' off len=>match b'==b with
   | true=>match off with
    | 0=>.sl false z rows
    | o+1=>.ref b' (o+1) len
   | false=>.ref b' off len
  | .fn f x y=>.fn f (x.map (shD b z rows n)) (y.map (shD b z rows n))
  | .agg l=>.agg (l.map (shD b z rows n))
  | .tup l=>.tup (l.map (shD b z rows n))
  | c=>c
def shE(b:Nat)(rows:List (List V)):Nat->V->List (Nat×List (List V)×Nat)
 | 0,_=>[]
 | n+1,c=>match c with
  | .ref b' off len=>match b'==b with
   | true=>match off with
    | 0=>[(b,rows,len)]
    | _+1=>[]
   | false=>[]
  | .fn _ x y=>x.flatMap (shE b rows n)++y.flatMap (shE b rows n)
  | .agg l=>l.flatMap (shE b rows n)
  | .tup l=>l.flatMap (shE b rows n)
  | _=>[]
def lnD(b m:Nat):Nat->V->V
 | 0,c=>c
 | n+1,c=>match c with
  | .ref b' off len=>match b'==b with
   | true=>match off with
    | 0=>.ref b' 0 m
    | o+1=>.ref b' (o+1) len
   | false=>.ref b' off len
  | .fn f x y=>.fn f (x.map (lnD b m n)) (y.map (lnD b m n))
  | .agg l=>.agg (l.map (lnD b m n))
  | .tup l=>.tup (l.map (lnD b m n))
  | c=>c
def lnB(sy:List Nat)(b m:Nat)(p:Nat×Blk):Nat×Blk:=match sy.contains p.1 with
 | true=>p
 | false=>(p.1,⟨p.2.size,p.2.excl,p.2.rows.map (·.map (lnD b m 6))⟩)
def lnEB(sy:List Nat)(b:Nat)(p:Nat×Blk):List (Nat×List (List V)×Nat):=match sy.contains p.1 with
 | true=>[]
 | false=>p.2.rows.flatMap λr=>r.flatMap (shE b [] 6)
def ghE(w:GhW)(d:D):List (Nat×List (List V)×Nat):=
 match w with
 | .share v _=>match d.st.b v.b with
  | some k=>(d.ts.flatMap λp=>shE v.b k.rows 6 p.2)++d.bs.flatMap λp=>match p.1==v.b || d.sy.contains p.1 with
   | true=>[]
   | false=>p.2.rows.flatMap λr=>r.flatMap (shE v.b k.rows 6)
  | none=>[]
 | .len b _ _ _=>(d.ts.flatMap λp=>shE b [] 6 p.2)++d.bs.flatMap (lnEB d.sy b)
 | _=>[]
def shareBs(d:D)(v:VwW)(k:Blk):List (Nat×Blk):=(d.bs.filter λp=>!(p.1==v.b)).map λp=>(p.1,match d.sy.contains p.1 with
 | true=>p.2
 | false=>⟨p.2.size,p.2.excl,p.2.rows.map (·.map (shD v.b k.size (v.l.map v.ty.d) 6))⟩)
def setCell(k:Blk)(j:Nat)(c:V):Blk:=⟨k.size,k.excl,match k.rows with|r :: rs=>r.set j c :: rs|[]=>[]⟩
def ghX(w:GhW)(d:D)(next:D->C):C:=
 match w with
 | .virt b t size=>match d.st.t t,okU d.us b || !decide (size < J8) with
  | .nilsl,false=>next { d with ts:=(t,.ref b 0 0) :: d.ts.filter (λx=>!(x.1==t)),bs:=(b,⟨size,true,[]⟩) :: d.bs,us:=b :: d.us }
  | _,_=>.stuck 50
 | .virtC b x j size=>match d.st.b x,okU d.us b || !decide (size < J8),d.sy.contains x with
  | some k,false,false=>match k.rows with
   | r :: _=>match r[j]? with
    | some .nilsl=>next { d with bs:=(b,⟨size,true,[]⟩) :: (x,setCell k j (.ref b 0 0)) :: d.bs.filter (λp=>!(p.1==x)),us:=b :: d.us }
    | _=>.stuck 52
   | []=>.stuck 52
  | _,_,_=>.stuck 53
 | .ren a b=>match okU d.us b,a==b with
  | false,false=>nrmT (d.ts.map λp=>(p.1,W5 (M4 a b) p.2)) λts=>nrmB ((d.sy.filter λx=>!(x==b)).map (M4 a b)) (d.bs.map λp=>(M4 a b p.1,renB d.sy p.1 (M4 a b) p.2)) λbs=>
    next ⟨d.n,ts,bs,b :: d.us,(d.sy.filter λx=>!(x==b)).map (M4 a b)⟩
  | _,_=>.stuck 54
 | .drop l=>
  let us:=d.us.filter λb=>!l.contains b
  match (d.bs.filter λp=>!l.contains p.1).all λp=>okU us p.1&&blkOkB us d.sy p with
  | true=>next ⟨d.n,d.ts.filter (λp=>okV (okU us) (d.st.t p.1)),d.bs.filter (λp=>!l.contains p.1),us,d.sy⟩
  | false=>.stuck 55
 | .len b m _ _=>nrmT (d.ts.map λp=>(p.1,lnD b m 6 p.2)) λts=>nrmB d.sy (d.bs.map (lnB d.sy b m)) λbs=>next ⟨d.n,ts,bs,d.us,d.sy⟩
 | .tell b es=>match d.st.b b,d.sy.contains b with
  | some k,false=>nrmB d.sy ((b,⟨k.size,k.excl,coeR es k.rows⟩) :: d.bs.filter λp=>!(p.1==b)) λbs=>next { d with bs:=bs }
  | _,_=>.stuck 58
 | .share v _=>match d.st.b v.b with
  | some k=>match d.sy.contains v.b || k.rows.all λr=>r.all H2 with
   | true=>nrmT (d.ts.map λp=>(p.1,shD v.b k.size (v.l.map v.ty.d) 6 p.2)) λts=>
     nrmB d.sy (shareBs d v k) λbs=>
     next ⟨d.n,ts,bs,v.b :: d.us,d.sy⟩
   | false=>.stuck 56
  | none=>.stuck 57
def isRange(c:Code):Bool:=match c with
 | .region _ ops _=>ops.toList.any λo=>match o.op with
  | .range _ _=>true
  | _=>false
 | _=>false
abbrev Rec(P:Program)(G:zd):=(ρ:Type)->Fin' ρ->T P G ρ->Code⊕Exit->List Kf->D->C
section
variable {P:Program} {G:zd} (kp:List Nat) (rec:Rec P G) {ρ:Type} (F:Fin' ρ)
def sxE(g:T P G ρ)(e:Exit)(K:List Kf)(d:D):C:=
 match K with
 | []=>fin P G F g e d
 | .seq y :: K=>match A2 e with
  | true=>rec ρ F g (.inl y) K d
  | false=>rec ρ F g (.inr e) K d
 | .block id :: K=>match e with
  | .exit id'=>match id'==id with
   | true=>rec ρ F g (.inr .normal) K d
   | false=>rec ρ F g (.inr (.exit id')) K d
  | e=>rec ρ F g (.inr e) K d
 | .scope :: K=>match e with
  | .goto _=>.stuck 60
  | e=>rec ρ F g (.inr e) K d
 | .lp c :: K=>match A2 e with
  | true=>rec ρ F g (.inl c) (.lp c :: K) d
  | false=>rec ρ F g (.inr e) K d
def restOk(ops:Array Oper)(ip:Nat):Bool:=
 let ms:=masks ops.toList
 (List.range ops.size).all λi=>decide (i<=ip) || (ms.getD i 0).testBit ip
def dropD(d:D)(p:J6):D:=⟨d.n,d.ts.filter λx=>!p.wts.contains x.1,d.bs.filter λx=>!p.wbs.contains x.1,p.wbs++d.us,d.sy⟩
def sxRg(id:Nat)(ops:Array Oper)(draw:Bool)(g:T P G ρ)(K:List Kf)(d:D):C:=
 rg P G id ops (List.range' 0 ops.size) g d.st [] d.sy (λg s p sy=>match !draw || drawOk ops p with
  | true=>regEnd kp d s p sy λd'=>rec ρ F g (.inr .normal) K d'
  | false=>.stuck 63) λv g s p sy=>match draw with
  | false=>regEnd kp d s p sy λd'=>rec ρ F g (.inr (.panic (D5 v))) K d'
  | true=>match drawOk ops p&&restOk ops (p.length - 1) with
   | true=>rec ρ F g (.inr (.panic (D5 v))) K (dropD d p)
   | false=>.stuck 77
def sxR(id:Nat)(ops:Array Oper)(draw:Bool)(g:T P G ρ)(K:List Kf)(d:D):C:=
 match g with
 | .cnd id' ts first E k=>match id'==id with
  | true=>.bind (rg P G id ops (List.range' 0 ops.size) first d.st [] d.sy (λg s p _=>regFin P G ops draw ts d g s p) λ_ _ _ _ _=>.stuck 78) λe=>match (E e).all (okV (okU d.us))&&(E e).length==ts.length with
   | true=>rec ρ F (k e) (.inr .normal) K (cndD ops ts d (E e))
   | false=>.stuck 61
  | false=>sxRg kp rec F id ops draw (.cnd id' ts first E k) K d
 | g=>sxRg kp rec F id ops draw g K d
def sxN(g:T P G ρ)(c:Code)(K:List Kf)(d:D):C:=
 match c with
 | .cond o x y=>match g with
  | .br _ _ a b=>match d.st.ev G o with
   | some (.bool c)=>.br c (rec ρ F a (.inl x) K d) (rec ρ F b (.inl y) K d)
   | _=>.stuck 65
  | .tt k=>match d.st.ev G o with
   | some (.bool c)=>match c with
    | true=>rec ρ F k (.inl x) K d
    | false=>.stuck 66
   | _=>.stuck 66
  | .ff k=>match d.st.ev G o with
   | some (.bool c)=>match c with
    | false=>rec ρ F k (.inl y) K d
    | true=>.stuck 67
   | _=>.stuck 67
  | _=>.stuck 68
 | .block id x=>rec ρ F g (.inl x) (.block id :: K) d
 | .scope x=>rec ρ F g (.inl x) (.scope :: K) d
 | .loop x=>match g with
  | .lp S body x0=>match F with
   | .mid E=>match K with
    | []=>.loop (extTs (S x0) d.st) (extBs (S x0) d.st) λy=>match (S y).ok&&A2 (S y).ex with
     | true=>rec _ (.rnd S E) (body y) (.inl x) [] ((S y).D d.n)
     | false=>.stuck 69
    | _ :: _=>.stuck 73
   | _=>.stuck 74
  | g=>rec ρ F g (.inl x) (.lp x :: K) d
 | .rangeFunc o ps as bd=>match g with
  | .sub S k=>match S.x.ok with
   | true=>.sub (.rangeFunc o ps as bd) d.n (extTs S.x d.st) (extBs S.x d.st) λe=>match (S.E e).ok with
    | true=>rec ρ F (k e) (.inr (S.E e).ex) K ((S.E e).D d.n)
    | false=>.stuck 64
   | false=>.stuck 76
  | _=>.stuck 75
 | _=>.stuck 71
def sxB(g:T P G ρ)(c:Code)(K:List Kf)(d:D):C:=
 match g with
 | .bind 0 first E k=>.bind (rec _ (.mid E) first (.inl c) [] d) λe=>match (E e).ok with
  | true=>rec ρ F (k e) (.inr (E e).ex) K ((E e).D d.n)
  | false=>.stuck 64
 | .bind2 0 first E E2 k k2=>.bind2 (rec _ (.mid (Sum.elim E E2)) first (.inl c) [] d)
  (λe=>match (E e).ok with
   | true=>rec ρ F (k e) (.inr (E e).ex) K ((E e).D d.n)
   | false=>.stuck 64) λe=>match (E2 e).ok with
   | true=>rec ρ F (k2 e) (.inr (E2 e).ex) K ((E2 e).D d.n)
   | false=>.stuck 64
 | .bind2 (j+1) first E E2 k k2=>match c with
  | .block id x=>rec ρ F (.bind2 j first E E2 k k2) (.inl x) (.block id :: K) d
  | .scope x=>rec ρ F (.bind2 j first E E2 k k2) (.inl x) (.scope :: K) d
  | .loop x=>rec ρ F (.bind2 j first E E2 k k2) (.inl x) (.lp x :: K) d
  | _=>.stuck 72
 | .bind (j+1) first E k=>match c with
  | .block id x=>rec ρ F (.bind j first E k) (.inl x) (.block id :: K) d
  | .scope x=>rec ρ F (.bind j first E k) (.inl x) (.scope :: K) d
  | .loop x=>rec ρ F (.bind j first E k) (.inl x) (.lp x :: K) d
  | _=>.stuck 72
 | g=>sxN rec F g c K d
def sxSub(g:T P G ρ)(c:Code)(K:List Kf)(d:D):C:=
 match g with
 | .sub S k=>match S.x.ok with
  | true=>.sub c d.n (extTs S.x d.st) (extBs S.x d.st) λe=>match (S.E e).ok with
   | true=>rec ρ F (k e) (.inr (S.E e).ex) K ((S.E e).D d.n)
   | false=>.stuck 64
  | false=>.stuck 76
 | _=>.stuck 75
def sxC(g:T P G ρ)(c:Code)(K:List Kf)(d:D):C:=
 match c with
 | .skip=>rec ρ F g (.inr .normal) K d
 | .label _=>rec ρ F g (.inr .normal) K d
 | .exit id=>rec ρ F g (.inr (.exit id)) K d
 | .ret=>rec ρ F g (.inr .ret) K d
 | .seq x y=>match isRange x with
  | true=>sxSub rec F g (.seq x y) K d
  | false=>rec ρ F g (.inl x) (.seq y :: K) d
 | .region id ops draw=>sxR kp rec F id ops draw g K d
 | c=>sxB rec F g c K d
def ghAt(a:Nat)(cur:Code⊕Exit)(K:List Kf):Bool:=
 match cur with
 | .inr _=>K.isEmpty&&a==0
 | .inl (.loop _)=>a==1
 | .inl (.rangeFunc _ _ _ _)=>a==1
 | .inl (.seq x _)=>a==1&&isRange x
 | .inl (.region id _ _)=>a==id+2
 | _=>false
def sxD(g:T P G ρ)(cur:Code⊕Exit)(K:List Kf)(d:D):C:=
 match cur with
 | .inr e=>sxE rec F g e K d
 | .inl c=>sxC kp rec F g c K d
def sxS(g:T P G ρ)(cur:Code⊕Exit)(K:List Kf)(d:D):C:=
 match g with
 | .fail=>.fail
 | .fact p _ k=>.fact p λh=>rec ρ F (k h) cur K d
 | .gh a w k=>match ghAt a cur K with
  | true=>.gh (ghE w d) (ghX w d λd'=>rec ρ F k cur K d')
  | false=>sxD kp rec F (.gh a w k) cur K d
 | g=>sxD kp rec F g cur K d
end
def sx(P:Program)(G:zd)(kp:List Nat)(n:Nat):Rec P G:=
 Nat.rec (λ_ _ _ _ _ _=>.stuck 99) (λ_ ih ρ F g cur K d=>sxS kp ih (ρ:=ρ) F g cur K d) n
end Go.EV
namespace Go.EV
open Go
theorem coeL_len(f:V->V->V):∀(es cs:List V),(T7 f es cs).length=cs.length
 | [],cs=>by cases cs<;>rfl
 | _ :: _,[]=>rfl
 | e :: es,c :: cs=>by simp[T7,coeL_len f es cs]
theorem coeL_get(f:V->V->V):∀(es cs:List V) (i:Nat) (d:V),(T7 f es cs)[i]?=some d->∃c,cs[i]?=some c/\(d=c\/∃e,d=f e c)
 | [],cs,i,d,h=>by cases cs<;>exact⟨d,h,.inl rfl⟩
 | _ :: _,[],i,d,h=>by simp[T7] at h
 | e :: es,c :: cs,i,d,h=>by
  cases i with
  | zero=>simp[T7] at h;grind
  | succ i=>
   simp only[T7,List.getElem?_cons_succ] at h
   obtain⟨c',h1,h2⟩:=coeL_get f es cs i d h
   grind
theorem coeV_rep{γ:Gh}{w:World}{bs:ze}{u:zf}:∀(n:Nat) (e c:V) (v:Value),Rep γ w bs u c v->Rep γ w bs u (A3 n e c) v
 | 0,_,_,_,h=>h
 | n+1,e,c,v,h=>by
  have ih:=coeV_rep (γ:=γ) (w:=w) (bs:=bs) (u:=u) n
  cases c<;>simp only[A3]<;>try exact h
  case nilsl=>
   split
   ·have:=h.nilsl_inv;subst this;exact .data (.slNil _ _)
   ·exact h
  case sl o z r=>
   split
   ·exact h.strip
   ·exact h
  case agg cs=>
   split
   ·rename_i es
    obtain⟨vs,rfl,h1,h2⟩:=h.agg_inv
    refine .agg _ vs (by rw[coeL_len];exact h1) λi c v hc hv=>?_
    obtain⟨c',k1,k2⟩:=coeL_get _ _ _ _ _ hc
    grind
   ·exact h
  case tup cs=>
   split
   ·rename_i es
    obtain⟨vs,rfl,h1,h2⟩:=h.tup_inv
    refine .tup _ vs (by rw[coeL_len];exact h1) λi c v hc hv=>?_
    obtain⟨c',k1,k2⟩:=coeL_get _ _ _ _ _ hc
    grind
   ·exact h
theorem coeV_own:∀(n:Nat) (e c:V),(A3 n e c).isOwn=true->A3 n e c=c\/c=.nilsl
 | 0,_,_,_=>.inl rfl
 | n+1,e,c,h=>by
  cases c
  case nilsl=>exact .inr rfl
  case sl o z r=>
   simp only[A3] at h ⊢
   cases e with
   | sl o' z' r'=>grind [V.isOwn]
   | _=>exact .inl rfl
  case agg cs=>simp only[A3] at h;grind [V.isOwn]
  case tup cs=>simp only[A3] at h;grind [V.isOwn]
  all_goals exact .inl rfl
theorem coeV_wk{bs:ze}{u:zf}(n:Nat)(e c:V):Wk bs u c (A3 n e c):=λ_ _ v h=>coeV_rep n e c v h
theorem coeR_rel{bs:ze}{u:zf}:∀(es cs:List (List V)),M1 (λc c'=>Wk bs u c c'/\(c'.isOwn=true->c'=c\/c=.nilsl)) cs (coeR es cs)
 | [],cs=>by
  cases cs<;>exact⟨rfl,λi r' h=>⟨r',h,rfl,λj c' hc=>⟨c',hc,Wk.refl _,λ_=>.inl rfl⟩⟩⟩
 | _ :: _,[]=>⟨rfl,(by grind [coeR])⟩
 | e :: es,c :: cs=>by
  obtain⟨h1,h2⟩:=coeR_rel (bs:=bs) (u:=u) es cs
  refine⟨by simp[coeR,h1],λi r' h=>?_⟩
  cases i with
  | zero=>
   simp only[coeR,wO,zp] at h
   subst h
   refine⟨c,rfl,coeL_len _ _ _,λj c' hc=>?_⟩
   obtain⟨c0,k1,k2⟩:=coeL_get _ _ _ _ _ hc
   refine⟨c0,k1,?_⟩
   rcases k2 with rfl|⟨e0,rfl⟩
   ·exact⟨Wk.refl _,λ_=>.inl rfl⟩
   grind [coeV_wk,coeV_own]
  | succ i=>
   grind [List.getElem?_cons_succ,coeR]
theorem M1.same{R:V->V->Prop}(h:∀c,R c c)(l:List (List V)):M1 R l l:=⟨rfl,(by grind)⟩
theorem M1.append{R:V->V->Prop}{l l' m m':List (List V)}(h:M1 R l l')(k:M1 R m m'):M1 R (l++m) (l'++m'):=
  ⟨by simp[h.1,k.1],λi r' hr=>by
    by_cases hi:i < l'.length
    · rw[wy hi] at hr
      rw[wy (by rw[<-h.1];exact hi)]
      exact h.2 i r' hr
    · rw[wz (by omega)] at hr
      rw[wz (by rw[<-h.1];omega),<-h.1]
      exact k.2 _ r' hr⟩
theorem M1.set{R:V->V->Prop}(h:∀c,R c c)(l:List (List V))(j:Nat){r r':List V}(k:M1 R [r] [r']):M1 R (l.set j r) (l.set j r'):=
  ⟨by simp,λi q hq=>by
    by_cases hi:j=i
    · subst hi
      have hl:j < l.length:=by
        grind
      rw[List.getElem?_set_self hl] at hq ⊢
      simp only[zp] at hq;subst hq
      obtain⟨r0,h1,h2⟩:=k.2 0 r' rfl
      grind
    grind⟩
def CoeR(bs:ze)(u:zf)(c c':V):Prop:=Wk bs u c c'/\(c'.isOwn=true->c'=c\/c=.nilsl)
theorem CoeR.same{bs:ze}{u:zf}(c:V):CoeR bs u c c:=⟨Wk.refl _,λ_=>.inl rfl⟩
theorem Gst.rowsT{G:zd}(s:St)(d:Nat)(z:Nat)(x:Bool){rows rows':List (List V)}(h:∀bs u,M1 (CoeR bs u) rows rows')(t:List (Nat×V)) :
  Gst G ((s.setB d ⟨z,x,rows⟩).app (t.map λp=>.t p.1 p.2)) ((s.setB d ⟨z,x,rows'⟩).app (t.map λp=>.t p.1 p.2)):=by
 have key:∀(t:List (Nat×V)) (s s':St),s'.n=s.n->s'.u=s.u->s'.t=s.t->(s'.app (t.map λp=>.t p.1 p.2)).n=(s.app (t.map λp=>.t p.1 p.2)).n/\(s'.app (t.map λp=>.t p.1 p.2)).u=(s.app (t.map λp=>.t p.1 p.2)).u/\(s'.app (t.map λp=>.t p.1 p.2)).t=(s.app (t.map λp=>.t p.1 p.2)).t/\(s'.app (t.map λp=>.t p.1 p.2)).b=s'.b/\(s.app (t.map λp=>.t p.1 p.2)).b=s.b:=by
  intro t
  induction t with
  | nil=>intro s s' h1 h2 h3;exact⟨h1,h2,h3,rfl,rfl⟩
  | cons p t ih=>
   intro s s' h1 h2 h3
   exact ih (s.setT p.1 p.2) (s'.setT p.1 p.2) h1 h2 (by simp[St.setT,h3])
 obtain⟨h1,h2,h3,h4,h5⟩:=key t (s.setB d ⟨z,x,rows⟩) (s.setB d ⟨z,x,rows'⟩) rfl rfl rfl
 refine Gst.cells h1 h2 (by grind [Wk.refl]) λb=>?_
 rw[h4,h5]
 simp only[St.setB]
 by_cases hb:b=d
 ·subst hb
  exact .inr ⟨_,_,if_pos rfl,if_pos rfl,rfl,rfl,h _ _⟩
 ·rw[if_neg hb,if_neg hb]
  cases hs:s.b b with
  | none=>grind
  | some k=>exact .inr ⟨k,k,rfl,rfl,rfl,rfl,M1.same (λc=>CoeR.same c) _⟩
theorem coe1_rel{bs:ze}{u:zf}(e c:List V):M1 (CoeR bs u) [c] [T7 (A3 8) e c]:=coeR_rel [e] [c]
mutual
theorem nrm_eq:∀(n:Nat) (v:V) (k:V->C),nrm n v k=k v
 | 0,_,_=>rfl
 | n+1,v,k=>by
  cases v<;>simp only[nrm]<;>simp only[nrmL_eq n]
theorem nrmL_eq:∀(n:Nat) (l:List V) (k:List V->C),nrmL n l k=k l
 | 0,_,_=>rfl
 | n+1,l,k=>by
  cases l with
  | nil=>rfl
  | cons v l=>simp only[nrmL,nrm_eq n,nrmL_eq n]
end
theorem nrmR_eq:∀(l:List (List V)) (k:List (List V)->C),nrmR l k=k l
 | [],_=>rfl
 | r :: l,k=>by simp only[nrmR,nrmL_eq,nrmR_eq l]
theorem nrmT_eq:∀(l:List (Nat×V)) (k:List (Nat×V)->C),nrmT l k=k l
 | [],_=>rfl
 | (i,v) :: l,k=>by simp only[nrmT,nrm_eq,nrmT_eq l]
theorem nrmB_eq(sy:List Nat):∀(l:List (Nat×Blk)) (k:List (Nat×Blk)->C),nrmB sy l k=k l
 | [],_=>rfl
 | (i,b) :: l,k=>by
  cases h:sy.contains i<;>simp only[nrmB,h,nrmR_eq,nrmB_eq sy l]
theorem binC_spec{op:BinOp}{k:IntKind}{a b:Int}{c:Bool}{v:V}(h:binC op k a b=some (c,v))(hc:c=true):intV op k a b=some v\/shiftV op k a b=some v:=by
 subst hc
 cases op<;>simp only[binC,zp,zJ,reduceCtorEq] at h
 case quo=>obtain⟨h1,rfl⟩:=h;left;simp only[wi,beq_eq_false_iff_ne,ne_eq] at h1;simp[intV,h1]
 case rem=>obtain⟨h1,rfl⟩:=h;left;simp only[wi,beq_eq_false_iff_ne,ne_eq] at h1;simp[intV,h1]
 case shl=>obtain⟨h1,rfl⟩:=h;right;simp only[zG] at h1;simp[shiftV,show ¬b < 0 by omega]
 case shr=>obtain⟨h1,rfl⟩:=h;right;simp only[zG] at h1;simp[shiftV,show ¬b < 0 by omega]
theorem loC_spec{lo:Option V}{h:Nat}{c:Bool}{l:Nat}(e:loC lo h=some (c,l))(hc:c=true):loV lo h=some l:=by
 unfold loC at e
 unfold loV
 grind
theorem hiC_spec{n:Nat}{hi mx:Option V}{c:Bool}{h:Nat}(e:hiC n hi mx=some (c,h))(hc:c=true):hiV n hi mx=some h:=by
 unfold hiC at e
 unfold hiV
 grind
theorem cutC_spec{n:Nat}{lo hi mx:Option V}{c:Bool}{l h:Nat}(e:cutC n lo hi mx=some (c,l,h))(hc:c=true):hiV n hi mx=some h/\loV lo h=some l:=by
 unfold cutC at e
 split at e
 ·rename_i c1 h' e1
  split at e
  ·rename_i c2 l' e2
   simp only[zp,zJ] at e
   obtain⟨e3,rfl,rfl⟩:=e
   subst hc
   split at e3
   ·subst e3
    have:c1=true:=by simp[hiC] at e1;exact e1.1.symm▸rfl
    exact⟨hiC_spec e1 this,loC_spec e2 rfl⟩
   ·subst e3
    have:c2=true:=by simp[loC] at e2;exact e2.1.symm▸rfl
    exact⟨hiC_spec e1 rfl,loC_spec e2 this⟩
   ·simp only[zC] at e3
    grind [hiC_spec,loC_spec]
  ·simp at e
 ·simp at e
theorem sliceC_spec{P:Program}{look:ze}{t:TypeId}{c d:V}{lo hi mx:Option V}{b:Bool}(e:sliceC P look t c lo hi mx=some (b,d))(hb:b=true):sliceV P look t c lo hi mx=some d:=by
 unfold sliceC at e
 unfold sliceV
 split at e
 ·rename_i hu
  rw[hu]
  split at e
  ·obtain⟨⟨c1,l,h⟩,e1,e2⟩:=zw.1 e
   simp only[zJ] at e2
   obtain⟨rfl,rfl⟩:=e2
   obtain⟨k1,k2⟩:=cutC_spec e1 hb
   simp[k1,k2]
  ·simp at e
 ·rename_i el hu
  rw[hu]
  simp only
  split at e
  ·simp at e
  ·rename_i ei he
   rw[he]
   simp only
   split at e
   ·split at e
    ·rename_i hs
     obtain⟨⟨c1,l,h⟩,e1,e2⟩:=zw.1 e
     simp only[zJ] at e2
     obtain⟨rfl,rfl⟩:=e2
     obtain⟨k1,k2⟩:=cutC_spec e1 hb
     grind
    ·simp at e
   ·rename_i b' off len'
    split at e
    ·rename_i k hk
     split at e
     ·rename_i hs
      obtain⟨⟨c1,l,h⟩,e1,e2⟩:=zw.1 e
      simp only[zJ] at e2
      obtain⟨rfl,rfl⟩:=e2
      obtain⟨k1,k2⟩:=cutC_spec e1 hb
      obtain⟨hs,hmx⟩:=hs
      have hmx:=Option.isNone_iff_eq_none.1 hmx
      subst hmx
      have k1:=hiR_of (N:=k.rows.length - off) k1
      grind
     ·simp at e
    ·simp at e
   ·simp at e
 ·simp at e
theorem readC_spec{P:Program}{e:Operand->Option V}{look:ze}{op:Op}{c:Bool}{v:V}(h:readC P e look op=some (c,v))(hc:c=true):V4 P e look op=some v:=by
 unfold readC at h
 unfold V4
 split at h
 ·rename_i op t x y _
  split at h
  ·rename_i k a k' b hx hy
   simp only[hx,hy,binV]
   split at h
   ·rcases binC_spec h hc with h|h
    ·simp[intV] at h
    ·exact h
   ·rcases binC_spec h hc with h|h
    ·simp[intV] at h
    ·exact h
   ·rename_i n1 n2
    split at h
    ·rename_i hk
     rcases binC_spec h hc with h|h
     ·grind
     ·cases op<;>first|exact absurd rfl n1|exact absurd rfl n2|(simp[shiftV] at h)
    ·simp at h
  ·rename_i a b hx hy
   simp only[hx,hy,binV]
   split at h
   ·simp only[zp,zJ] at h
    obtain⟨h1,rfl⟩:=h
    subst hc
    simp only[zG] at h1
    simp only[strV,h1,if_true]
   ·simp at h
  ·simp at h
 ·rename_i t x i
  split at h
  ·rename_i s n hu hx hi
   simp only[zp,zJ] at h
   obtain⟨h1,rfl⟩:=h
   simp_all [zG,and_self,if_true,indexV]
  ·simp at h
 ·rename_i t x i
  split at h
  ·rename_i el b off len kk n hu hx hi
   split at h
   ·rename_i ei he
    split at h
    ·rename_i k hk
     split at h
     ·rename_i hs
      simp only[zp,zJ] at h
      obtain⟨h1,rfl⟩:=h
      subst hc
      simp only[zC,zG] at h1
      simp only[hx,hi,F4,hu,he,hk,hs]
      simp[h1]
     ·simp at h
    ·simp at h
   ·simp at h
  ·simp at h
 ·grind [sliceC_spec]
 ·simp at h
section
variable {P:Program} {G:zd} {ops:Array Oper} {i:Nat} {s:St}
theorem chkOp_spec{c:Bool}{ws:List Wr}(h:chkOp P G ops i s=some (c,ws))(hc:c=true):O2 P G ops i s (opR ops i s []) ws:=by
 unfold chkOp at h
 split at h
 ·rename_i o ho
  split at h
  ·rename_i hd
   obtain⟨⟨c',v⟩,h1,h2⟩:=zw.1 h
   simp only[zJ] at h2
   obtain⟨rfl,rfl⟩:=h2
   grind [C6,effL_read,readC_spec]
  ·simp at h
 ·simp at h
theorem G1.ghost{o:Oper}{st st1 st2:St}(h:G1 P G o st st1)(g:Gst G st1 st2):G1 P G o st st2:=λfx γ a w hs hd next Q hn=>
 h fx γ a w hs hd next Q λa' w' γ' k1 k2 k3 k4=>by
  obtain⟨γ2,g1,g2,g3⟩:=g γ' a'.tmps w' k1
  exact hn a' w' γ2 g1 (k2.trans g2) (k3.trans g3) k4
theorem rowOp_spec{rows:List (List V)}{j:Nat}{c:Bool}{f:List V->Option (List Wr)}{r:List V}{ws:List Wr}(h:rowOp P G ops i s=some (rows,j,c,f))(hc:c=true)(hr:rows[j]?=some r)(hf:f r=some ws) :
  O2 P G ops i s (opR ops i s []) ws:=by
 subst hc
 unfold rowOp at h
 split at h
 ·rename_i o ho
  split at h
  ·rename_i t x jj d hop hdst
   split at h
   ·rename_i hd
    split at h
    ·rename_i ow size rows' kk n hx hj
     split at h
     ·rename_i hsz
      simp only[zp,zJ] at h
      obtain⟨rfl,rfl,h3,rfl⟩:=h
      simp only[zp] at hf
      subst hf
      refine told_idxSl (n:=n) (rows:=rows') (d:=d) ?_ (by simpa using h3) hr
      simp_all [if_true,idxSl]
     ·simp at h
    ·simp at h
   ·simp at h
  ·rename_i t x d hop hdst
   split at h
   ·rename_i hd
    split at h
    ·rename_i b r' off hx
     split at h
     ·rename_i k hk
      simp only[zp,zJ,true_and] at h
      obtain⟨rfl,rfl,rfl⟩:=h
      obtain⟨v,h1,rfl⟩:=zw.1 hf
      refine told_loadRow (t:=t) (rows:=k.rows) (j:=r') (off:=off) (d:=d) ?_ hr h1
      simp_all [if_true,loadRow]
     ·simp at h
    ·simp at h
   ·simp at h
  ·rename_i t x y hop hdst
   split at h
   ·rename_i b r' off cv hx hy
    split at h
    ·rename_i k hk
     split at h
     ·rename_i hex
      simp only[zp,zJ,true_and] at h
      obtain⟨rfl,rfl,rfl⟩:=h
      obtain⟨v,h1,rfl⟩:=zw.1 hf
      obtain⟨oo,ho',hE⟩:=told_storeRowE (P:=P) (G:=G) (ops:=ops) (i:=i) (s:=s) (ex:=[]) (t:=t) (rows:=k.rows) (j:=r') (off:=off) (b:=b) (size:=k.size) (c:=cv) (by simp_all [if_true,storeRow]) hr h1
      exact C6 ⟨oo,ho',λs2 hn ht hbm hu=>(hE s2 hn ht hbm hu).ghost (Gst.rowsT s2 b k.size true (by grind [M1.set,CoeR.same,coe1_rel]) [])⟩
     ·simp at h
    ·simp at h
   ·simp at h
  ·simp at h
 ·simp at h
theorem strip_map_d{α:Type}(ty:Ty α)(x:List α):(x.map ty.d).map (·.map V.strip)=x.map ty.d:=by
 rw[wD]
 exact wB λa _=>ty.st a
theorem appAt_of{ex:List Nat}{A:AppD}(h:appOp P G ops ex i s=some A)(hlen:A.len=A.rows.length)(hf:A.fl=true->A.srows.map (·.map V.strip)=A.srows) :
  ∃off,appAt P G ops ex i s=some (A.d,⟨A.b,0,A.size,A.excl,A.rows⟩,⟨A.sb,off,A.size,true,A.srows⟩,A.size,A.bytes,true):=by
 unfold appOp at h
 split at h
 ·rename_i o ho
  split at h
  ·rename_i as ts d hop hdst
   split at h
   ·rename_i hd
    split at h
    ·rename_i x' y' t t2 hxs hts
     split at h
     ·rename_i cx cy e e2 hx hy ht ht2
      split at h
      ·rename_i ei hi
       split at h
       ·rename_i hz
        split at h
        ·rename_i b rows len excl hds
         split at h
         ·rename_i sb srows fl hss
          simp only[zp] at h
          subst h
          simp only at hlen hf ⊢
          subst hlen
          have k1:dstL (s.lookC o ex) ei.size cx=some (⟨b,0,ei.size,excl,rows⟩,true):=by
           unfold appDst at hds
           unfold dstL
           split at hds
           ·grind
           ·grind
           ·simp at hds
          have k2:∃off,srcL (s.lookC o ex) ei.size b cy=some (⟨sb,off,ei.size,true,srows⟩,true):=by
           unfold appSrc at hss
           unfold srcL
           split at hss
           ·simp_all
           ·simp_all
           ·rename_i b' len'
            split at hss
            ·rename_i k hk
             split at hss
             ·simp_all
             ·simp at hss
            ·simp at hss
           ·simp at hss
          obtain⟨off,k2⟩:=k2
          simp_all [and_self,if_true,appAt]
         ·simp at h
        ·simp at h
       ·simp at h
      ·simp at h
     ·simp at h
    ·simp at h
   ·simp at h
  ·simp at h
 ·simp at h
theorem appOp_fl{ex:List Nat}{A:AppD}(h:appOp P G ops ex i s=some A)(e:A.fl=true):A.sb=none:=by
 unfold appOp at h
 split at h
 ·split at h
  ·split at h
   ·split at h
    ·split at h
     ·split at h
      ·split at h
       ·split at h
        ·split at h
         ·rename_i hss
          simp only[zp] at h
          subst h
          simp only at e ⊢
          subst e
          unfold appSrc at hss
          split at hss
          ·simp at hss
          ·grind
          ·grind
          ·simp at hss
         ·simp at h
        ·simp at h
       ·simp at h
      ·simp at h
     ·simp at h
    ·simp at h
   ·simp at h
  ·simp at h
 ·simp at h
theorem coeSrc_rel{bs:ze}{u:zf}(sy:List Nat)(sb:Option Nat)(e rows:List (List V)):M1 (CoeR bs u) rows (coeSrc sy sb e rows):=by
 unfold coeSrc
 split
 ·split
  ·grind [M1.same,CoeR.same]
  ·exact coeR_rel _ _
 grind [M1.same,CoeR.same]
theorem appOp_spec{A:AppD}(h:appOp P G ops [] i s=some A){α:Type}{ty:Ty α}{l x:List α}{sy:List Nat}(hr:A.rows=l.map ty.c)(hlen:A.len=l.length)(hs:coeSrc sy A.sb (x.map ty.c) A.srows=x.map ty.c)(hf:A.fl=true->A.sb=none/\∀y,ty.c y=ty.d y)
  (hb:(l.length+x.length) * A.bytes<=140737488355328) :
  O2 P G ops i s (opR ops i s []) (delW A.b++(delW A.sb++[.b A.d (some ⟨A.size,A.excl,(l++x).map ty.c⟩),.t A.d (.ref A.d 0 (l++x).length)])):=by
 have hlx:A.srows.length=x.length:=by
  have:=(coeSrc_rel (bs:=λ_=>none) (u:=λ_=>false) sy A.sb (x.map ty.c) A.srows).1
  grind
 obtain⟨off,hat⟩:=appAt_of h (by grind) (λe=>by
  obtain⟨e0,e2⟩:=hf e
  have e1:x.map ty.c=x.map ty.d:=wB λa _=>e2 a
  rw[e0] at hs
  have hs':A.srows=x.map ty.c:=hs
  rw[hs',e1,strip_map_d])
 obtain⟨oo,ho,hE⟩:=told_appendE (ds:=⟨A.b,0,A.size,A.excl,A.rows⟩) (ss:=⟨A.sb,off,A.size,true,A.srows⟩) (rows:=l.map ty.c++A.srows) (m:=(l++x).length) hat rfl (by grind) (by simp[hr]) (by simp[hr,hlx])
 refine C6 ⟨oo,ho,λs2 hn ht hbm hu=>(hE s2 hn ht hbm hu).ghost ?_⟩
 simp only
 rw[app_delW,app_delW,app_delW,app_delW]
 have:=Gst.rowsT (G:=G) ((s2.delO A.b).delO A.sb) A.d A.size A.excl (rows:=l.map ty.c++A.srows) (rows':=(l++x).map ty.c) (λbs u=>by
  rw[wA]
  refine M1.append (M1.same (λc=>CoeR.same c) _) ?_
  have:=coeSrc_rel (bs:=bs) (u:=u) sy A.sb (x.map ty.c) A.srows
  rw[hs] at this;exact this) [(A.d,.ref A.d 0 (l++x).length)]
 exact this
theorem Evs.of{o:Oper}{s s2:St}{x:Operand}{c:V}(hx:s.evC G o x=some c)(ht:∀t,t∈Y8 o->s2.t t=s.t t):Evs G s2 x c:=λ_ _ _ hs=>
 (hs.cutT (Y8 o)).ev (by rw[C0 ht];exact hx)
theorem dcell_ren{c:V}(h:H2 c=true)(f:Nat->Nat):W5 f c=c:=by
 cases c<;>simp_all [H2,W5]
 obtain⟨rfl,rfl⟩:=h
 simp[G3]
theorem dcell_refs{c:V}(h:H2 c=true):U8 c=[]:=by
 cases c<;>simp_all [H2,U8]
 obtain⟨rfl,rfl⟩:=h
 simp[W1]
theorem R4{c:V}(h:H2 c=true)(u:zf):okV u c=true:=by
 cases c<;>simp_all [H2,okV]
 obtain⟨rfl,rfl⟩:=h
 simp[okL]
theorem U7.ren{k:Blk}(h:U7 k.rows)(f:Nat->Nat):k.ren f=k:=by
 unfold Blk.ren
 have:k.rows.map (G3 f)=k.rows:=by
  have:∀l:List (List V),U7 l->l.map (G3 f)=l:=by
   intro l hl
   induction l with
   | nil=>rfl
   | cons r l ih=>
    rw[zW,ih λr' hr'=>hl r' (by simp[hr'])]
    congr 1
    rw[renL_eq]
    conv=>rhs;rw[<-List.map_id r]
    exact wB λc hc=>dcell_ren (hl r (by simp) c hc) f
  exact this _ h
 rw[this]
theorem U7.refs{rows:List (List V)}(h:U7 rows):W1 rows.flatten=[]:=by
 have:∀l:List V,(∀c,c∈l->H2 c=true)->W1 l=[]:=by
  intro l hl
  induction l with
  | nil=>rfl
  | cons c l ih=>grind [dcell_refs,W1]
 refine this _ λc hc=>?_
 obtain⟨r,h1,h2⟩:=wN.1 hc
 exact h r h1 c h2
def V2(sy:List Nat)(s:St):Prop:=∀b,b∈sy->∀k,s.b b=some k->U7 k.rows
theorem renB_eq{dt:List Nat}{b:Nat}{f:Nat->Nat}{k:Blk}(h:b∈dt->U7 k.rows):renB dt b f k=k.ren f:=by
 unfold renB
 split
 ·rename_i hc;exact((h (by simpa using hc)).ren f).symm
 ·rfl
theorem callOp_spec{Li Lo:List (Nat×Nat)}{sy:List Nat}{dst:Option Nat}{f:FuncId}{as:List V}{I:List (Nat×Blk)}(hsy:V2 sy s)(h:callOp P G ops Li Lo sy i s=some (dst,f,as,I)){O:List (Nat×Blk)}{res:V}
  {dt:List Nat} (hdt:∀p,p∈O->p.1∈dt->U7 p.2.rows) (hc:CallC P G f as (ofL I) res (ofL O)) (ho:outsOk (Li++Lo) dt O res=true) :
  O2 P G ops i s (opR ops i s ((Li++Lo).map (·.2))) (G5 (Li++Lo) dt O dst res):=by
 unfold callOp at h
 split at h
 ·rename_i dst' f' as' bl shl hcg
  split at h
  ·rename_i hcond
   simp only[zp,zJ] at h
   obtain⟨rfl,rfl,rfl,rfl⟩:=h
   simp only[zC,zH,wd] at hcond
   obtain⟨hids,hbl⟩:=hcond
   have hids':=hids
   simp only[idsOk,zC,zH,beq_iff_eq,zG,wi] at hids'
   obtain⟨⟨⟨i1,i2⟩,i3⟩,i4⟩:=hids'
   have hblk:∀x,x∈bl->sy.contains (Y9 (Li++Lo) x.1)=true->U7 x.2.rows:=by
    intro x hx hs
    simp only[callG] at hcg
    split at hcg
    ·rename_i o ff cs hca
     split at hcg
     ·rename_i shl' bl' hsh hb'
      split at hcg
      ·simp only[zp,zJ] at hcg
       obtain⟨-,-,-,rfl,-⟩:=hcg
       obtain⟨n,hn⟩:=wK.1 hx
       obtain⟨y,y1,y2⟩:=O6 hb' n x hn
       obtain⟨k,k1,rfl⟩:=zw.1 y2
       have hy:=zO y1
       have e:Y9 (Li++Lo) y.1=y.2:=(by grind)
       simp only[e] at hs
       exact hsy y.2 (by simpa using hs) k (cutB_le _ _ _ _ k1)
      ·simp at hcg
     ·simp at hcg
    ·simp at hcg
   have eI:(bl.map λx=>(x.1,renB sy (Y9 (Li++Lo) x.1) (Y3 (Li++Lo)) x.2))=bl.map λx=>(x.1,x.2.ren (Y3 (Li++Lo))):=
    (by grind [List.map_congr_left,renB_eq])
   simp only[outsOk,zC,zH,wd] at ho
   have hshl:shl=[]:=by
    grind [Option.some.injEq,Prod.mk.injEq,callG,M7]
   subst hshl
   refine told_call Li Lo [] hids hcg hc eI.symm (by simp) (λx hx b hb=>?_) (λx hx=>⟨(ho.1 x hx).1,λb hb=>?_⟩) (by grind [anyC]) ?_
   ·rcases hbl x hx with h1|h1
    ·rw[(hblk x hx h1).refs] at hb;simp at hb
    ·exact h1 b hb
   ·rcases(ho.1 x hx).2 with h1|h1
    ·rw[(hdt x hx (by simpa using h1)).refs] at hb;simp at hb
    ·exact h1 b hb
   ·unfold G5 outW
    simp only[List.map_nil,wE,wD]
    congr 1
    refine wB λx hx=>?_
    simp only[Function.comp]
    grind [renB_eq,O5,ofL]
  ·simp at h
 ·simp at h
theorem panOp_spec{v:Value}(h:panOp P G ops i s=some v):StepLP P G ops i s (opR ops i s []) (.panic (D5 v)) []:=by
 unfold panOp at h
 split at h
 ·rename_i o ho
  obtain⟨h3,h4⟩:=opAt_spec ho
  split at h
  ·rename_i x hop
   split at h
   ·rename_i u hu
    split at h
    ·rename_i t y
     simp only[zp] at h
     subst h
     intro s2 hn hag
     obtain⟨k1,k2,_,_⟩:=opR_agree h3 h4 hn hag
     refine⟨o,h3,(by grind),k1,λfx γ a w hs had next Q hq=>?_⟩
     have hv:a.eval x=.iface t y:=by
      exact(Evs.of hu k2 γ a w hs).ifc_inv
     have hrun:(execOp a.eval o).run P w=.halt (.panic (.iface t y)) w:=by
      unfold execOp
      rw[hop]
      simp only[hv]
      rfl
     show o.upon P a next Q _
     rw[hrun]
     exact hq a w γ hs (.refl γ w) (.refl hs.u) had
    ·simp at h
   ·simp at h
  ·simp at h
 ·simp at h
theorem callOp_specP{Li Lo:List (Nat×Nat)}{sy:List Nat}{dst:Option Nat}{f:FuncId}{as:List V}{I:List (Nat×Blk)}(hsy:V2 sy s)(h:callOp P G ops Li Lo sy i s=some (dst,f,as,I)){O:List (Nat×Blk)}{v:Value}
  {dt:List Nat} (hdt:∀p,p∈O->p.1∈dt->U7 p.2.rows) (hc:CallP P G f as (ofL I) v (ofL O)) (ho:outsOk (Li++Lo) dt O .undef=true) :
  StepLP P G ops i s (opR ops i s ((Li++Lo).map (·.2))) (.panic (D5 v)) (G5 (Li++Lo) dt O none .undef):=by
 unfold callOp at h
 split at h
 ·rename_i dst' f' as' bl shl hcg
  split at h
  ·rename_i hcond
   simp only[zp,zJ] at h
   obtain⟨rfl,rfl,rfl,rfl⟩:=h
   simp only[zC,zH,wd] at hcond
   obtain⟨hids,hbl⟩:=hcond
   have hids':=hids
   simp only[idsOk,zC,zH,beq_iff_eq,zG,wi] at hids'
   obtain⟨⟨⟨i1,i2⟩,i3⟩,i4⟩:=hids'
   have hblk:∀x,x∈bl->sy.contains (Y9 (Li++Lo) x.1)=true->U7 x.2.rows:=by
    intro x hx hs
    simp only[callG] at hcg
    split at hcg
    ·rename_i o ff cs hca
     split at hcg
     ·rename_i shl' bl' hsh hb'
      split at hcg
      ·simp only[zp,zJ] at hcg
       obtain⟨-,-,-,rfl,-⟩:=hcg
       obtain⟨n,hn⟩:=wK.1 hx
       obtain⟨y,y1,y2⟩:=O6 hb' n x hn
       obtain⟨k,k1,rfl⟩:=zw.1 y2
       have hy:=zO y1
       have e:Y9 (Li++Lo) y.1=y.2:=(by grind)
       simp only[e] at hs
       exact hsy y.2 (by simpa using hs) k (cutB_le _ _ _ _ k1)
      ·simp at hcg
     ·simp at hcg
    ·simp at hcg
   have eI:(bl.map λx=>(x.1,renB sy (Y9 (Li++Lo) x.1) (Y3 (Li++Lo)) x.2))=bl.map λx=>(x.1,x.2.ren (Y3 (Li++Lo))):=
    (by grind [List.map_congr_left,renB_eq])
   simp only[outsOk,zC,zH,wd] at ho
   have hshl:shl=[]:=by
    grind [Option.some.injEq,Prod.mk.injEq,callG,M7]
   subst hshl
   refine told_callP Li Lo [] hids hcg hc eI.symm (by simp) (λx hx b hb=>?_) (λx hx=>⟨(ho.1 x hx).1,λb hb=>?_⟩) ?_
   ·rcases hbl x hx with h1|h1
    ·rw[(hblk x hx h1).refs] at hb;simp at hb
    ·exact h1 b hb
   ·rcases(ho.1 x hx).2 with h1|h1
    ·rw[(hdt x hx (by simpa using h1)).refs] at hb;simp at hb
    ·exact h1 b hb
   ·unfold G5 outW
    simp only[List.map_nil,wE,wD,dstW]
    refine wB λx hx=>?_
    simp only[Function.comp]
    grind [renB_eq,O5,ofL]
  ·simp at h
 ·simp at h
end
end Go.EV
namespace Go.EV
open Go
theorem mapO_sub{α β:Type}{f g:α->Option β}:∀{l:List α} {r:List β},M7 f l=some r->(∀x,x∈l->∀y,f x=some y->g x=some y)->M7 g l=some r
 | [],r,h,_=>h
 | x :: l,r,h,hg=>by
  simp only[M7] at h ⊢
  split at h
  ·rename_i y r' h1 h2
   rw[hg x (by simp) y h1,mapO_sub h2 (by grind)];exact h
  ·simp at h
theorem viewV_dcell{look:ze}{c:V}(h:H2 c=true)(n:Nat):D0 look (n+1) c=D0 look 1 c:=by
 cases c<;>simp_all [H2,D0]
 obtain⟨rfl,rfl⟩:=h
 simp[M7]
theorem Ty.view{α:Type}(ty:Ty α)(look:ze)(n:Nat)(x:α):M7 (λv=>A8 (D0 look (n+1) v)) (ty.c x)=some (ty.d x):=
 mapO_sub (ty.vw look x) λc hc y hy=>by
  rw[viewV_dcell (zH.1 (ty.cd x) c hc)];exact hy
theorem Ty.views{α:Type}(ty:Ty α)(look:ze)(n:Nat):∀l:List α,M7 (M7 λv=>A8 (D0 look (n+1) v)) (l.map ty.c)=some (l.map ty.d)
 | []=>rfl
 | x :: l=>by simp only[zW,M7,ty.view look n x,ty.views look n l]
theorem viewE_rows{look:ze}{vs:List VwW}:∀(n:Nat) (c:V) (e:Nat×List (List V)×Nat),e∈R5 look vs n c->∃k,look e.1=some k/\e.2.1=k.rows
 | 0,_,_,h=>by simp[R5] at h
 | n+1,c,e,h=>by
  have fl:∀l:List V,e∈l.flatMap (R5 look vs n)->∃k,look e.1=some k/\e.2.1=k.rows:=λl hl=>by
   obtain⟨x,_,hx⟩:=wI.1 hl
   exact viewE_rows n x e hx
  cases c<;>simp only[R5,wg] at h
  case ref b off len=>
   grind
  case ptr b i off=>
   grind
  case fn f a c=>
   grind
  case agg l=>exact fl _ h
  grind
def VOk(vs:List VwW)(es:List (Nat×List (List V)×Nat)):Prop:=
 ∀e,e∈es->∀v,vs.find? (λv=>v.b==e.1)=some v->e.2.1.take e.2.2=v.l.map v.ty.c
theorem viewG_spec{look:ze}{vs:List VwW}:∀(n:Nat) (c d:V),viewG look vs n c=some d->VOk vs (R5 look vs n c)->D0 look n c=some d
 | 0,_,_,h,_=>by simp[viewG] at h
 | n+1,c,d,h,hv=>by
  have ih:=viewG_spec (look:=look) (vs:=vs) n
  have sub:∀(l:List V) (r:List V),M7 (viewG look vs n) l=some r->VOk vs (l.flatMap (R5 look vs n))->M7 (D0 look n) l=some r:=λl r hm hl=>
   mapO_sub hm λx hx y hy=>ih x y hy λe he=>hl e (by grind)
  cases c<;>simp only[viewG] at h<;>try exact h
  case ref b off len=>
   split at h
   ·rename_i v hf
    split at h
    ·split at h
     ·simp at h
     ·rename_i n0
      obtain⟨k,hk,rfl⟩:=zw.1 h
      have:=hv (b,k.rows,len) (by grind [R5])
      have e:(k.rows.drop 0).take len=v.l.map v.ty.c:=by grind
      simp only[D0,hk]
      rw[e,v.ty.views]
      rfl
    ·simp at h
   ·exact h
  case ptr b i off=>
   split at h
   ·rename_i k hk
    split at h
    ·rename_i r hr
     obtain⟨l,h1,rfl⟩:=zw.1 h
     simp only[R5,hk,hr] at hv
     simp only[D0,hk,hr]
     rw[mapO_sub h1 λx hx y hy=>?_]
     ·rfl
     ·obtain⟨a1,a2⟩:=C2 hy
      have:=ih x y a1 λe he=>hv e (by grind)
      grind
    ·simp at h
   ·simp at h
  case fn f a c=>
   split at h
   ·rename_i a' c' h1 h2
    simp only[R5] at hv
    simp only[D0]
    rw[sub a a' h1 λe he=>hv e (wS _ he),sub c c' h2 λe he=>hv e (by grind)]
    exact h
   ·simp at h
  case agg l=>
   obtain⟨r,h1,rfl⟩:=zw.1 h
   simp only[D0]
   rw[sub l r h1 hv];rfl
  case tup l=>
   obtain⟨r,h1,rfl⟩:=zw.1 h
   simp only[D0]
   rw[sub l r h1 hv];rfl
theorem vOk_of{look:ze}{vs:List VwW}{n:Nat}{cs:List V}(hw:vsOk vs=true)(h:cs.flatMap (R5 look vs n)=vs.map VwW.eqn):VOk vs (cs.flatMap (R5 look vs n)):=by
 have rows:∀e,e∈cs.flatMap (R5 look vs n)->∃k,look e.1=some k/\e.2.1=k.rows:=(by grind [viewE_rows])
 intro e he v hv
 obtain⟨k,k1,k2⟩:=rows e he
 have hm:=wU hv
 have hb:v.b=e.1:=by grind
 have:v.eqn∈cs.flatMap (R5 look vs n):=by grind
 obtain⟨k',k3,k4⟩:=rows _ this
 simp only[VwW.eqn] at k3 k4
 rw[hb,k1] at k3
 simp only[zp] at k3
 subst k3
 obtain⟨v',hm',he'⟩:=zF.1 (h▸he)
 subst he'
 simp only[VwW.eqn] at k1 k2 hb ⊢
 have one:∀x,x∈vs->∀y,y∈vs->y.b=x.b->x.w=false->x=y:=λx hx y hy hxy hw0=>by
  have:=zH.1 hw x hx
  rw[hw0] at this
  simp only[Bool.false_or,beq_iff_eq] at this
  obtain⟨z,hz⟩:=List.length_eq_one_iff.1 this
  have hx':x∈vs.filter λq=>q.b==x.b:=(by grind)
  have hy':y∈vs.filter λq=>q.b==x.b:=(by grind)
  grind
 cases hwv:v.w with
 | false=>rw[<-one v hm v' hm' hb.symm hwv];exact v.h
 | true=>
  cases hwv':v'.w with
  | false=>grind
  | true=>rw[v'.hw hwv',show v'.rows.length=v.n by rw[v.hw hwv,k2,k4],k2,<-k4];exact v.h
section
variable {P:Program} {G:zd} {ops:Array Oper} {i:Nat} {s:St}
theorem viewOp_spec{ex:List Nat}{vs:List VwW}{dst:Option Nat}{f:FuncId}{ds:List V}{es:List (Nat×List (List V)×Nat)}{r:V}(h:viewOp P G ops ex vs i s=some (dst,f,ds,es))(he:es=vs.map VwW.eqn)
  (hc:PureC P G f ds r) (hr:L2 r=true):O2 P G ops i s (opR ops i s ex) (dstW dst r):=by
 unfold viewOp at h
 split at h
 ·rename_i o f' cs hca
  split at h
  rotate_left
  ·simp at h
  rename_i hw
  obtain⟨ds',hm,h2⟩:=zw.1 h
  simp only[zJ] at h2
  obtain⟨rfl,rfl,rfl,rfl⟩:=h2
  have hv:=vOk_of hw he
  refine told_view 8 ?_ hc hr
  simp only[viewAt,hca]
  rw[mapO_sub hm λx hx y hy=>viewG_spec 8 x y hy λe he=>hv e (by grind)]
  rfl
 ·simp at h
end
def P8(P:Program)(G:zd)(ops:Array Oper)(p:J6)(st0 s:St):Prop:=
 s=W9 p st0 p.length/\∀j,j < p.length->O2 P G ops j (W9 p st0 j) (p.rs j) (p.ws j)
theorem P7(p:J6)(x:List Loc×List Wr)(st:St):∀n,n<=p.length->W9 (p++[x]) st n=W9 p st n
 | 0,_=>rfl
 | n+1,h=>by
  simp only[W9]
  rw[P7 p x st n (by omega)]
  grind [List.getElem?_append_left,J6.ws]
theorem P8.push{P:Program}{G:zd}{ops:Array Oper}{p:J6}{st0 s:St}(h:P8 P G ops p st0 s){R:List Loc}{ws:List Wr}(hs:O2 P G ops p.length s R ws):P8 P G ops (p++[(R,ws)]) st0 (s.app ws):=by
 obtain⟨h1,h2⟩:=h
 have e:(p++[(R,ws)]).getD p.length ([],[])=(R,ws):=by grind
 refine⟨?_,λj hj=>?_⟩
 ·simp_all [wM,P7,zD,W9,J6.ws]
 grind [List.length_append,List.length_singleton,P7,List.getElem?_append_left,J6.rs,J6.ws]
theorem app_b_other{ws:List Wr}{s:St}{b:Nat}(h:¬b∈wrBs ws):(s.app ws).b b=s.b b:=
 (I8 (l:=.b b) ws s λx hx e=>h (by
  unfold wrBs
  refine List.mem_filterMap.2 ⟨x,hx,?_⟩
  cases x with
  | t i c=>simp[Wr.loc] at e
  | b i k=>grind [Loc.b.injEq,Wr.loc])).1
theorem app_t_other{ws:List Wr}{s:St}{t:Nat}(h:¬t∈wrTs ws):(s.app ws).t t=s.t t:=
 I8 (l:=.t t) ws s λx hx e=>h (by
  unfold wrTs
  refine List.mem_filterMap.2 ⟨x,hx,?_⟩
  cases x with
  | b i c=>simp[Wr.loc] at e
  | t i k=>grind [Loc.t.injEq,Wr.loc])
theorem app_append(a b:List Wr)(s:St):s.app (a++b)=(s.app a).app b:=by unfold St.app;grind
theorem app_snoc(ws:List Wr)(x:Wr)(s:St):s.app (ws++[x])=(s.app ws).wr x:=by
 unfold St.app;grind
theorem app_b_mem{s:St}{b:Nat}{k:Blk}:∀(n:Nat) (ws:List Wr),ws.length=n->(s.app ws).b b=some k->b∈wrBs ws->Wr.b b (some k)∈ws
 | 0,ws,hn,_,hm=>by grind [List.length_eq_zero_iff,wrBs]
 | n+1,ws,hn,h,hm=>by
  obtain⟨ws',x,rfl⟩:∃ws' x,ws=ws'++[x]:=⟨ws.dropLast,ws.getLast (by grind),(List.dropLast_concat_getLast _).symm⟩
  rw[app_snoc] at h
  have hl:ws'.length=n:=by simpa using hn
  cases x with
  | t i c=>
   have hm':b∈wrBs ws':=by
    grind [wrBs]
   exact wS _ (app_b_mem n ws' hl h hm')
  | b i q=>
   by_cases hi:b=i
   ·subst hi
    cases q with
    | none=>simp[St.wr,St.delB] at h
    | some q=>
     simp_all [if_true,zp,St.wr,St.setB]
   ·have h':(s.app ws').b b=some k:=by
     cases q with
     | none=>grind [St.wr,St.delB]
     | some q=>grind [St.wr,St.setB]
    have hm':b∈wrBs ws':=by
     grind [wrBs]
    exact wS _ (app_b_mem n ws' hl h' hm')
theorem V2.step{sy:List Nat}{s:St}(h:V2 sy s){ws:List Wr}{told:List Nat}(ht:∀i k,Wr.b i (some k)∈ws->i∈told->U7 k.rows):V2 (syStep sy ws told) (s.app ws):=by
 intro b hb k hk
 unfold syStep at hb
 rcases zU.1 hb with hb|hb
 ·obtain⟨h1,h2⟩:=List.mem_filter.1 hb
  exact ht b k (app_b_mem _ ws rfl hk (by simpa using h2)) h1
 ·obtain⟨h1,h2⟩:=List.mem_filter.1 hb
  rw[app_b_other (by simpa using h2)] at hk
  exact h b h1 k hk
theorem CallG.coe{P:Program}{G:zd}{f:FuncId}{es as:List V}{ins outs:ze}{E:Value->Ending}{res:V}(h:CallG P G f (T7 (A3 8) es as) ins E res outs):CallG P G f as ins E res outs:=λγ w vs hg ho ha hb=>
 h γ w vs hg ho ⟨by rw[coeL_len];exact ha.1,λi c v hc hv=>by
  obtain⟨c',k1,k2⟩:=coeL_get _ _ _ _ _ hc
  rcases k2 with rfl|⟨e,rfl⟩
  ·exact ha.2 i _ v k1 hv
  ·exact coeV_rep 8 e c' v (ha.2 i c' v k1 hv)⟩ hb
theorem CallP.coe{P:Program}{G:zd}{f:FuncId}{es as:List V}{ins outs:ze}{v:Value}(h:CallP P G f (T7 (A3 8) es as) ins v outs):CallP P G f as ins v outs:=CallG.coe h
theorem CallC.coe{P:Program}{G:zd}{f:FuncId}{es as:List V}{ins outs:ze}{res:V}(h:CallC P G f (T7 (A3 8) es as) ins res outs):CallC P G f as ins res outs:=λγ w vs hg ho ha hb=>
 h γ w vs hg ho ⟨by rw[coeL_len];exact ha.1,λi c v hc hv=>by
  obtain⟨c',k1,k2⟩:=coeL_get _ _ _ _ _ hc
  rcases k2 with rfl|⟨e,rfl⟩
  ·exact ha.2 i _ v k1 hv
  ·exact coeV_rep 8 e c' v (ha.2 i c' v k1 hv)⟩ hb
section
variable {P:Program} {G:zd} {id:Nat} {ops:Array Oper}
def Goes(P:Program)(G:zd)(ops:Array Oper){ρ:Type}(F:Fin' ρ)(r:ρ)(st0:St)(n:Nat)(next:T P G ρ->St->J6->List Nat->C):Prop:=
 ∃g' s' p' sy',next g' s' p' sy'=g'.expect F/\g'.run=some r/\P8 P G ops p' st0 s'/\V2 sy' s'/\p'.length=n
theorem reK_sound{ρ:Type}{F:Fin' ρ}{a:Nat}{k:T P G ρ}{R:List Loc}{ws:List Wr}{s st0:St}{p:J6}{sy:List Nat}{next:T P G ρ->St->J6->List Nat->C}{r:ρ}
  (h:reK P G a k R ws s p sy next=k.expect F) (hr:k.run=some r) (hp:P8 P G ops p st0 s) (hsy:V2 sy s) (hs:O2 P G ops p.length s R ws) :
  ∃g' sy' p',next g' (s.app ws) p' sy'=g'.expect F/\g'.run=some r/\P8 P G ops p' st0 (s.app ws)/\V2 sy' (s.app ws)/\p'.length=p.length+1:=by
 have plain:next k (s.app ws) (p++[(R,ws)]) (syStep sy ws [])=k.expect F->∃g' sy' p',next g' (s.app ws) p' sy'=g'.expect F/\g'.run=some r/\P8 P G ops p' st0 (s.app ws)/\V2 sy' (s.app ws)/\p'.length=p.length+1:=
  λh=>⟨k,_,_,h,hr,hp.push hs,hsy.step (by grind),by simp⟩
 cases k<;>try exact plain h
 case re a' w k'=>
  simp only[reK] at h
  split at h
  ·simp only[T.expect,C.re.injEq] at h
   obtain⟨h1,h2⟩:=h
   have e:ws=w.b:=h1.trans w.h
   rw[e]
   exact⟨k',_,_,h2,hr,hp.push (e▸hs),hsy.step w.dat,by simp⟩
  grind
theorem dflt_sound{ρ:Type}{F:Fin' ρ}{g:T P G ρ}{s st0:St}{p:J6}{sy:List Nat}{next:T P G ρ->St->J6->List Nat->C}{r:ρ}(hns:∀j,C.stuck j≠g.expect F)
  (h:dflt P G ops p.length g s p sy next=g.expect F) (hr:g.run=some r) (hp:P8 P G ops p st0 s) (hsy:V2 sy s):Goes P G ops F r st0 (p.length+1) next:=by
 unfold dflt at h
 split at h
 ·rename_i R ws hrw
  exact⟨g,_,_,_,h,hr,hp.push (stepRW_spec hrw),hsy.step (by grind),by simp⟩
 grind
theorem Z6{ρ:Type}(F:Fin' ρ)(g:T P G ρ)(j:Nat):C.stuck j≠g.expect F:=by
 induction g with
 | done r=>
  cases F with
  | rnd S E=>grind [T.expect,extFin]
  | fnp rs res outs ex pouts=>grind [T.expect,extFin]
  | _=>simp[T.expect,extFin]
 | tt k ih=>grind [T.expect]
 | ff k ih=>grind [T.expect]
 | pan a k ih=>grind [T.expect]
 | lp S body x=>cases F<;>simp[T.expect]
 | ceq a n vs k=>cases vs<;>simp[T.expect]
 | _=>simp[T.expect]
theorem sy_call{s:St}{sy sy':List Nat}{i:Nat}{Li Lo:List (Nat×Nat)}{dst dst':Option Nat}{f:FuncId}{as:List V}{ins:List (Nat×Blk)}
  {O:List (Nat×Blk)} {res:V} {dt:List Nat} (hc:callOp P G ops Li Lo sy i s=some (dst',f,as,ins)) (hdt:∀q,q∈O->q.1∈dt->U7 q.2.rows)
  (x4:V2 sy' (s.app (G5 (Li++Lo) dt O dst res))):V2 (syOuts (Li++Lo) dt++sy') (s.app (G5 (Li++Lo) dt O dst res)):=by
 intro b hb q hq
 rcases zU.1 hb with hb|hb
 ·unfold syOuts at hb
  obtain⟨y,hy,rfl⟩:=zF.1 hb
  obtain⟨y1,y2⟩:=List.mem_filter.1 hy
  unfold callOp at hc
  split at hc
  ·split at hc
   ·rename_i hcond
    simp only[zC] at hcond
    have hids:=hcond.1
    simp only[idsOk,zC,zH,beq_iff_eq,zG,wi] at hids
    have i1:=hids.1.1.1
    have e0:(s.app (G5 (Li++Lo) dt O dst res)).b y.2=(ofL O y.1).map (renB dt y.1 (Y9 (Li++Lo))):=by
     unfold G5
     rw[app_append]
     have e1:∀s':St,(s'.app (dstW dst (W5 (Y9 (Li++Lo)) res))).b y.2=s'.b y.2:=λs'=>app_b_other (by cases dst<;>simp[dstW,wrBs])
     rw[e1]
     have:=(app_b_in ((ofL O y.1).map (renB dt y.1 (Y9 (Li++Lo)))) ((Li++Lo).map λz=>(z.2,(ofL O z.1).map (renB dt z.1 (Y9 (Li++Lo))))) s y.2 (by grind) ⟨_,zF.2 ⟨y,y1,rfl⟩,rfl⟩).1
     rw[wD] at this
     exact this
    rw[e0] at hq
    cases hO:ofL O y.1 with
    | none=>grind
    | some k=>
     rw[hO] at hq
     simp only[wu,zp] at hq
     subst hq
     have hd:=hdt (y.1,k) (O5 hO) (by simpa using y2)
     rw[renB_eq (λ_=>hd),hd.ren];exact hd
   ·simp at hc
  ·simp at hc
 ·exact x4 b hb q hq
theorem call_case{ρ:Type}{F:Fin' ρ}{a:Nat}{k:T P G ρ}{s st0:St}{p:J6}{sy:List Nat}{next:T P G ρ->St->J6->List Nat->C}{r:ρ}{Li Lo:List (Nat×Nat)}{dst:Option Nat}{f:FuncId}{as:List V}{ins:List (Nat×Blk)}
  {O:List (Nat×Blk)} {res:V} {dt:List Nat} (hp:P8 P G ops p st0 s) (hsy:V2 sy s) (hc:callOp P G ops Li Lo sy p.length s=some (dst,f,as,ins)) (hdt:∀q,q∈O->q.1∈dt->U7 q.2.rows)
  (hok:CallC P G f as (ofL ins) res (ofL O)) (hout:outsOk (Li++Lo) dt O res=true)
  (h5:reK P G a k (opR ops p.length s ((Li++Lo).map (·.2))) (G5 (Li++Lo) dt O dst res) s p sy (λg s p sy=>next g s p (syOuts (Li++Lo) dt++sy))=k.expect F) (hr:k.run=some r):Goes P G ops F r st0 (p.length+1) next:=by
 have hs:=callOp_spec hsy hc hdt hok hout
 obtain⟨g',sy',p',x1,x2,x3,x4,x5⟩:=reK_sound h5 hr hp hsy hs
 exact⟨g',_,p',_,x1,x2,x3,sy_call hc hdt x4,x5⟩
theorem dop_sound{ρ:Type}{F:Fin' ρ}{g:T P G ρ}{s st0:St}{p:J6}{sy:List Nat}{next:T P G ρ->St->J6->List Nat->C}{r:ρ}
  (h:dop P G id ops p.length g s p sy next=g.expect F) (hr:g.run=some r) (hp:P8 P G ops p st0 s) (hsy:V2 sy s):Goes P G ops F r st0 (p.length+1) next:=by
 have pl:dflt P G ops p.length g s p sy next=g.expect F->Goes P G ops F r st0 (p.length+1) next:=(by grind [dflt_sound,Z6])
 cases g<;>simp only[dop] at h<;>try exact pl h
 case fail=>simp[T.run] at hr
 case chk a c k=>
  split at h
  ·split at h
   ·rename_i c' ws hc
    simp only[T.expect,C.chk.injEq] at h
    obtain⟨rfl,h2⟩:=h
    simp only[T.run] at hr
    cases c' with
    | false=>simp at hr
    | true=>
     obtain⟨g',sy',p',x1,x2,x3,x4,x5⟩:=reK_sound h2 hr hp hsy (chkOp_spec hc rfl)
     exact⟨g',_,p',sy',x1,x2,x3,x4,x5⟩
   grind [Z6,absurd]
  ·exact pl h
 case re a w k=>
  split at h
  ·split at h
   ·rename_i R ws hrw
    simp only[T.expect,C.re.injEq] at h
    obtain⟨h1,h2⟩:=h
    have e:ws=w.b:=h1.trans w.h
    subst e
    exact⟨k,_,_,_,h2,hr,hp.push (stepRW_spec hrw),hsy.step w.dat,by simp⟩
   grind [Z6,absurd]
  ·exact pl h
 case row α a ty l j c k=>
  split at h
  ·split at h
   ·rename_i rows j' c' f hro
    simp only[T.expect,C.row.injEq,heq_eq_eq,true_and] at h
    obtain⟨rfl,rfl,rfl,h4⟩:=h
    simp only[T.run] at hr
    cases c' with
    | false=>simp at hr
    | true=>
     simp only[cond_true] at hr
     split at hr
     ·rename_i x hx
      have h5:=congrFun h4 x
      split at h5
      ·rename_i ws hws
       have hrow:(l.map ty.c)[j']?=some (ty.c x):=by grind
       obtain⟨g',sy',p',x1,x2,x3,x4,x5⟩:=reK_sound h5 hr hp hsy (rowOp_spec hro rfl hrow hws)
       exact⟨g',_,p',sy',x1,x2,x3,x4,x5⟩
      grind [Z6,absurd]
     ·simp at hr
   grind [Z6,absurd]
  ·exact pl h
 case app α a ty l x bytes fl hf k=>
  split at h
  ·split at h
   ·rename_i A hA
    simp only[T.expect,C.app.injEq] at h
    obtain⟨h1,h2,h3,h4,h5,h6⟩:=h
    simp only[T.run] at hr
    cases hc:decide ((l.length+x.length) * bytes<=140737488355328) with
    | false=>grind
    | true=>
     rw[hc] at hr
     simp only[cond_true] at hr
     have hb:(l.length+x.length) * A.bytes<=140737488355328:=by grind
     have hs:=appOp_spec hA h1 h2 h3 (λe=>⟨appOp_fl hA e,hf (by rw[<-h5];exact e)⟩) hb
     refine⟨k,_,_,_,h6,hr,hp.push hs,hsy.step (λi k hm hi=>?_),by simp⟩
     simp only[we] at hi
     subst hi
     simp only[zU,zT,wg,or_false,Wr.b.injEq,zp,true_and,reduceCtorEq] at hm
     rcases hm with hm|hm|hm
     ·unfold delW at hm;grind
     ·unfold delW at hm;grind
     ·subst hm;exact ty.data _
   grind [Z6,absurd]
  ·exact pl h
 case call α a sp Li Lo k=>
  split at h
  ·split at h
   ·rename_i dst f as ins hc
    simp only[T.expect,C.call.injEq,heq_eq_eq,true_and] at h
    obtain⟨rfl,h2,rfl,h4⟩:=h
    simp only[T.run] at hr
    split at hr
    ·rename_i x hx
     have h5:=congrFun h4 x
     split at h5
     ·rename_i hout
      exact call_case hp hsy hc (sp.dat x) (by have:=sp.ok x hx;rw[<-h2] at this;exact this.coe) hout h5 hr
     ·exact absurd h5 (Z6 F _ _)
    ·simp at hr
   ·exact absurd h (Z6 F _ _)
  ·exact pl h
 case call2 α β a sp Li Lo k k2=>
  split at h
  ·split at h
   ·rename_i dst f as ins hc
    simp only[T.expect,C.call2.injEq,heq_eq_eq,true_and] at h
    obtain⟨rfl,h2,rfl,h4,h4b⟩:=h
    simp only[T.run] at hr
    split at hr
    ·rename_i x hx
     have h5:=congrFun h4 x
     split at h5
     ·rename_i hout
      exact call_case hp hsy hc (sp.dat _) (by have:=sp.ok _ hx;rw[<-h2] at this;exact this.coe) hout h5 hr
     ·exact absurd h5 (Z6 F _ _)
    ·rename_i x hx
     have h5:=congrFun h4b x
     split at h5
     ·rename_i hout
      exact call_case hp hsy hc (sp.dat _) (by have:=sp.ok _ hx;rw[<-h2] at this;exact this.coe) hout h5 hr
     ·exact absurd h5 (Z6 F _ _)
    ·simp at hr
   ·exact absurd h (Z6 F _ _)
  ·exact pl h
 case view α a sp vs k=>
  split at h
  ·split at h
   ·split at h
    ·rename_i dst f ds eqs hv
     simp only[T.expect,C.view.injEq,heq_eq_eq,true_and] at h
     obtain⟨rfl,h2,h3,h4⟩:=h
     simp only[T.run] at hr
     split at hr
     ·rename_i x hx
      have h5:=congrFun h4 x
      split at h5
      ·rename_i hfl
       simp only[zC,List.isEmpty_iff] at hfl
       obtain⟨f1,f2,f3⟩:=hfl
       have hok:=sp.ok x hx
       rw[f2,f3,<-h2] at hok
       have hok:=hok.coe
       have hs:=viewOp_spec hv h3 hok f1
       exact⟨_,_,_,_,h5,hr,hp.push hs,λb hb q hq=>hsy b hb q (by
        rw[<-hq];exact(app_b_other (by cases dst<;>simp[dstW,wrBs])).symm),by simp⟩
      ·exact absurd h5 (Z6 F _ _)
     ·simp at hr
    ·exact absurd h (Z6 F _ _)
   ·exact absurd h (Z6 F _ _)
  ·exact pl h
 case opr β a R k=>
  split at h
  ·split at h
   ·rename_i o ho
    split at h
    ·rename_i hfr
     simp only[T.expect,C.rule.injEq,heq_eq_eq,true_and] at h
     obtain⟨h1,h2,h3,h4,h5⟩:=h
     simp only[T.run] at hr
     split at hr
     ·rename_i x hx
      have hs:O2 P G ops p.length s (opR ops p.length s (R.blks.map (·.1))) (R.ws x):=C6 ⟨o,ho,λs2 hn ht hb hu=>R.ok x hx o s2 h1 h2
       (λq hq=>Evs.of (List.map_inj_left.1 h3 q hq) ht)
       (λq hq=>by rw[(hb q.1 (List.mem_append_right _ (zF.2 ⟨q,hq,rfl⟩))).1];exact List.map_inj_left.1 h4 q hq)
       (λd hd=>by
        have hd':o.dst=some d:=h2.trans hd
        rw[hd'] at hfr
        simp only[zC,zG,wi] at hfr
        rw[hn,(hu d hd').2];exact hfr)⟩
      exact⟨_,_,_,_,congrFun h5 x,hr,hp.push hs,hsy.step (R.dat x),by simp⟩
     ·simp at hr
    ·exact absurd h (Z6 F _ _)
   ·exact absurd h (Z6 F _ _)
  ·exact pl h
theorem guardT_spec{i:Nat}{s:St}{d:Nat}{b:Bool}(h:guardT ops i s=some (d,b)):s.setT d (.bool b)=s:=by
 unfold guardT at h
 split at h
 ·split at h
  ·split at h
   ·split at h
    ·rename_i b' hb
     simp only[zp,zJ] at h
     obtain⟨rfl,rfl⟩:=h
     unfold St.setT
     cases s
     simp only[St.mk.injEq,true_and,and_true]
     grind
    ·simp at h
   ·simp at h
  ·simp at h
 ·simp at h
theorem setT_self{s:St}{t:Nat}{c:V}(hb:s.t t=c):s.setT t c=s:=by
 unfold St.setT
 cases s
 simp only[St.mk.injEq,true_and,and_true]
 grind
theorem idxT_spec{i:Nat}{s:St}{t:Nat}{k:IntKind}{m:Int}(h:idxT ops i s=some (t,k,m)):s.setT t (.int k m)=s:=by
 unfold idxT at h
 split at h
 ·split at h
  ·split at h
   ·rename_i hb
    simp only[zp,zJ] at h
    obtain⟨rfl,rfl,rfl⟩:=h
    exact setT_self hb
   ·simp at h
  ·split at h
   ·rename_i hb
    simp only[zp,zJ] at h
    obtain⟨rfl,rfl,rfl⟩:=h
    exact setT_self hb
   ·simp at h
  ·simp at h
 ·simp at h
theorem ceq_sound{m n:Int}{A B:Int->C}:∀(vs:List Int),vs.foldr (λv r=>C.br (m==v) (A v) r) C.fail=vs.foldr (λv r=>C.br (n==v) (B v) r) C.fail->vs.contains n=true->m=n/\A n=B n
 | [],_,h=>by simp at h
 | v :: vs,h,hc=>by
  simp only[List.foldr_cons,C.br.injEq] at h
  obtain⟨h1,h2,h3⟩:=h
  by_cases hn:n=v
  ·grind
  ·refine ceq_sound vs h3 ?_
   grind
def GoesP(P:Program)(G:zd)(ops:Array Oper){ρ:Type}(F:Fin' ρ)(r:ρ)(st0:St)(n:Nat)(κp:Value->T P G ρ->St->J6->List Nat->C):Prop:=
 ∃v g' sy' p s R W,κp v g' (s.app W) (p++[(R,W)]) sy'=g'.expect F/\g'.run=some r/\P8 P G ops p st0 s/\StepLP P G ops p.length s R (.panic (D5 v)) W/\p.length < n/\V2 sy' (s.app W)
theorem along_push(p:J6)(x:List Loc×List Wr)(st:St):W9 (p++[x]) st (p++[x]).length=(W9 p st p.length).app x.2:=by
 simp_all [wM,List.length_singleton,P7,zD,W9,J6.ws]
theorem rg_sound{ρ:Type}{F:Fin' ρ}{r:ρ}{st0:St}{κ:T P G ρ->St->J6->List Nat->C}{κp:Value->T P G ρ->St->J6->List Nat->C}:∀(m:Nat) (g:T P G ρ) (s:St) (p:J6) (sy:List Nat),
  rg P G id ops (List.range' p.length m) g s p sy κ κp=g.expect F->g.run=some r->P8 P G ops p st0 s->V2 sy s->Goes P G ops F r st0 (p.length+m) κ\/GoesP P G ops F r st0 (p.length+m) κp
 | 0,g,s,p,sy,h,hr,hp,hsy=>.inl ⟨g,s,p,sy,h,hr,hp,hsy,rfl⟩
 | m+1,g,s,p,sy,h,hr,hp,hsy=>by
  rw[List.range'_succ] at h
  have next:∀{g':T P G ρ} {s':St} {p':J6} {sy':List Nat} (n1:Nat),n1=p.length+1->rg P G id ops (List.range' n1 m) g' s' p' sy' κ κp=g'.expect F->g'.run=some r->P8 P G ops p' st0 s'->V2 sy' s'->p'.length=p.length+1->
    Goes P G ops F r st0 (p.length+(m+1)) κ\/GoesP P G ops F r st0 (p.length+(m+1)) κp:=by
   intro g' s' p' sy' n1 hn1 x1 x2 x3 x4 x5
   have:=rg_sound m g' s' p' sy' (by rw[x5,<-hn1];exact x1) x2 x3 x4
   grind
  have step:∀(g:T P G ρ) (s:St),P8 P G ops p st0 s->V2 sy s->g.run=some r->∀n1,n1=p.length+1->
    dop P G id ops p.length g s p sy (λg s p' sy=>rg P G id ops (List.range' n1 m) g s p' sy κ κp)=g.expect F->Goes P G ops F r st0 (p.length+(m+1)) κ\/GoesP P G ops F r st0 (p.length+(m+1)) κp:=by
   intro g s hp hsy hr n1 hn1 h
   obtain⟨g',s',p',sy',x1,x2,x3,x4,x5⟩:=dop_sound h hr hp hsy
   grind
  have pl:dop P G id ops p.length g s p sy (λg s p' sy=>rg P G id ops (List.range' (p.length+1) m) g s p' sy κ κp)=g.expect F->Goes P G ops F r st0 (p.length+(m+1)) κ\/GoesP P G ops F r st0 (p.length+(m+1)) κp:=step g s hp hsy hr _ rfl
  cases g<;>try exact pl h
  case br a c x y=>
   simp only[rg] at h
   split at h
   ·split at h
    ·rename_i d b hg
     simp only[T.expect,C.br.injEq] at h
     obtain⟨rfl,h1,h2⟩:=h
     simp only[T.run] at hr
     have e:=guardT_spec hg
     grind
    grind [Z6,absurd]
   ·exact pl h
  case ceq a n vs k=>
   simp only[rg] at h
   split at h
   ·split at h
    ·rename_i t kd m' hg
     simp only[T.expect] at h
     simp only[T.run] at hr
     cases hc:vs.contains n with
     | false=>grind
     | true=>
      rw[hc] at hr
      obtain⟨rfl,h2⟩:=ceq_sound vs h hc
      have e:=idxT_spec hg
      grind
    grind [Z6,absurd]
   ·exact pl h
  case callp α β a sp Li Lo k k2=>
   simp only[rg] at h
   split at h
   ·split at h
    ·rename_i dst f as ins hc
     simp only[T.expect,C.call2.injEq,heq_eq_eq,true_and] at h
     obtain⟨rfl,h2,rfl,h4,h4b⟩:=h
     simp only[T.run] at hr
     split at hr
     ·rename_i x hx
      have h5:=congrFun h4 x
      split at h5
      ·rename_i hout
       obtain⟨g',s',p',sy',x1,x2,x3,x4,x5⟩:=call_case hp hsy hc (sp.dat _) (by have:=sp.ok _ hx;rw[<-h2] at this;exact this.coe) hout (next:=λg s p' sy=>rg P G id ops (List.range' (p.length+1) m) g s p' sy κ κp) (F:=F) (k:=k x) (a:=a) h5 hr
       grind
      grind [Z6,absurd]
     ·rename_i x hx
      have h5:=congrFun h4b x
      split at h5
      ·rename_i hout
       have hok:CallP P G sp.f as (ofL sp.ins) (sp.pan x) (ofL (sp.pouts x)):=by have:=sp.okp _ hx;rw[<-h2] at this;exact this.coe
       have hs:=callOp_specP hsy hc (sp.pdat _) hok hout
       exact .inr ⟨_,_,_,p,s,_,_,h5,hr,hp,hs,by omega,sy_call hc (sp.pdat _) (hsy.step λ_ _ _ h=>by simp at h)⟩
      grind [Z6,absurd]
     ·simp at hr
    grind [Z6,absurd]
   ·exact pl h
  case pan a k=>
   simp only[rg] at h
   split at h
   ·split at h
    ·rename_i v hv
     simp only[T.run] at hr
     exact .inr ⟨v,k,sy,p,s,_,[],h,hr,hp,panOp_spec hv,by omega,hsy⟩
    grind [Z6,absurd]
   ·exact pl h
theorem region_sound{ρ:Type}{F:Fin' ρ}{g:T P G ρ}{r:ρ}{st:St}{sy:List Nat}{κ:T P G ρ->St->J6->List Nat->C}{κp:Value->T P G ρ->St->J6->List Nat->C}(h:rg P G id ops (List.range' 0 ops.size) g st [] sy κ κp=g.expect F)(hr:g.run=some r)(hsy:V2 sy st) :
  (∃g' s p sy',κ g' s p sy'=g'.expect F/\g'.run=some r/\V2 sy' s/\p.length=ops.size/\s=W9 p st ops.size/\∀i,i < ops.size->O2 P G ops i (W9 p st i) (p.rs i) (p.ws i))\/
  (∃v g' sy' p R W,κp v g' ((W9 p st p.length).app W) (p++[(R,W)]) sy'=g'.expect F/\g'.run=some r/\V2 sy' ((W9 p st p.length).app W)/\p.length < ops.size/\(∀i,i < p.length->O2 P G ops i (W9 p st i) (p.rs i) (p.ws i))/\StepLP P G ops p.length (W9 p st p.length) R (.panic (D5 v)) W):=by
 rcases rg_sound (st0:=st) ops.size g st [] sy h hr ⟨rfl,λj hj=>by simp at hj⟩ hsy with⟨g',s,p,sy',x1,x2,x3,x4,x5⟩|⟨v,g',sy',p,s,R,W,x1,x2,x3,x4,x5,x6⟩
 ·simp only[List.length_nil,zX] at x5
  refine .inl ⟨g',s,p,sy',x1,x2,x4,x5,?_,λi hi=>?_⟩
  ·rw[<-x5];exact x3.1
  ·exact x3.2 i (by omega)
 ·simp only[List.length_nil,zX] at x5
  rw[x3.1] at x1 x4 x6
  exact .inr ⟨v,g',sy',p,R,W,x1,x2,x6,x5,x3.2,x4⟩
theorem W3.planTo{Q:Exit->St->Prop}{p:J6}{st:St}{m t:Nat}(h:∀i,i < m->O2 P G ops i (W9 p st i) (p.rs i) (p.ws i))(hq:W3 P G ops (List.range' m t) (W9 p st m) Q) :
  ∀n k,k+n=m->W3 P G ops (List.range' k (n+t)) (W9 p st k) Q
 | 0,k,hk=>by
  grind
 | n+1,k,hk=>by
  rw[show n+1+t=(n+t)+1 by omega,List.range'_succ]
  exact W3.cons (h k (by omega) _ rfl (λl _=>O0.refl _ l)) (W3.planTo h hq n (k+1) (by omega))
theorem TV.planP{rid:Nat}{st s':St}{p:J6}{n:Nat}{ex:Exit}{Q:Exit->St->Prop}(hn:n < ops.size)(hst:∀i,i < n->O2 P G ops i (W9 p st i) (p.rs i) (p.ws i))(hp:StepP P G ops n (W9 p st n) ex s')(hq:Q ex s'):TV P G (.region rid ops false) st Q:=by
 refine TV.region ?_
 have:=W3.planTo (Q:=Q) (t:=ops.size - n) hst (by
  rw[show ops.size - n=(ops.size - n - 1)+1 by omega,List.range'_succ]
  exact W3.stop hp hq) n 0 (by omega)
 rw[List.range_eq_range']
 rw[show n+(ops.size - n)=ops.size by omega] at this
 exact this
theorem TV.plan{draw:Bool}{rid:Nat}{st s:St}{p:J6}{Q:Exit->St->Prop}(hm:P.follows .mixedOrders=true)(hd:(!draw || drawOk ops p)=true)(hs:s=W9 p st ops.size)
  (hst:∀i,i < ops.size->O2 P G ops i (W9 p st i) (p.rs i) (p.ws i)) (hq:Q .normal s):TV P G (.region rid ops draw) st Q:=by
 cases draw with
 | false=>
  refine TV.region ?_
  have:=W3.plan (Q:=Q) hst (by rw[<-hs];exact hq) ops.size 0 (by omega)
  rw[List.range_eq_range'];exact this
 | true=>
  simp only[Bool.not_true,Bool.false_or,drawOk,zC] at hd
  refine TV.draw hm hd.1 hd.2 (λi hi=>?_) ?_
  ·rw[planSt_along,show min i ops.size=i by omega];exact hst i hi
  grind [planSt_all]
end
mutual
theorem O4{u u':zf}(h:∀b,u b=true->u' b=true):∀(c:V),okV u c=true->okV u' c=true
 | .int _ _,_=>rfl
 | .bool _,_=>rfl
 | .str _,_=>rfl
 | .nilp,_=>rfl
 | .nilf,_=>rfl
 | .yld _,_=>rfl
 | .nilsl,_=>rfl
 | .ifc _,_=>rfl
 | .sl _ _ _,_=>rfl
 | .snap _,_=>rfl
 | .undef,_=>rfl
 | .ref b _ _,hc=>by grind [okV]
 | .ptr b _ _,hc=>by grind [okV]
 | .mp b,hc=>by grind [okV]
 | .fn _ a c,hc=>by
  simp only[okV,zC] at hc ⊢
  exact⟨okL_mono h a hc.1,okL_mono h c hc.2⟩
 | .agg l,hc=>by simp only[okV] at hc ⊢;exact okL_mono h l hc
 | .tup l,hc=>by simp only[okV] at hc ⊢;exact okL_mono h l hc
theorem okL_mono{u u':zf}(h:∀b,u b=true->u' b=true):∀(l:List V),okL u l=true->okL u' l=true
 | [],_=>rfl
 | c :: l,hc=>by
  simp only[okL,zC] at hc ⊢
  exact⟨O4 h c hc.1,okL_mono h l hc.2⟩
end
structure D.Ok(d:D):Prop where
 tmp:∀i,okV (okU d.us) (d.st.t i)=true
 blk:∀{b k},d.st.b b=some k->okU d.us b=true/\∀r,r∈k.rows->∀c,c∈r->okV (okU d.us) c=true
 sy:V2 d.sy d.st
theorem D.Ok.of_forget{s:St}{d:D}(f:F7 s d.st)(hsy:V2 d.sy d.st):d.Ok where
 tmp:=λi=>by
  rcases f.t i with e|⟨e,h⟩
  ·rw[e];rfl
  ·rw[e];exact h
 blk:=λ{b k} hk=>by
  rcases f.b b with e|⟨e,h⟩
  ·grind
  ·rw[e] at hk;exact h k hk
 sy:=hsy
theorem N2{α:Type}{l:List (Nat×α)}{i:Nat}{p:Nat×α}(h:l.find? (λx=>x.1==i)=some p):p∈l/\p.1=i:=
 (by grind)
theorem F5{α:Type}{q:zf}{i:Nat}(hq:q i=true):∀l:List (Nat×α),(l.filter λx=>q x.1).find? (λx=>x.1==i)=l.find? (λx=>x.1==i)
 | []=>rfl
 | p :: l=>by
  grind
theorem stOf_t{n:Nat}{ts:List (Nat×V)}{bs:List (Nat×Blk)}{us:List Nat}(i:Nat):(X0 n ts bs us).t i=(match ts.find? (λp=>p.1==i) with|some p=>p.2|none=>.undef):=rfl
theorem stOf_b{n:Nat}{ts:List (Nat×V)}{bs:List (Nat×Blk)}{us:List Nat}(i:Nat):(X0 n ts bs us).b i=(match bs.find? (λp=>p.1==i) with|some p=>some p.2|none=>none):=rfl
theorem okU_top{us:List Nat}{b:Nat}(h:1000000<=b):okU us b=true:=by simp[okU,uTop,h]
theorem D.st_u(d:D):d.st.u=okU d.us:=rfl
theorem D.Ok.of_lists{d:D}(ht:∀p,p∈d.ts->okV (okU d.us) p.2=true)(hb:∀p,p∈d.bs->okU d.us p.1=true/\∀r,r∈p.2.rows->∀c,c∈r->okV (okU d.us) c=true)(hsy:V2 d.sy d.st):d.Ok where
 tmp:=λi=>by
  unfold D.st
  rw[stOf_t]
  split
  ·grind
  ·rfl
 blk:=λ{b k} hk=>by
  unfold D.st at hk
  rw[stOf_b] at hk
  split at hk
  ·grind
  ·simp at hk
 sy:=hsy
theorem dedup_mem:∀(l:List Nat) (x:Nat),x∈dedup l↔x∈l
 | [],x=>by simp[dedup]
 | y :: l,x=>by
  simp only[dedup]
  split
  ·rename_i hc
   rw[dedup_mem l x]
   grind
  ·simp only[zT,dedup_mem l x]
theorem along_t_other{p:J6}{st:St}{t:Nat}(h:¬t∈p.wts):∀n,(W9 p st n).t t=st.t t
 | 0=>rfl
 | n+1=>by
  simp only[W9]
  rw[app_t_other,along_t_other h n]
  intro hm
  by_cases hn:n < p.length
  ·refine h (wI.2 ⟨p[n],List.getElem_mem hn,?_⟩)
   grind [List.getElem?_eq_getElem,J6.ws]
  grind [List.getElem?_eq_none,J6.ws,wrTs]
theorem along_b_other{p:J6}{st:St}{b:Nat}(h:¬b∈p.wbs):∀n,(W9 p st n).b b=st.b b
 | 0=>rfl
 | n+1=>by
  simp only[W9]
  rw[app_b_other,along_b_other h n]
  intro hm
  by_cases hn:n < p.length
  ·refine h (wI.2 ⟨p[n],List.getElem_mem hn,?_⟩)
   grind [List.getElem?_eq_getElem,J6.ws]
  grind [List.getElem?_eq_none,J6.ws,wrBs]
theorem along_n{p:J6}{st:St}:∀n,(W9 p st n).n=st.n
 | 0=>rfl
 | n+1=>by simp only[W9,app_n,along_n n]
theorem regEnd_spec{kp:List Nat}{d:D}{s:St}{p:J6}{sy:List Nat}{next:D->C}{X:C}{m:Nat}(h:regEnd kp d s p sy next=X)(hX:∀j,C.stuck j≠X)(hd:d.Ok)(hs:s=W9 p d.st m)(hsy:V2 sy s) :
  ∃d':D,next d'=X/\d'.Ok/\F7 s d'.st/\d'.n=d.n:=by
 unfold regEnd at h
 simp only[nrmT_eq,nrmB_eq] at h
 split at h
 rotate_left
 ·grind
 rename_i hc
 simp only[zC,zH] at hc
 obtain⟨hnt,hnb⟩:=hc
 refine⟨_,h,?_⟩
 have mu:∀b,okU d.us b=true->okU (dedup (p.wbs++d.us)) b=true:=λb hb=>by
  simp only[okU,wd,wc,zG] at hb ⊢
  grind [dedup_mem,List.mem_append_right]
 have nbm:∀x,x∈newBs p.wbs s->x.1∈p.wbs/\s.b x.1=some x.2:=(by grind [Option.some.injEq,dedup_mem,newBs])
 have nbOk:∀x,x∈newBs p.wbs s->okU (dedup (p.wbs++d.us)) x.1=true/\∀r,r∈x.2.rows->∀c,c∈r->okV (okU (dedup (p.wbs++d.us))) c=true:=λx hx=>by
  obtain⟨h1,h2⟩:=nbm x hx
  refine⟨by simp_all [wd,wc,zG,dedup_mem,wS,okU],λr hr c hc=>?_⟩
  have:=hnb x hx
  simp only[blkOkB,wd,wc,zG,zH] at this
  rcases this with h3|h3
  ·exact R4 (hsy x.1 h3 _ h2 r hr c hc) _
  grind
 have F:F7 s (X0 d.n (newTs kp p.wts s++d.ts.filter λx=>!p.wts.contains x.1) (newBs p.wbs s++d.bs.filter λx=>!p.wbs.contains x.1) (dedup (p.wbs++d.us))):=by
  refine⟨?_,λi=>?_,λb=>?_,λb hb=>okU_top (uPin_le hb)⟩
  ·rw[hs,along_n];rfl
  ·rw[stOf_t,List.find?_append]
   cases hf:(newTs kp p.wts s).find? (λp=>p.1==i) with
   | some x=>
    obtain⟨h1,h2⟩:=N2 hf
    have hx:=hnt x h1
    unfold newTs at h1
    obtain⟨j,_,rfl⟩:=zF.1 h1
    simp only at h2;subst h2
    exact .inr ⟨rfl,hx⟩
   | none=>
    simp only[Option.none_or]
    cases hw:p.wts.contains i with
    | true=>grind
    | false=>
     rw[F5 (q:=λj=>!p.wts.contains j) (by simp only[hw,Bool.not_false])]
     have e:s.t i=d.st.t i:=by grind [along_t_other]
     refine .inr ⟨by rw[e];rfl,?_⟩
     rw[e]
     exact O4 mu _ (hd.tmp i)
  ·rw[stOf_b,List.find?_append]
   cases hf:(newBs p.wbs s).find? (λp=>p.1==b) with
   | some x=>
    obtain⟨h1,h2⟩:=N2 hf
    obtain⟨_,h4⟩:=nbm x h1
    have h5:=nbOk x h1
    rw[h2] at h4 h5
    refine .inr ⟨by grind,λk hk=>?_⟩
    rw[h4] at hk
    simp only[zp] at hk
    subst hk;exact h5
   | none=>
    simp only[Option.none_or]
    cases hw:p.wbs.contains b with
    | true=>grind
    | false=>
     rw[F5 (q:=λj=>!p.wbs.contains j) (by simp only[hw,Bool.not_false])]
     have e:s.b b=d.st.b b:=by grind [along_b_other]
     refine .inr ⟨by rw[e];rfl,λk hk=>?_⟩
     rw[e] at hk
     obtain⟨h1,h2⟩:=hd.blk hk
     exact⟨mu b h1,λr hr c hc=>O4 mu c (h2 r hr c hc)⟩
 refine⟨D.Ok.of_forget F λb hb k hk=>?_,F,rfl⟩
 rcases F.b b with e|⟨e,_⟩
 ·have:(none:Option Blk)=some k:=e.symm.trans hk
  simp at this
 ·exact hsy b hb k (e.symm.trans hk)
end Go.EV
namespace Go.EV
open Go
theorem find_map{α β:Type}(f:Nat->Nat)(h:Nat×α->β)(c c':Nat):∀(l:List (Nat×α)),(∀p,p∈l->(f p.1=c↔p.1=c'))->(l.map λp=>(f p.1,h p)).find? (λx=>x.1==c)=(l.find? λx=>x.1==c').map λp=>(f p.1,h p)
 | [],_=>rfl
 | p :: l,hp=>by
  have ih:=find_map f h c c' l (by grind)
  grind
theorem T5{α β:Type}(h:Nat×α->β)(c:Nat)(l:List (Nat×α)):(l.map λp=>(p.1,h p)).find? (λx=>x.1==c)=(l.find? λx=>x.1==c).map λp=>(p.1,h p):=
 find_map (λx=>x) h c c l λ_ _=>Iff.rfl
theorem D.st_b(d:D)(b:Nat):d.st.b b=(match d.bs.find? (λp=>p.1==b) with|some p=>some p.2|none=>none):=rfl
theorem D.st_t(d:D)(b:Nat):d.st.t b=(match d.ts.find? (λp=>p.1==b) with|some p=>p.2|none=>.undef):=rfl
theorem okU_cons{b:Nat}{us:List Nat}(c:Nat):okU (b :: us) c=if c=b then true else okU us c:=by
 grind [okU]
mutual
theorem okV_ren{u u':zf}{f:Nat->Nat}(h:∀b,u b=true->u' (f b)=true):∀c:V,okV u c=true->okV u' (W5 f c)=true
 | .int _ _,_=>rfl
 | .bool _,_=>rfl
 | .str _,_=>rfl
 | .nilp,_=>rfl
 | .nilf,_=>rfl
 | .yld _,_=>rfl
 | .nilsl,_=>rfl
 | .ifc _,_=>rfl
 | .sl _ _ _,_=>rfl
 | .snap _,_=>rfl
 | .undef,_=>rfl
 | .ref b _ _,hc=>by grind [W5,okV]
 | .ptr b _ _,hc=>by grind [W5,okV]
 | .mp b,hc=>by grind [W5,okV]
 | .fn _ a c,hc=>by
  simp only[W5,okV,zC] at hc ⊢
  exact⟨okL_ren h a hc.1,okL_ren h c hc.2⟩
 | .agg l,hc=>by simp only[W5,okV] at hc ⊢;exact okL_ren h l hc
 | .tup l,hc=>by simp only[W5,okV] at hc ⊢;exact okL_ren h l hc
theorem okL_ren{u u':zf}{f:Nat->Nat}(h:∀b,u b=true->u' (f b)=true):∀l:List V,okL u l=true->okL u' (G3 f l)=true
 | [],_=>rfl
 | c :: l,hc=>by
  simp only[G3,okL,zC] at hc ⊢
  exact⟨okV_ren h c hc.1,okL_ren h l hc.2⟩
end
theorem okL_all{u:zf}:∀{l:List V},okL u l=true↔∀c,c∈l->okV u c=true
 | []=>by simp[okL]
 | c :: l=>by simp[okL,okL_all (l:=l)]
theorem ren_spec{G:zd}{d:D}{a b:Nat}{next:D->C}{X:C}(h:ghX (.ren a b) d next=X)(hX:∀j,C.stuck j≠X)(hd:d.Ok):∃d':D,next d'=X/\d'.Ok/\Gst G d.st d'.st/\d'.n=d.n:=by
 simp only[ghX] at h
 split at h
 rotate_left
 ·grind
 rename_i hub hab
 simp only[beq_eq_false_iff_ne,ne_eq] at hab
 simp only[nrmT_eq,nrmB_eq] at h
 refine⟨_,h,?_⟩
 have hno:∀p,p∈d.bs->p.1≠b:=λp hp e=>by
  cases hf:d.bs.find? (λx=>x.1==b) with
  | none=>grind
  | some q=>
   have:=(hd.blk (b:=b) (k:=q.2) (by rw[D.st_b,hf])).1
   grind
 have hdata:∀p,d.bs.find? (λx=>x.1==p.1)=some p->p.1∈d.sy->U7 p.2.rows:=λp hp hs=>hd.sy p.1 hs p.2 (by rw[D.st_b,hp])
 have fb:∀p,p∈d.bs->(M4 a b p.1=b↔p.1=a):=(by grind [M4,absurd])
 have key:∀c c',(∀p,p∈d.bs->(M4 a b p.1=c↔p.1=c'))->(match (d.bs.map λp=>(M4 a b p.1,renB d.sy p.1 (M4 a b) p.2)).find? (λx=>x.1==c) with|some p=>some p.2|none=>none)=(d.st.b c').map (Blk.ren (M4 a b)):=λc c' hc=>by
  rw[find_map (M4 a b) (λp=>renB d.sy p.1 (M4 a b) p.2) c c' d.bs hc,D.st_b]
  cases hf:d.bs.find? (λx=>x.1==c') with
  | none=>rfl
  | some p=>
   simp only[wu]
   rw[renB_eq (by grind)]
 have e:(D.st ⟨d.n,d.ts.map λp=>(p.1,W5 (M4 a b) p.2),d.bs.map λp=>(M4 a b p.1,renB d.sy p.1 (M4 a b) p.2),b :: d.us,(d.sy.filter λx=>!(x==b)).map (M4 a b)⟩)=d.st.renm a b:=by
  unfold D.st St.renm
  simp only[X0,St.mk.injEq,true_and]
  refine⟨funext λi=>?_,funext λc=>?_,funext λc=>?_⟩
  ·rw[T5 (λp=>W5 (M4 a b) p.2)]
   cases d.ts.find? (λx=>x.1==i)<;>rfl
  ·by_cases hcb:c=b
   ·subst hcb
    rw[if_pos rfl]
    exact key c a fb
   ·rw[if_neg hcb]
    by_cases hca:c=a
    ·subst hca
     rw[if_pos rfl]
     have:(d.bs.map λp=>(M4 c b p.1,renB d.sy p.1 (M4 c b) p.2)).find? (λx=>x.1==c)=none:=List.find?_eq_none.2 λx hx hxe=>by
      obtain⟨p,hp,rfl⟩:=zF.1 hx
      simp only[M4,beq_iff_eq] at hxe
      grind
     rw[this]
    ·rw[if_neg hca]
     refine key c c λp hp=>?_
     unfold M4
     grind
  grind
 have mu:∀c,okU d.us c=true->okU (b :: d.us) (M4 a b c)=true:=(by grind [okU_cons,M4,okU])
 refine⟨⟨λi=>?_,λ{c k} hk=>?_,?_⟩,?_,rfl⟩
 ·rw[e];exact okV_ren mu _ (hd.tmp i)
 ·rw[e] at hk
  simp only[St.renm] at hk
  have go:∀y k0,d.st.b y=some k0->okU (b :: d.us) (M4 a b y)=true/\∀r,r∈(k0.ren (M4 a b)).rows->∀c,c∈r->okV (okU (b :: d.us)) c=true:=λy k0 h0=>by
   obtain⟨h1,h2⟩:=hd.blk h0
   refine⟨mu _ h1,λr hr c hc=>?_⟩
   simp only[Blk.ren] at hr
   obtain⟨r0,hr0,rfl⟩:=zF.1 hr
   rw[renL_eq] at hc
   obtain⟨c0,hc0,rfl⟩:=zF.1 hc
   grind [okV_ren]
  by_cases hcb:c=b
  ·subst hcb
   rw[if_pos rfl] at hk
   obtain⟨k0,h1,rfl⟩:=zw.1 hk
   grind [M4]
  ·rw[if_neg hcb] at hk
   split at hk
   ·simp at hk
   ·rename_i hca
    obtain⟨k0,h1,rfl⟩:=zw.1 hk
    grind [M4]
 ·rw[e]
  intro x hx k hk
  obtain⟨y,hy,rfl⟩:=zF.1 hx
  obtain⟨hy1,hy2⟩:=List.mem_filter.1 hy
  simp only[wi,beq_eq_false_iff_ne,ne_eq] at hy2
  have src:∃k0,d.st.b y=some k0/\k=k0.ren (M4 a b):=by
   simp only[St.renm] at hk
   by_cases hya:y=a
   ·subst hya
    have e2:M4 y b y=b:=by simp[M4]
    rw[e2,if_pos rfl] at hk
    grind [Option.map_eq_some_iff]
   ·have e2:M4 a b y=y:=by simp[M4,hya]
    rw[e2,if_neg hy2,if_neg hya] at hk
    grind [Option.map_eq_some_iff]
  obtain⟨k0,h1,rfl⟩:=src
  have:=hd.sy y hy1 k0 h1
  rw[this.ren];exact this
 ·rw[e]
  exact Gst.renm hab hub
theorem drop_spec{G:zd}{d:D}{l:List Nat}{next:D->C}{X:C}(h:ghX (.drop l) d next=X)(hX:∀j,C.stuck j≠X)(hd:d.Ok):∃d':D,next d'=X/\d'.Ok/\Gst G d.st d'.st/\d'.n=d.n:=by
 simp only[ghX] at h
 split at h
 rotate_left
 ·grind
 rename_i hall
 simp only[zH,zC] at hall
 refine⟨_,h,?_⟩
 have blkOk:∀p,p∈d.bs.filter (λp=>!l.contains p.1)->d.bs.find? (λx=>x.1==p.1)=some p->∀r,r∈p.2.rows->∀c,c∈r->okV (okU (d.us.filter λb=>!l.contains b)) c=true:=λp hp hf r hr c hc=>by
  have:=(hall p hp).2
  simp only[blkOkB,wd,wc,zG,zH] at this
  rcases this with h1|h1
  ·exact R4 (hd.sy p.1 h1 p.2 (by rw[D.st_b,hf]) r hr c hc) _
  grind
 have F:F7 d.st (X0 d.n (d.ts.filter λp=>okV (okU (d.us.filter λb=>!l.contains b)) (d.st.t p.1)) (d.bs.filter λp=>!l.contains p.1) (d.us.filter λb=>!l.contains b)):=by
  refine⟨rfl,λi=>?_,λb=>?_,λb hb=>okU_top (uPin_le hb)⟩
  ·rw[stOf_t]
   cases hq:okV (okU (d.us.filter λb=>!l.contains b)) (d.st.t i) with
   | false=>grind
   | true=>
    rw[F5 (q:=λj=>okV (okU (d.us.filter λb=>!l.contains b)) (d.st.t j)) hq]
    exact .inr ⟨rfl,hq⟩
  ·rw[stOf_b]
   cases hq:(!l.contains b) with
   | false=>grind
   | true=>
    rw[F5 (q:=λj=>!l.contains j) hq]
    refine .inr ⟨rfl,λk hk=>?_⟩
    rw[D.st_b] at hk
    split at hk
    ·rename_i p hp
     simp only[zp] at hk
     subst hk
     obtain⟨h1,rfl⟩:=N2 hp
     have hm:p∈d.bs.filter λp=>!l.contains p.1:=(by grind)
     exact⟨(hall p hm).1,blkOk p hm hp⟩
    ·simp at hk
 refine⟨D.Ok.of_forget F λb hb k hk=>?_,Gst.forget F,rfl⟩
 rcases F.b b with e|⟨e,_⟩
 ·have:(none:Option Blk)=some k:=e.symm.trans hk
  simp at this
 ·exact hd.sy b hb k (e.symm.trans hk)
theorem mapO_some_map{f:V->Option V}{g:V->V}:∀{l r:List V},M7 f l=some r->(∀c,c∈l->f c=some (g c))->r=l.map g
 | [],r,h,_=>by grind [M7]
 | c :: l,r,h,hg=>by
  simp only[M7,hg c (by simp)] at h
  split at h
  ·rename_i y r' h1 h2
   simp only[zp] at h h1
   subst h1 h
   rw[mapO_some_map h2 λc hc=>hg c (by simp[hc])];rfl
  ·simp at h
theorem onlyCell_dcell{look:ze}{c:V}(h:H2 c=true):A8 (D0 look 1 c)=some c.strip:=by
 cases c<;>simp_all [H2,D0,A8,V.strip]
 obtain⟨rfl,rfl⟩:=h
 simp[M7]
theorem Ty.d_eq{α:Type}(t:Ty α)(x:α):t.d x=(t.c x).map V.strip:=
 mapO_some_map (t.vw (λ_=>none) x) λc hc=>onlyCell_dcell (zH.1 (t.cd x) c hc)
theorem K7.strip{lim:Nat->Nat}{w:World}{c:V}{v:Value}(h:K7 lim w c v):K7 lim w c.strip v:=by
 cases c<;>try exact h
 exact h.unown
theorem Ty.repD{α:Type}(t:Ty α){lim:Nat->Nat}{w:World}{o:Bool}{z:Nat}{l:List α}{v:Value}(h:K7 lim w (.sl o z (l.map t.c)) v):K7 lim w (.sl false z (l.map t.d)) v:=by
 have e:l.map t.d=(l.map t.c).map (·.map V.strip):=by
  rw[wD];exact wB λx _=>t.d_eq x
 have hlen:(l.map t.d).length=(l.map t.c).length:=by simp
 generalize hg:l.map t.c=rows at h e hlen
 cases h with
 | sl _ _ _ B o cap vs h1 h2 h3 h4=>
  have:=K7.sl (lim:=lim) (w:=w) false z (l.map t.d) B o cap vs (by grind) (by grind) (by grind) (λi c hc=>by
    rw[e,P1,zV,zw] at hc
    obtain⟨c0,k1,rfl⟩:=hc
    exact(h4 i c0 k1).strip)
  grind
 | slNil _ _ a=>
  rw[e];exact .slNil false z a
theorem shD_good{st:St}{b:Nat}{k:Blk}{α:Type}{t:Ty α}{l:List α}:∀(n:Nat) (c:V),(∀e,e∈shE b k.rows n c->k.rows.take e.2.2=l.map t.c)->ShGood st b k (shD b k.size (l.map t.d) n) c
 | 0,c,_=>λγ γ' w bs' u' h1 h2 map v hr=>by
  show Rep γ' w bs' u' .undef v
  exact .undef v
 | n+1,c,he=>λγ γ' w bs' u' h1 h2 map v hr=>by
  have ih:=shD_good (st:=st) (b:=b) (k:=k) (t:=t) (l:=l) n
  have sub:∀(cs:List V),(∀e,e∈cs.flatMap (shE b k.rows n)->k.rows.take e.2.2=l.map t.c)->∀(vs:List Value),vs.length=cs.length->(∀(i:Nat) (c:V) (v:Value),cs[i]?=some c->vs[i]?=some v->Rep γ w st.b st.u c v)->
    ∀(i:Nat) (c:V) (v:Value),(cs.map (shD b k.size (l.map t.d) n))[i]?=some c->vs[i]?=some v->Rep γ' w bs' u' c v:=λcs hcs vs hl hv i c v hc hx=>by
   rw[zV,zw] at hc
   obtain⟨c0,k1,rfl⟩:=hc
   exact ih c0 (λe hee=>(by grind)) γ γ' w bs' u' h1 h2 map v (hv i c0 v k1 hx)
  cases c<;>simp only[shD]
  case ref b' off len=>
   split
   ·rename_i hb
    have hb':b'=b:=by simpa using hb
    subst hb'
    split
    ·have hl:k.rows.take len=l.map t.c:=he (b',k.rows,len) (by simp[shE])
     have:=map (.ref b' 0 len) v hr
     simp only[shV,if_true,List.drop_zero] at this
     rw[hl] at this
     cases this with
     | data h=>exact .data (t.repD h)
    ·
     cases hr with
     | data h=>cases h
     | ref=>exact .deadRef _ _ _ _ h1 h2 rfl
     | refE=>exact .deadRef _ _ _ _ h1 h2 rfl
     | refN=>exact .deadRef _ _ _ _ h1 h2 rfl
     | deadRef _ _ _ _ _ _ h3=>exact .deadRef _ _ _ _ h1 h2 h3
   ·rename_i hb
    have:=map (.ref b' off len) v hr
    simp_all [if_neg,shV]
  case fn f x y=>
   obtain⟨fs,cs,rfl,l1,l2,p1,p2⟩:=hr.fn_inv
   simp only[shE] at he
   exact .fn f _ _ fs cs (by simpa using l1) (by simpa using l2) (sub x (λe hee=>(by grind)) fs l1 p1) (sub y (λe hee=>(by grind)) cs l2 p2)
  case agg cs=>
   obtain⟨vs,rfl,l1,p1⟩:=hr.agg_inv
   exact .agg _ vs (by simpa using l1) (sub cs he vs l1 p1)
  case tup cs=>
   obtain⟨vs,rfl,l1,p1⟩:=hr.tup_inv
   exact .tup _ vs (by simpa using l1) (sub cs he vs l1 p1)
  all_goals exact map _ v hr
theorem shD_dcell{b z:Nat}{rows:List (List V)}{n:Nat}{c:V}(h:H2 c=true):shD b z rows (n+1) c=c:=by
 cases c<;>simp_all [H2,shD]
theorem shD_own(b z:Nat)(rows:List (List V)):∀(n:Nat) (c:V),(shD b z rows n c).isOwn=true->shD b z rows n c=c
 | 0,c,h=>by simp[shD,V.isOwn] at h
 | n+1,c,h=>by
  cases c<;>simp only[shD] at h ⊢
  all_goals first|(simp[V.isOwn] at h;done)|skip
  grind [V.isOwn]
theorem shD_okV{u u':zf}(h:∀b,u b=true->u' b=true)(b z:Nat)(rows:List (List V)):∀(n:Nat) (c:V),okV u c=true->okV u' (shD b z rows n c)=true
 | 0,c,_=>rfl
 | n+1,c,hc=>by
  have ih:=shD_okV h b z rows n
  have lst:∀l:List V,okL u l=true->okL u' (l.map (shD b z rows n))=true:=λl hl=>okL_all.2 λc hc=>by
   obtain⟨c0,h0,rfl⟩:=zF.1 hc
   grind [okL_all]
  cases c<;>simp only[shD,okV,zC] at hc ⊢
  case ref b' off len=>
   split
   ·split
    ·rfl
    ·exact h _ hc
   ·exact h _ hc
  case ptr=>exact h _ hc
  case mp=>exact h _ hc
  case fn f x y=>grind
  case agg l=>exact lst l hc
  grind
theorem share_spec{G:zd}{d:D}{v:VwW}{vn:Nat}{next:D->C}{X:C}(h:ghX (.share v vn) d next=X)(hX:∀j,C.stuck j≠X)(he:ghE (.share v vn) d=List.replicate (vn+1) v.eqn)(hd:d.Ok) :
  ∃d':D,next d'=X/\d'.Ok/\Gst G d.st d'.st/\d'.n=d.n:=by
 simp only[ghX] at h
 split at h
 rotate_left
 ·grind
 rename_i k hk
 split at h
 rotate_left
 ·grind
 rename_i hdat
 simp only[nrmT_eq,nrmB_eq] at h
 refine⟨_,h,?_⟩
 simp only[ghE,hk] at he
 have hdata:U7 k.rows:=by
  simp only[wd,wc,zG,zH] at hdat
  rcases hdat with h1|h1
  ·exact hd.sy v.b h1 k hk
  ·exact λr hr c hc=>h1 r hr c hc
 let g:=shD v.b k.size (v.l.map v.ty.d) 6
 have rowsE:∀(n:Nat) (c:V) (e:Nat×List (List V)×Nat),e∈shE v.b k.rows n c->e.2.1=k.rows:=by
  intro n
  induction n with
  | zero=>grind [shE]
  | succ n ih=>
   intro c e h
   have fl:∀l:List V,e∈l.flatMap (shE v.b k.rows n)->e.2.1=k.rows:=(by grind)
   cases c<;>simp only[shE,wg] at h
   case ref b' off len=>
    grind
   case fn f x y=>
    grind
   case agg l=>exact fl _ h
   grind
 let E:=(d.ts.flatMap λp=>shE v.b k.rows 6 p.2)++d.bs.flatMap λp=>match p.1==v.b || d.sy.contains p.1 with
   | true=>[]
   | false=>p.2.rows.flatMap λr=>r.flatMap (shE v.b k.rows 6)
 have hE:E=List.replicate (vn+1) v.eqn:=he
 have allRows:∀e,e∈E->e.2.1=k.rows:=λe hm=>by
  rcases zU.1 hm with hm|hm
  ·grind
  ·obtain⟨p,_,hx⟩:=wI.1 hm
   split at hx
   ·simp at hx
   ·obtain⟨r,_,hx⟩:=wI.1 hx
    obtain⟨c,_,hx⟩:=wI.1 hx
    grind
 have hlens:∀e,e∈E->k.rows.take e.2.2=v.l.map v.ty.c:=λe hm=>by
  have h1:=allRows e hm
  rw[hE] at hm
  obtain rfl:=(List.mem_replicate.1 hm).2
  rw[<-h1];exact v.h
 have good:∀c,(∀e,e∈shE v.b k.rows 6 c->e∈E)->ShGood d.st v.b k g c:=(by grind [shD_good])
 have goodData:∀c,H2 c=true->ShGood d.st v.b k g c:=λc hc γ γ' w bs' u' h1 h2 map x hr=>by
  show Rep γ' w bs' u' (shD v.b k.size (v.l.map v.ty.d) (5+1) c) x
  rw[shD_dcell hc]
  have:=map c x hr
  cases c<;>first|exact this|simp[H2] at hc
 have e:(D.st ⟨d.n,d.ts.map (λp=>(p.1,shD v.b k.size (v.l.map v.ty.d) 6 p.2)),shareBs d v k,v.b :: d.us,d.sy⟩)=d.st.shr v.b g:=by
  unfold D.st St.shr
  simp only[X0,St.mk.injEq,true_and]
  refine⟨funext λi=>?_,funext λc=>?_,funext λc=>okU_cons c⟩
  ·rw[T5 (λp=>shD v.b k.size (v.l.map v.ty.d) 6 p.2)]
   cases d.ts.find? (λx=>x.1==i)<;>rfl
  ·unfold shareBs
   rw[T5]
   by_cases hc:c=v.b
   ·grind
   ·rw[if_neg hc,F5 (q:=λj=>!(j==v.b)) (by simpa using hc)]
    cases hf:d.bs.find? (λx=>x.1==c) with
    | none=>rfl
    | some p=>
     simp only[wu,zp]
     split
     ·rename_i hs
      have hdr:U7 p.2.rows:=hd.sy p.1 (by simpa using hs) p.2 (by rw[D.st_b,(N2 hf).2,hf])
      have:p.2.rows.map (·.map g)=p.2.rows:=by
       conv=>rhs;rw[<-List.map_id p.2.rows]
       refine wB λr hr=>?_
       show r.map g=r
       conv=>rhs;rw[<-List.map_id r]
       exact wB λc hc=>shD_dcell (hdr r hr c hc)
      simp_all
     ·rfl
 have gs:=Gst.shr (G:=G) (st:=d.st) hk hdata (g:=g) (λi=>by
   rw[D.st_t]
   split
   ·grind
   ·exact λγ γ' w bs' u' _ _ _ v _=>.undef v)
  (λx q hx hq r hr c hc=>by
   rw[D.st_b] at hq
   split at hq
   ·rename_i p hp
    simp only[zp] at hq
    subst hq
    obtain⟨hp1,rfl⟩:=N2 hp
    cases hs:d.sy.contains p.1 with
    | true=>exact goodData c (hd.sy p.1 (by simpa using hs) p.2 (by rw[D.st_b,hp]) r hr c hc)
    | false=>
     refine good c λe hm=>List.mem_append_right _ (wI.2 ⟨p,hp1,?_⟩)
     grind
   ·simp at hq) (shD_own _ _ _ 6)
 have mu:∀c,okU d.us c=true->okU (v.b :: d.us) c=true:=(by grind [okU_cons])
 refine⟨⟨λi=>?_,λ{c q} hq=>?_,λx hx q hq=>?_⟩,by grind,rfl⟩
 ·rw[e];exact shD_okV mu _ _ _ 6 _ (hd.tmp i)
 ·rw[e] at hq
  simp only[St.shr] at hq
  split at hq
  ·simp at hq
  obtain⟨q0,h0,rfl⟩:=zw.1 hq
  obtain⟨h1,h2⟩:=hd.blk h0
  refine⟨mu _ h1,λr hr c hc=>?_⟩
  obtain⟨r0,hr0,rfl⟩:=zF.1 hr
  obtain⟨c0,hc0,rfl⟩:=zF.1 hc
  grind [shD_okV]
 ·rw[e] at hq
  simp only[St.shr] at hq
  split at hq
  ·simp at hq
  obtain⟨q0,h0,rfl⟩:=zw.1 hq
  have hdr:=hd.sy x hx q0 h0
  intro r hr c hc
  obtain⟨r0,hr0,rfl⟩:=zF.1 hr
  obtain⟨c0,hc0,rfl⟩:=zF.1 hc
  have:=hdr r0 hr0 c0 hc0
  grind [shD_dcell]
theorem virtC_spec{G:zd}{d:D}{b x j size:Nat}{next:D->C}{X:C}(h:ghX (.virtC b x j size) d next=X)(hX:∀j,C.stuck j≠X)(hd:d.Ok):∃d':D,next d'=X/\d'.Ok/\Gst G d.st d'.st/\d'.n=d.n:=by
 simp only[ghX] at h
 split at h
 rotate_left
 ·grind
 rename_i k hk hub hsy
 simp only[Bool.or_eq_false_iff,Bool.not_eq_false',zG] at hub
 obtain⟨hub,hM⟩:=hub
 split at h
 rotate_left
 ·grind
 rename_i r rs hrows
 split at h
 rotate_left
 ·grind
 rename_i hcell
 refine⟨_,h,?_⟩
 have hxb:x≠b:=λe=>by subst e;have:=(hd.blk hk).1;grind
 have hsx:¬x∈d.sy:=by grind
 let d':D:={ d with bs:=(b,⟨size,true,[]⟩) :: (x,setCell k j (.ref b 0 0)) :: d.bs.filter (λp=>!(p.1==x)),us:=b :: d.us }
 have bb:d'.st.b b=some ⟨size,true,[]⟩:=by simp[D.st_b,d']
 have bx:d'.st.b x=some (setCell k j (.ref b 0 0)):=by
  grind [D.st_b,List.find?_cons_of_neg,List.find?_cons_of_pos]
 have bo:∀c,c≠b->c≠x->d'.st.b c=d.st.b c:=λc h1 h2=>by
  rw[D.st_b,D.st_b]
  simp only[d']
  rw[List.find?_cons_of_neg (by simpa using λe=>h1 e.symm),List.find?_cons_of_neg (by simpa using λe=>h2 e.symm),F5 (q:=λj=>!(j==x)) (by simpa using h2)]
 have hbn:d.st.b b=none:=by
  cases hb:d.st.b b with
  | none=>rfl
  | some q=>have:=(hd.blk hb).1;grind
 have hset:(setCell k j (.ref b 0 0)).rows=r.set j (.ref b 0 0) :: rs:=by simp[setCell,hrows]
 have mu:∀c,okU d.us c=true->okU (b :: d.us) c=true:=(by grind [okU_cons])
 have g2:Gst G (d.st.setB b ⟨size,true,[]⟩) d'.st:=by
  refine Gst.cells rfl (funext λc=>?_) (λi=>Wk.refl _) λc=>?_
  ·exact okU_cons c
  ·by_cases hcb:c=b
   ·subst hcb
    refine .inr ⟨⟨size,true,[]⟩,⟨size,true,[]⟩,by simp[St.setB],bb,rfl,rfl,rfl,λi r' h=>by simp at h⟩
   ·by_cases hcx:c=x
    ·subst hcx
     refine .inr ⟨k,setCell k j (.ref b 0 0),by simp[St.setB,hcb,hk],bx,rfl,rfl,by grind,λi r' hr'=>?_⟩
     rw[hset] at hr'
     rw[hrows]
     cases i with
     | zero=>
      simp only[wO,zp] at hr'
      subst hr'
      refine⟨r,rfl,by simp,λq c' hc'=>?_⟩
      by_cases hq:q=j
      ·subst hq
       have hlt:q < r.length:=(by grind)
       rw[List.getElem?_set_self hlt] at hc'
       simp only[zp] at hc'
       subst hc'
       refine⟨.nilsl,hcell,λγ w v hv=>?_,(by grind)⟩
       have:=hv.nilsl_inv;subst this
       exact .refN b 0 ⟨size,true,[]⟩ bb hM rfl
      ·rw[wX (λe=>hq e.symm)] at hc'
       exact⟨c',hc',Wk.refl _,λ_=>.inl rfl⟩
     | succ i=>
      simp only[List.getElem?_cons_succ] at hr'
      exact⟨r',by simpa using hr',rfl,λq c' hc'=>⟨c',hc',Wk.refl _,λ_=>.inl rfl⟩⟩
    ·cases hc:d.st.b c with
     | none=>grind [St.setB]
     | some q=>
      exact .inr ⟨q,q,by simp[St.setB,hcb,hc],by rw[bo c hcb hcx,hc],rfl,rfl,rfl,λi r' hr'=>⟨r',hr',rfl,λp c' hc'=>⟨c',hc',Wk.refl _,λ_=>.inl rfl⟩⟩⟩
 refine⟨⟨λi=>O4 mu _ (hd.tmp i),λ{c q} hq=>?_,λc hc q hq=>?_⟩,(Gst.addB size hub).trans g2,rfl⟩
 ·have hq':d'.st.b c=some q:=hq
  by_cases hcb:c=b
  ·subst hcb
   rw[bb] at hq';simp only[zp] at hq';subst hq'
   exact⟨by simp[okU],λr hr=>by simp at hr⟩
  ·by_cases hcx:c=x
   ·subst hcx
    rw[bx] at hq';simp only[zp] at hq';subst hq'
    obtain⟨h1,h2⟩:=hd.blk hk
    refine⟨mu _ h1,λr' hr' c' hc'=>?_⟩
    rw[hset] at hr'
    simp only[zT] at hr'
    rcases hr' with rfl|hr'
    ·rcases qb hc' with hc'|rfl
     ·exact O4 mu _ (h2 r (by simp[hrows]) c' hc')
     ·simp[okV,okU]
    ·exact O4 mu _ (h2 r' (by simp[hrows,hr']) c' hc')
   ·rw[bo c hcb hcx] at hq'
    obtain⟨h1,h2⟩:=hd.blk hq'
    exact⟨mu _ h1,λr hr c hc=>O4 mu _ (h2 r hr c hc)⟩
 ·have hq':d'.st.b c=some q:=hq
  by_cases hcb:c=b
  ·subst hcb
   rw[bb] at hq';simp only[zp] at hq';subst hq'
   intro r hr;simp at hr
  ·have hcx:c≠x:=λe=>hsx (e▸hc)
   rw[bo c hcb hcx] at hq'
   exact hd.sy c hc q hq'
theorem coeV_ok{u:zf}:∀(n:Nat) (e c:V),okV u c=true->okV u (A3 n e c)=true
 | 0,_,_,h=>h
 | n+1,e,c,h=>by
  have lst:∀(es cs:List V),okL u cs=true->okL u (T7 (A3 n) es cs)=true:=by
   intro es cs
   induction cs generalizing es with
   | nil=>intro h;cases es<;>exact h
   | cons c cs ih=>
    intro h
    cases es with
    | nil=>exact h
    | cons e es=>
     simp only[T7,okL,zC] at h ⊢
     exact⟨coeV_ok n e c h.1,ih es h.2⟩
  cases c<;>simp only[A3]<;>try exact h
  case nilsl=>split<;>rfl
  case sl=>split<;>rfl
  case agg cs=>
   grind [okV]
  grind [okV]
theorem coeR_ok{u:zf}:∀(es cs:List (List V)),(∀r,r∈cs->∀c,c∈r->okV u c=true)->∀r,r∈coeR es cs->∀c,c∈r->okV u c=true
 | [],cs,h=>by cases cs<;>exact h
 | _ :: _,[],_=>(by grind [coeR])
 | e :: es,c :: cs,h=>λr hr x hx=>by
  simp only[coeR,zT] at hr
  rcases hr with rfl|hr
  ·obtain⟨i,hi⟩:=List.getElem?_of_mem hx
   obtain⟨y,h1,h2⟩:=coeL_get _ _ _ _ _ hi
   have hy:=h c (by simp) y (zO h1)
   rcases h2 with rfl|⟨e',rfl⟩
   ·exact hy
   grind [coeV_ok]
  ·exact coeR_ok es cs (by grind) r hr x hx
theorem tell_spec{G:zd}{d:D}{b:Nat}{es:List (List V)}{next:D->C}{X:C}(h:ghX (.tell b es) d next=X)(hX:∀j,C.stuck j≠X)(hd:d.Ok):∃d':D,next d'=X/\d'.Ok/\Gst G d.st d'.st/\d'.n=d.n:=by
 simp only[ghX] at h
 split at h
 rotate_left
 ·grind
 rename_i k hk hsy
 simp only[nrmB_eq] at h
 have hsb:¬b∈d.sy:=by grind
 let d':D:={ d with bs:=(b,⟨k.size,k.excl,coeR es k.rows⟩) :: d.bs.filter (λp=>!(p.1==b)) }
 have bb:d'.st.b b=some ⟨k.size,k.excl,coeR es k.rows⟩:=by simp[D.st_b,d']
 have bo:∀c,c≠b->d'.st.b c=d.st.b c:=λc h1=>by
  rw[D.st_b,D.st_b]
  grind
 refine⟨d',h,⟨λi=>hd.tmp i,λ{c q} hq=>?_,λc hc q hq=>?_⟩,Gst.cells rfl rfl (λi=>Wk.refl _) λc=>?_,rfl⟩
 ·by_cases hcb:c=b
  ·subst hcb
   rw[bb] at hq;simp only[zp] at hq;subst hq
   obtain⟨h1,h2⟩:=hd.blk hk
   grind [coeR_ok]
  ·rw[bo c hcb] at hq
   exact hd.blk hq
 ·have hcb:c≠b:=λe=>hsb (e▸hc)
  rw[bo c hcb] at hq
  exact hd.sy c hc q hq
 ·by_cases hcb:c=b
  ·subst hcb
   exact .inr ⟨k,_,hk,bb,rfl,rfl,coeR_rel _ _⟩
  ·cases hc:d.st.b c with
   | none=>grind
   | some q=>exact .inr ⟨q,q,rfl,by grind,rfl,rfl,M1.same (λc=>CoeR.same c) _⟩
theorem virt_spec{G:zd}{d:D}{b t size:Nat}{next:D->C}{X:C}(h:ghX (.virt b t size) d next=X)(hX:∀j,C.stuck j≠X)(hd:d.Ok):∃d':D,next d'=X/\d'.Ok/\Gst G d.st d'.st/\d'.n=d.n:=by
 simp only[ghX] at h
 split at h
 rotate_left
 ·grind
 rename_i ht hu
 simp only[Bool.or_eq_false_iff,Bool.not_eq_false',zG] at hu
 obtain⟨hu,hM⟩:=hu
 have mu:∀c,okU d.us c=true->okU (b :: d.us) c=true:=(by grind [okU_cons])
 have e:(D.st { d with ts:=(t,.ref b 0 0) :: d.ts.filter (λx=>!(x.1==t)),bs:=(b,⟨size,true,[]⟩) :: d.bs,us:=b :: d.us })=(d.st.setB b ⟨size,true,[]⟩).setT t (.ref b 0 0):=by
  unfold D.st St.setB St.setT
  simp only[X0,St.mk.injEq,true_and]
  grind
 refine⟨_,h,⟨λi=>?_,λ{c q} hq=>?_,λc hc q hq=>?_⟩,by rw[e];exact Gst.virtT size hM hu ht,rfl⟩
 ·rw[e]
  show okV _ (if i=t then _ else d.st.t i)=true
  split
  ·simp[okV,okU]
  ·exact O4 mu _ (hd.tmp i)
 ·rw[e] at hq
  have hq':(if c=b then some (⟨size,true,[]⟩:Blk) else d.st.b c)=some q:=hq
  split at hq'
  ·grind [Option.some.injEq,okU]
  ·obtain⟨h1,h2⟩:=hd.blk hq'
   grind [O4]
 ·rw[e] at hq
  have hq':(if c=b then some (⟨size,true,[]⟩:Blk) else d.st.b c)=some q:=hq
  split at hq'
  ·simp only[zp] at hq'
   subst hq'
   intro r hr;simp at hr
  ·exact hd.sy c hc q hq'
theorem R2{α:Type}{f:α->α}{l:List α}(h:∀x,x∈l->f x=x):l.map f=l:=by
 have:l.map f=l.map id:=wB λx hx=>h x hx
 simp_all
theorem lnD_id{b m:Nat}:∀(n:Nat) (c:V),(∀e,e∈shE b [] n c->e.2.2=m)->lnD b m n c=c
 | 0,_,_=>rfl
 | n+1,c,h=>by
  cases c<;>simp only[lnD]<;>try rfl
  case ref b' off len=>
   simp only[shE] at h
   split
   ·rename_i hb
    rw[hb] at h
    cases off with
    | zero=>simp_all
    | succ o=>rfl
   ·rfl
  case fn f x y=>
   simp only[shE] at h
   rw[R2 λc hc=>lnD_id n c λe he=>(by grind),R2 λc hc=>lnD_id n c λe he=>(by grind)]
  case agg l=>
   simp only[shE] at h
   rw[R2 λc hc=>lnD_id n c λe he=>(by grind)]
  case tup l=>
   simp only[shE] at h
   rw[R2 λc hc=>lnD_id n c λe he=>(by grind)]
theorem len_spec{G:zd}{d:D}{b m:Nat}{ns:List Nat}{hn:∀n,n∈ns->n=m}{next:D->C}{X:C}(h:ghX (.len b m ns hn) d next=X)(he:ghE (.len b m ns hn) d=ns.map λn=>(b,[],n))(hd:d.Ok) :
  ∃d':D,next d'=X/\d'.Ok/\Gst G d.st d'.st/\d'.n=d.n:=by
 simp only[ghX,nrmT_eq,nrmB_eq] at h
 have key:∀e,e∈ghE (.len b m ns hn) d->e.2.2=m:=(by grind)
 simp only[ghE] at key
 have e1:(d.ts.map λp=>(p.1,lnD b m 6 p.2))=d.ts:=R2 λp hp=>by
  rw[lnD_id 6 p.2 λe he=>(by grind)]
 have e2:d.bs.map (lnB d.sy b m)=d.bs:=R2 λp hp=>by
  have hk:∀e,e∈lnEB d.sy b p->e.2.2=m:=λe he=>key e (by grind)
  unfold lnEB at hk
  unfold lnB
  split
  ·rfl
  ·rename_i hs
   rw[hs] at hk
   have:p.2.rows.map (·.map (lnD b m 6))=p.2.rows:=R2 λr hr=>R2 λc hc=>lnD_id 6 c λe he=>hk e (wI.2 (by grind))
   rw[this]
 rw[e1,e2] at h
 exact⟨d,h,hd,λγ _ w hs=>⟨γ,hs,.refl γ w,.refl hs.u⟩,rfl⟩
theorem ghX_spec{G:zd}{d:D}{w:GhW}{next:D->C}{X:C}(h:ghX w d next=X)(hX:∀j,C.stuck j≠X)(he:ghE w d=w.eqs)(hd:d.Ok):∃d':D,next d'=X/\d'.Ok/\Gst G d.st d'.st/\d'.n=d.n:=by
 cases w with
 | virt d t size=>exact virt_spec h hX hd
 | virtC d b j size=>exact virtC_spec h hX hd
 | ren a b=>exact ren_spec h hX hd
 | share v n=>exact share_spec h hX he hd
 | drop l=>exact drop_spec h hX hd
 | tell b es=>exact tell_spec h hX hd
 | len b m ns hn=>exact len_spec h he hd
theorem coeV_okV{u:zf}:∀(n:Nat) (e c:V),okV u (A3 n e c)=true->okV u c=true
 | 0,_,_,h=>h
 | n+1,e,c,h=>by
  have lst:∀(es cs:List V),okL u (T7 (A3 n) es cs)=true->okL u cs=true:=by
   intro es cs
   induction cs generalizing es with
   | nil=>intro _;rfl
   | cons c cs ih=>
    intro h
    cases es with
    | nil=>exact h
    | cons e es=>
     simp only[T7,okL,zC] at h ⊢
     exact⟨coeV_okV n e c h.1,ih es h.2⟩
  cases c<;>simp only[A3] at h<;>try exact h
  case nilsl=>rfl
  case sl=>rfl
  case agg cs=>
   grind [okV]
  grind [okV]
theorem coeR_okV{u:zf}:∀(es cs:List (List V)),(∀r,r∈coeR es cs->∀c,c∈r->okV u c=true)->∀r,r∈cs->∀c,c∈r->okV u c=true
 | [],cs,h=>by cases cs<;>exact h
 | _ :: _,[],_=>λr hr=>by simp at hr
 | e :: es,c :: cs,h=>λr hr=>by
  simp only[zT] at hr
  rcases hr with rfl|hr
  ·have h0:okL u (T7 (A3 8) e r)=true:=(by grind [okL_all,coeR])
   have:∀(es cs:List V),okL u (T7 (A3 8) es cs)=true->okL u cs=true:=by
    intro es cs
    induction cs generalizing es with
    | nil=>intro _;rfl
    | cons c cs ih=>
     intro h
     cases es with
     | nil=>exact h
     | cons e es=>
      simp only[T7,okL,zC] at h ⊢
      grind [coeV_okV]
   grind [okL_all]
  ·exact coeR_okV es cs (by grind [coeR]) r hr
def extGoal(x:Ext)(n:Nat):Exit->St->Prop:=λe s=>e=x.ex/\s.n=n/\extTs x s=x.ts/\extBs x s=x.bs.map λp=>(p.1,some p.2)
theorem R3{G:zd}{x:Ext}{s:St}(hok:x.ok=true)(ht:extTs x s=x.ts)(hb:extBs x s=x.bs.map λp=>(p.1,some p.2)):Gst G s (x.D s.n).st:=by
 simp only[Ext.ok,zC,zH] at hok
 have htp:∀p,p∈x.ts->A3 8 p.2 (s.t p.1)=p.2:=λp hp=>by
  have:=List.map_inj_left.1 (show x.ts.map (λp=>(p.1,A3 8 p.2 (s.t p.1)))=x.ts.map (λp=>(p.1,p.2)) from ht.trans (by simp)) p hp
  grind
 have hbp:∀p,p∈x.bs->coeB x.dt p.1 p.2 (s.b p.1)=some p.2:=λp hp=>by
  have:=List.map_inj_left.1 hb p hp
  grind
 have hbs:∀p,p∈x.bs->∃k,s.b p.1=some k/\k.size=p.2.size/\k.excl=p.2.excl/\(p.1∈x.dt->k=p.2)/\(¬p.1∈x.dt->coeR p.2.rows k.rows=p.2.rows):=λp hp=>by
  have:=hbp p hp
  unfold coeB at this
  split at this
  ·grind
  ·rename_i hd
   obtain⟨k,h1,h2⟩:=zw.1 this
   grind
 let kOf:Nat×Blk->Blk:=λp=>match s.b p.1 with|some k=>k|none=>p.2
 have hkOf:∀p,p∈x.bs->s.b p.1=some (kOf p):=(by grind)
 let s0:=X0 s.n (x.ts.map λp=>(p.1,s.t p.1)) (x.bs.map λp=>(p.1,kOf p)) x.us
 have F:F7 s s0:=by
  refine forget_to rfl ?_ ?_ ?_ ?_ ?_
  ·simp_all
  ·refine zH.2 λq hq=>?_
   obtain⟨p,hp,rfl⟩:=zF.1 hq
   refine coeV_okV 8 p.2 _ ?_
   show okV _ (A3 8 p.2 (s.t p.1))=true
   rw[htp p hp]
   exact hok.1 p hp
  ·grind [List.map_map,List.map_congr_left]
  ·refine zH.2 λq hq=>?_
   obtain⟨p,hp,rfl⟩:=zF.1 hq
   show okU x.us p.1=true
   simp only[okU,Ext.us,wd,wc,zG]
   grind
  ·intro q hq r hr c hc
   obtain⟨p,hp,rfl⟩:=zF.1 hq
   obtain⟨k,h1,h2,h3,h4,h5⟩:=hbs p hp
   have hk:kOf p=k:=by grind
   simp only[hk] at hr
   by_cases hd:p.1∈x.dt
   ·rw[h4 hd] at hr
    exact R4 (x.dat p hp hd r hr c hc) _
   ·have:=hok.2 p hp
    simp only[blkOkB,wd,wc,zG,zH] at this
    have hall:=this.resolve_left hd
    exact coeR_okV p.2.rows k.rows (by rw[h5 hd];exact hall) r hr c hc
 refine(Gst.forget F).trans (Gst.cells rfl rfl (λi=>?_) λb=>?_)
 ·show Wk _ _ (s0.t i) ((X0 s.n x.ts x.bs x.us).t i)
  simp only[s0,stOf_t]
  rw[T5 (λp=>s.t p.1)]
  cases hf:x.ts.find? (λp=>p.1==i) with
  | none=>exact Wk.refl _
  | some p=>
   simp only[wu]
   have:=htp p (N2 hf).1
   grind [coeV_wk]
 ·show (s0.b b=none/\(X0 s.n x.ts x.bs x.us).b b=none)\/_
  simp only[s0,stOf_b]
  rw[T5 kOf]
  cases hf:x.bs.find? (λp=>p.1==b) with
  | none=>grind
  | some p=>
   simp only[wu]
   obtain⟨k,h1,h2,h3,h4,h5⟩:=hbs p (N2 hf).1
   have hk:kOf p=k:=by grind
   rw[hk]
   refine .inr ⟨k,p.2,rfl,?_,h2.symm,h3.symm,?_⟩
   ·show (X0 s.n x.ts x.bs x.us).b b=_
    rw[stOf_b,hf]
   ·by_cases hd:p.1∈x.dt
    ·rw[h4 hd]
     exact⟨rfl,λi r' h=>⟨r',h,rfl,λj c' hc=>⟨c',hc,Wk.refl _,λ_=>.inl rfl⟩⟩⟩
    ·have:=coeR_rel (bs:=(x.D s.n).st.b) (u:=(x.D s.n).st.u) p.2.rows k.rows
     grind
end Go.EV
