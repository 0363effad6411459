/- Part X4. -/
import Derived.Test.YtjdieimefebnfaaGreatDoorX3
set_option linter.all false
namespace Go.EV
open Go
structure D where
 n:Nat
 ts:List (Nat×V)
 bs:List (Nat×Qd)
 us:List Nat
 sy:List Nat
def D.st(d:D):St:=D2 d.n d.ts d.bs d.us
inductive Kf where
 | seq (y:Code)
 | block (id:Nat)
 | scope
 | lp (c:Code)
mutual
def nrm:Nat->V->(V->C)->C
 | 0,v,k=>k v
 | n+1,v,k=>match v with
  | .int a b=>k (.int a b)
  | .bool b=>k (.bool b)
  | .str s=>k (.str s)
  | .Zi=>k .Zi
  | .Zd=>k .Zd
  | .QP l=>k (.QP l)
  | .Qu=>k .Qu
  | .Zu x=>k (.Zu x)
  | .sl o z r=>k (.sl o z r)
  | .snap l=>FN n l λl=>k (.snap l)
  | .ref b o l=>k (.ref b o l)
  | .ptr b i o=>k (.ptr b i o)
  | .fn f a c=>FN n a λa=>FN n c λc=>k (.fn f a c)
  | .agg l=>FN n l λl=>k (.agg l)
  | .Qc l=>FN n l λl=>k (.Qc l)
  | .undef=>k .undef
  | .mp b=>k (.mp b)
def FN:Nat->List V->(List V->C)->C
 | 0,l,k=>k l
 | n+1,l,k=>match l with
  | []=>k []
  | v :: l=>nrm n v λv=>FN n l λl=>k (v :: l)
end
def gC:List (List V)->(List (List V)->C)->C
 | [],k=>k []
 | r :: rs,k=>FN 1000 r λr=>gC rs λrs=>k (r :: rs)
def Ry:List (Nat×V)->(List (Nat×V)->C)->C
 | [],k=>k []
 | (i,v) :: l,k=>nrm 1000 v λv=>Ry l λl=>k ((i,v) :: l)
def Oc(sy:List Nat):List (Nat×Qd)->(List (Nat×Qd)->C)->C
 | [],k=>k []
 | (i,b) :: l,k=>match sy.contains i with
  | true=>match b with|⟨z,x,r⟩=>Oc sy l λl=>k ((i,⟨z,x,r⟩) :: l)
  | false=>match b with|⟨z,x,r⟩=>gC r λr=>Oc sy l λl=>k ((i,⟨z,x,r⟩) :: l)
def oZ(ws:List Wr):List Nat:=ws.filterMap fun|.t i _=>some i|_=>none
def MD(ws:List Wr):List Nat:=ws.filterMap fun|.b i _=>some i|_=>none
def Y6.PU(p:Y6):List Nat:=p.flatMap λx=>oZ x.2
def Y6.Xu(p:Y6):List Nat:=p.flatMap λx=>MD x.2
def pZ(op:BinOp)(k:IntKind)(a b:Int):Option (Bool×V):=
 match op with
 | .quo=>some (!(b==0),.int k (k.wrap (a.tdiv b)))
 | .rem=>some (!(b==0),.int k (a.tmod b))
 | .shl=>some (decide (0<=b),.int k (k.wrap (a * 2 ^ (min b.toNat k.bits))))
 | .shr=>some (decide (0<=b),.int k (a.fdiv (2 ^ (min b.toNat k.bits))))
 | _=>none
def loC(lo:Option V)(h:Nat):Option (Bool×Nat):=
 match lo with
 | none=>some (true,0)
 | some (.int _ l)=>some (decide (0<=l)&&decide (l<=h),l.toNat)
 | _=>none
def hiC(n:Nat)(hi mx:Option V):Option (Bool×Nat):=
 match hi,mx with
 | none,none=>some (true,n)
 | some (.int _ h),none=>some (decide (0<=h)&&decide (h<=n),h.toNat)
 | some (.int _ h),some (.int _ m)=>some (decide (0<=h)&&(decide (h<=m)&&decide (m<=n)),h.toNat)
 | _,_=>none
def xE(n:Nat)(lo hi mx:Option V):Option (Bool×Nat×Nat):=
 match hiC n hi mx with
 | some (c1,h)=>match loC lo h with
  | some (c2,l)=>some (match hi,mx,lo with|none,none,_=>c2|_,_,none=>c1|_,_,_=>c1&&c2,l,h)
  | none=>none
 | none=>none
def PG(P:Program)(look:zj)(t:TypeId)(c:V)(lo hi mx:Option V):Option (Bool×V):=
 match P.underlying t with
 | some .string=>match c,mx with
  | .str s,none=>(xE s.size lo hi none).map λx=>(x.1,.str (s.extract x.2.1 x.2.2))
  | _,_=>none
 | some (.slice e)=>match P.info? e with
  | none=>none
  | some ei=>match c with
   | .sl _ size rows=>if size=ei.size then (xE rows.length lo hi mx).map λx=>(x.1,.sl false size ((rows.take x.2.2).drop x.2.1)) else none
   | .ref b off len=>match look b with
    | some k=>if k.size=ei.size/\mx.isNone=true then (xE len lo hi none).map λx=>(x.1,.ref b (match off with|0=>x.2.1|o+1=>o+1+x.2.1) (x.2.2 - x.2.1)) else none
    | none=>none
   | _=>none
 | _=>none
def uG(P:Program)(e:Operand->Option V)(look:zj)(op:Op):Option (Bool×V):=
 match op with
 | .binOp op _ x y _=>match e x,e y with
  | some (.int k a),some (.int k' b)=>match op with
   | .shl|.shr=>pZ op k a b
   | _=>if k=k' then pZ op k a b else none
  | some (.str a),some (.str b)=>match op with
   | .add=>some (decide (a.size+b.size<=9223372036854775807),.str (a++b))
   | _=>none
  | _,_=>none
 | .index t x i=>match P.underlying t,e x,e i with
  | some .string,some (.str s),some (.int _ i)=>some (decide (0<=i/\i < s.size),.int .u8 (s.data.getD i.toNat 0).toNat)
  | _,_,_=>none
 | .indexAddr t x i=>match P.underlying t,e x,e i with
  | some (.slice el),some (.ref b off len),some (.int _ n)=>match P.info? el with
   | some ei=>match look b with
    | some k=>if k.size=ei.size then some (decide (0<=n)&&decide (n < len),.ptr b (off+n.toNat) 0) else none
    | none=>none
   | none=>none
  | _,_,_=>none
 | .slice t x lo hi mx=>match e x,rL e lo,rL e hi,rL e mx with
  | some c,some l,some h,some m=>PG P look t c l h m
  | _,_,_,_=>none
 | _=>none
def xP(P:Program)(G:zi)(ops:Array Oper)(i:Nat)(s:St):Option (Bool×List Wr):=
 match Ud ops i s with
 | some o=>if W2 s.n o.dst=true then (uG P (s.DP G o) (s.QO o []) o.op).map λx=>(x.1,Mb o.dst x.2) else none
 | none=>none
def Ch(P:Program)(G:zi)(ops:Array Oper)(i:Nat)(s:St):Option (List (List V)×Nat×Bool×(List V->Option (List Wr))):=
 match Ud ops i s with
 | some o=>match o.op,o.dst with
  | .indexAddr t x j,some d=>if d < s.n then match s.DP G o x,s.DP G o j with
    | some (.sl _ size rows),some (.int _ n)=>if Xv P t=some size then some (rows,n.toNat,decide (0<=n),λr=>some [.t d (.snap r)]) else none
    | _,_=>none
   else none
  | .load t x,some d=>if d < s.n then match s.DP G o x with
    | some (.ptr b r off)=>match s.QO o [] b with
     | some k=>some (k.rows,r,true,λrow=>(N5 P t (row.drop off)).map λc=>[.t d c])
     | none=>none
    | _=>none
   else none
  | .store t x y,none=>match s.DP G o x,s.DP G o y with
   | some (.ptr b r off),some c=>match s.QO o [] b with
    | some k=>if k.Ql=true then some (k.rows,r,true,λrow=>(WL P t k.size row off c).map λr'=>[.b b (some ⟨k.size,true,k.rows.set r (Ym (X5 8) row r')⟩)]) else none
    | none=>none
   | _,_=>none
  | _,_=>none
 | none=>none
structure pI where
 d:Nat
 b:Option Nat
 rows:List (List V)
 len:Nat
 Ql:Bool
 sb:Option Nat
 ZS:List (List V)
 size:Nat
 bytes:Nat
 fl:Bool
def aI(look:zj)(size:Nat)(c:V):Option (Option Nat×List (List V)×Nat×Bool):=
 match c with
 | .Qu=>some (none,[],0,true)
 | .ref b 0 len=>match look b with
  | some k=>if k.size=size then some (some b,k.rows,len,k.Ql) else none
  | none=>none
 | _=>none
def BK(look:zj)(size:Nat)(dst:Option Nat)(c:V):Option (Option Nat×List (List V)×Bool):=
 match c with
 | .Qu=>some (none,[],false)
 | .sl _ z rows=>if z=size then some (none,rows,true) else none
 | .ref b 0 len=>match look b with
  | some k=>if k.size=size/\len=k.rows.length/\¬dst=some b then some (some b,k.rows,false) else none
  | none=>none
 | _=>none
def LU(P:Program)(G:zi)(ops:Array Oper)(ex:List Nat)(i:Nat)(s:St):Option pI:=
  match Ud ops i s with
  | some o=>match o.op,o.dst with
    | .call { callee:=.builtin .append,args:=as,argTypes:=ts },some d=>if d < s.n/\s.u d=false then match as.toList,ts.toList with
        | [x,y],[t,t2]=>match s.DP G o x,s.DP G o y,P.underlying t,P.underlying t2 with
          | some cx,some cy,some (.slice e),some (.slice _)=>match P.info? e with
            | some ei=>if 0 < ei.bytes/\(zeroV P e).map List.length=some ei.size then match aI (s.QO o ex) ei.size cx with
                | some (b,rows,len,Ql)=>match BK (s.QO o ex) ei.size b cy with
                  | some (sb,ZS,fl)=>some ⟨d,b,rows,len,Ql,sb,ZS,ei.size,ei.bytes,fl⟩
                  | none=>none
                | none=>none
              else none
            | none=>none
          | _,_,_,_=>none
        | _,_=>none
      else none
    | _,_=>none
  | none=>none
def Qdj(P:Program)(G:zi)(ops:Array Oper)(col i:Nat)(s:St):Option (List (List V)×Nat×(List V->Option (List Wr))):=
  match Ud ops i s with
  | some o=>match o.op,o.dst with
    | .load t x,some d=>if d < s.n/\s.u d=false then match s.DP G o x with
        | some (.ptr b r off)=>match s.QO o [] b with
          | some k=>match Qyy P t with
            | false=>some (k.rows,r,λrow=>match row[off]? with
              | some (.sl true z rs)=>if z < J0 then some [.b b (some ⟨k.size,k.Ql,k.rows.set r (row.set off (.sl false z rs))⟩),.b d (some ⟨z,false,rs.map (·.map V.strip)⟩),.t d (.ref d 0 rs.length)] else none
              | _=>none)
            | true=>match P.info? t with
              | some ti=>some (k.rows,r,λrow=>match row[col]? with
                | some (.sl true z rs)=>if off<=col/\off+ti.size<=row.length/\(P.underlying t).isSome=true/\z < J0 then
                    some [.b b (some ⟨k.size,k.Ql,k.rows.set r (row.set col (.sl false z rs))⟩),.b d (some ⟨z,false,rs.map (·.map V.strip)⟩),.t d (.agg (((row.set col (.ref d 0 rs.length)).drop off).take ti.size))]
                  else none
                | _=>none)
              | none=>none
          | none=>none
        | _=>none
      else none
    | _,_=>none
  | none=>none
def Qia(P:Program)(G:zi)(ops:Array Oper)(hole:List V)(fin:List (List V))(col i:Nat)(s:St):Option (Nat×Qd×Nat×Nat×Qd×Nat×Nat×List V):=
  match Ud ops i s with
  | some o=>match o.op,o.dst with
    | .store t x y,none=>match s.DP G o x,s.DP G o y with
      | some (.ptr b r off),some c=>match s.QO o [] b with
        | some k=>if k.Ql=true then match WL P t k.size hole off c with
            | some r'=>match r'[col]? with
              | some (.ref d2 off2 len)=>match s.QO o [] d2 with
                | some kd=>if b=d2\/J0<=k.size then none else some (b,k,r,d2,kd,off2,len,r'.set col (.sl true kd.size fin))
                | none=>none
              | _=>none
            | none=>none
          else none
        | none=>none
      | _,_=>none
    | _,_=>none
  | none=>none
def MR(sy:List Nat)(b:Nat)(f:Nat->Nat)(k:Qd):Qd:=match sy.contains b with
 | true=>k
 | false=>k.Qb f
def Qim(L:List (Nat×Nat))(b:Nat):Bool:=L.any λx=>x.2==b
def pH(L:List (Nat×Nat))(b:Nat):Bool:=L.any λx=>x.1==b
def JP(P:Program)(G:zi)(ops:Array Oper)(Li Lo:List (Nat×Nat))(sy:List Nat)(i:Nat)(s:St):Option (Option Nat×FuncId×List V×List (Nat×Qd)):=
 match Er P G ops ((Li++Lo).map (·.2)) Li Lo [] i s with
 | some (dst,f,as,bl,_)=>
  if (DN Li Lo []&&bl.all λx=>sy.contains (J8 (Li++Lo) x.1) || (D0 x.2.rows.flatten).all (Qim Li))=true then
   some (dst,f,as,bl.map λx=>(x.1,MR sy (J8 (Li++Lo) x.1) (J6 (Li++Lo)) x.2))
  else none
 | none=>none
def JI(L:List (Nat×Nat))(dt:List Nat)(O:List (Nat×Qd))(res:V):Bool:=
 (O.all λx=>pH L x.1&&(dt.contains x.1 || (D0 x.2.rows.flatten).all (pH L)))&&(K1 res).all (pH L)
def R9(L:List (Nat×Nat))(dt:List Nat)(O:List (Nat×Qd))(dst:Option Nat)(res:V):List Wr:=
 (L.map λx=>Wr.b x.2 ((Qm O x.1).map (MR dt x.1 (J8 L))))++Mb dst (W3 (J8 L) res)
def HF(L:List (Nat×Nat))(dt:List Nat):List Nat:=(L.filter λx=>dt.contains x.1).map (·.2)
def KZ(look:zj)(vs:List Zb):Nat->V->Option V
 | 0,_=>none
 | n+1,c=>match c with
  | .ref b off len=>match vs.find? (λv=>v.b==b) with
   | some v=>match off with
    | 0=>match n with
     | 0=>none
     | _+1=>(look b).map λk=>.sl false k.size (v.l.map v.ty.d)
    | _+1=>none
   | none=>D4 look (n+1) (.ref b off len)
  | .ptr b i off=>match look b with
   | some k=>match k.rows[i]? with
    | some r=>(M4 (λc=>O3 (KZ look vs n c)) (r.drop off)).map .snap
    | none=>none
   | none=>none
  | .fn f a c=>match M4 (KZ look vs n) a,M4 (KZ look vs n) c with
   | some a',some c'=>some (.fn f a' c')
   | _,_=>none
  | .agg l=>(M4 (KZ look vs n) l).map .agg
  | .Qc l=>(M4 (KZ look vs n) l).map .Qc
  | c=>D4 look (n+1) c
def C3(look:zj)(vs:List Zb):Nat->V->List (Nat×List (List V)×Nat)
 | 0,_=>[]
 | n+1,c=>match c with
  | .ref b _ len=>match vs.find? (λv=>v.b==b) with
   | some _=>match look b with
    | some k=>[(b,k.rows,len)]
    | none=>[]
   | none=>[]
  | .ptr b i off=>match look b with
   | some k=>match k.rows[i]? with
    | some r=>(r.drop off).flatMap (C3 look vs n)
    | none=>[]
   | none=>[]
  | .fn _ a c=>a.flatMap (C3 look vs n)++c.flatMap (C3 look vs n)
  | .agg l=>l.flatMap (C3 look vs n)
  | .Qc l=>l.flatMap (C3 look vs n)
  | _=>[]
def PK(P:Program)(G:zi)(ops:Array Oper)(ex:List Nat)(vs:List Zb)(i:Nat)(s:St):Option (Option Nat×FuncId×List V×List (Nat×List (List V)×Nat)):=
 match IF P G ops i s with
 | some (o,f,cs)=>match Quf vs with
  | true=>(M4 (KZ (s.QO o ex) vs 8) cs).map λds=>(o.dst,f,ds,cs.flatMap (C3 (s.QO o ex) vs 8))
  | false=>none
 | none=>none
def reach(look:zj):Nat->List Nat->List Nat
 | 0,bs=>bs
 | n+1,bs=>bs++reach look n (bs.flatMap λb=>match look b with|some k=>D0 (k.rows.headD [])|none=>[])
def HU:List (List V)->List (List V)->List (List V)
 | e :: es,c :: cs=>Ym (X5 8) e c :: HU es cs
 | _,cs=>cs
def GQ(sy:List Nat)(sb:Option Nat)(e rows:List (List V)):List (List V):=match sb with
 | some b=>match sy.contains b with
  | true=>rows
  | false=>HU e rows
 | none=>rows
def YB(sy:List Nat)(ws:List Wr)(told:List Nat):List Nat:=(told.filter λb=>(MD ws).contains b)++sy.filter λb=>!(MD ws).contains b
section
variable (P:Program) (G:zi)
def iO(a:Nat){ρ:Type}(k:T P G ρ)(R:List Loc)(ws:List Wr)(s:St)(p:Y6)(sy:List Nat)(next:T P G ρ->St->Y6->List Nat->C):C:=
 match k with
 | .re a' w k'=>match a'==a with
  | true=>.re ws (next k' (s.app w.b) (p++[(R,w.b)]) (YB sy w.b w.dt))
  | false=>next k (s.app ws) (p++[(R,ws)]) (YB sy ws [])
 | k=>next k (s.app ws) (p++[(R,ws)]) (YB sy ws [])
def Dg(ops:Array Oper)(i:Nat){ρ:Type}(g:T P G ρ)(s:St)(p:Y6)(sy:List Nat)(next:T P G ρ->St->Y6->List Nat->C):C:=
 match HN P G ops i s with
 | some (R,ws)=>next g (s.app ws) (p++[(R,ws)]) (YB sy ws [])
 | none=>.stuck (1000+i)
def qL(id:Nat)(ops:Array Oper)(i:Nat){ρ:Type}(g:T P G ρ)(s:St)(p:Y6)(sy:List Nat)(next:T P G ρ->St->Y6->List Nat->C):C:=
 match g with
 | .fail=>.fail
 | .Qa a c k=>match a==id * 1000+i+1 with
  | true=>match xP P G ops i s with
   | some (c',ws)=>.Qa c' (iO P G a k (MW ops i s []) ws s p sy next)
   | none=>.stuck 1
  | false=>Dg P G ops i (.Qa a c k) s p sy next
 | .re a w k=>match a==id * 1000+i+1 with
  | true=>match HN P G ops i s with
   | some (R,ws)=>.re ws (next k (s.app w.b) (p++[(R,w.b)]) (YB sy w.b w.dt))
   | none=>.stuck 2
  | false=>Dg P G ops i (.re a w k) s p sy next
 | .row a ty l j c k=>match a==id * 1000+i+1 with
  | true=>match Ch P G ops i s with
   | some (rows,j',c',f)=>.row rows j' c' λx=>match f (ty.c x) with
    | some ws=>iO P G a (k x) (MW ops i s []) ws s p sy next
    | none=>.stuck 4
   | none=>.stuck 3
  | false=>Dg P G ops i (.row a ty l j c k) s p sy next
 | .app a ty l x bytes fl hf k=>match a==id * 1000+i+1 with
  | true=>match LU P G ops [] i s with
   | some A=>.app A.rows A.len (GQ sy A.sb (x.map ty.c) A.ZS) A.bytes A.fl (
     let ws:=Gc A.b++(Gc A.sb++[.b A.d (some ⟨A.size,A.Ql,(l++x).map ty.c⟩),.t A.d (.ref A.d 0 (l++x).length)])
     next k (s.app ws) (p++[(MW ops i s [],ws)]) (YB sy ws [A.d]))
   | none=>.stuck 5
  | false=>Dg P G ops i (.app a ty l x bytes fl hf k) s p sy next
 | .Zr a ty l hole j k=>match a==id * 1000+i+1 with
  | true=>match Ch P G ops i s with
   | some (rows,j',c',f)=>match c' with
    | true=>match f hole with
     | some ws=>.Zr rows j' (iO P G a k (MW ops i s []) ws s p sy next)
     | none=>.stuck 4
    | false=>.stuck 3
   | none=>.stuck 3
  | false=>Dg P G ops i (.Zr a ty l hole j k) s p sy next
 | .call a sp Li Lo k=>match a==id * 1000+i+1 with
  | true=>match JP P G ops Li Lo sy i s with
   | some (dst,f,as,ins)=>.call f (Ym (X5 8) sp.args as) ins λr=>match JI (Li++Lo) sp.dt (sp.outs r) (sp.res r) with
    | true=>iO P G a (k r) (MW ops i s ((Li++Lo).map (·.2))) (R9 (Li++Lo) sp.dt (sp.outs r) dst (sp.res r)) s p sy λg s p sy=>next g s p (HF (Li++Lo) sp.dt++sy)
    | false=>.stuck 7
   | none=>.stuck 6
  | false=>Dg P G ops i (.call a sp Li Lo k) s p sy next
 | .call2 a sp Li Lo k k2=>match a==id * 1000+i+1 with
  | true=>match JP P G ops Li Lo sy i s with
   | some (dst,f,as,ins)=>.call2 f (Ym (X5 8) sp.args as) ins (λr=>match JI (Li++Lo) sp.dt (sp.outs (.inl r)) (sp.res (.inl r)) with
    | true=>iO P G a (k r) (MW ops i s ((Li++Lo).map (·.2))) (R9 (Li++Lo) sp.dt (sp.outs (.inl r)) dst (sp.res (.inl r))) s p sy λg s p sy=>next g s p (HF (Li++Lo) sp.dt++sy)
    | false=>.stuck 7) λr=>match JI (Li++Lo) sp.dt (sp.outs (.inr r)) (sp.res (.inr r)) with
    | true=>iO P G a (k2 r) (MW ops i s ((Li++Lo).map (·.2))) (R9 (Li++Lo) sp.dt (sp.outs (.inr r)) dst (sp.res (.inr r))) s p sy λg s p sy=>next g s p (HF (Li++Lo) sp.dt++sy)
    | false=>.stuck 7
   | none=>.stuck 6
  | false=>Dg P G ops i (.call2 a sp Li Lo k k2) s p sy next
 | .view a sp vs k=>match a==id * 1000+i+1 with
  | true=>match ops[i]? with
   | some o=>
    let ex:=reach (λb=>match sy.contains b with|true=>none|false=>s.b b) 3 (Ob s o)
    match PK P G ops ex vs i s with
    | some (dst,f,ds,eqs)=>.view f (Ym (X5 8) sp.args ds) eqs λr=>match G6 (sp.res r)&&(sp.ins.isEmpty&&(sp.outs r).isEmpty) with
     | true=>next (k r) (s.app (Mb dst (sp.res r))) (p++[(MW ops i s ex,Mb dst (sp.res r))]) sy
     | false=>.stuck 10
    | none=>.stuck 9
   | none=>.stuck 8
  | false=>Dg P G ops i (.view a sp vs k) s p sy next
 | .Qq a R k=>match a==id * 1000+i+1 with
  | true=>match Ud ops i s with
   | some o=>match (match o.dst with|some d=>decide (d < s.n)&&!(s.u d)|none=>true) with
    | true=>.Qqw o.op o.dst (R.ZN.map λp=>s.DP G o p.1) (R.Zp.map λp=>s.b p.1) λr=>
      next (k r) (s.app (R.ws r)) (p++[(MW ops i s (R.Zp.map (·.1)),R.ws r)]) (YB sy (R.ws r) R.dt)
    | false=>.stuck 15
   | none=>.stuck 14
  | false=>Dg P G ops i (.Qq a R k) s p sy next
 | g=>Dg P G ops i g s p sy next
def Bw(ops:Array Oper)(i:Nat)(s:St):Option (Nat×Bool):=
 match ops[i]? with
 | some o=>match o.guard with
  | some (j,_)=>match (ops[j]?).bind (·.dst) with
   | some d=>match s.t d with
    | .bool b=>some (d,b)
    | _=>none
   | none=>none
  | none=>none
 | none=>none
def Qyj(ops:Array Oper)(i:Nat)(s:St):Option (Nat×IntKind×Int):=
 match ops[i]? with
 | some o=>match o.op with
  | .indexAddr _ _ (.tmp t)=>match s.t t with
   | .int k m=>some (t,k,m)
   | _=>none
  | .index _ _ (.tmp t)=>match s.t t with
   | .int k m=>some (t,k,m)
   | _=>none
  | _=>none
 | none=>none
def uT(P:Program)(G:zi)(ops:Array Oper)(i:Nat)(s:St):Option Value:=
 match Ud ops i s with
 | some o=>match o.op with
  | .panic x=>match s.DP G o x with
   | some (.Zu v)=>match v with
    | .iface t y=>some (.iface t y)
    | _=>none
   | _=>none
  | _=>none
 | none=>none
def rg(id:Nat)(ops:Array Oper):List Nat->{ρ:Type}->T P G ρ->St->Y6->List Nat->(T P G ρ->St->Y6->List Nat->C)->(List PanicEntry->T P G ρ->St->Y6->List Nat->C)->C
 | [],_,g,s,p,sy,κ,_=>κ g s p sy
 | i :: l,_,g,s,p,sy,κ,κp=>match g with
  | .br a c x y=>match a==id * 1000+i+1 with
   | true=>match Bw ops i s with
    | some (d,b)=>.br b (qL P G id ops i x (s.QG d (.bool true)) p sy λg s p sy=>rg id ops l g s p sy κ κp) (qL P G id ops i y (s.QG d (.bool false)) p sy λg s p sy=>rg id ops l g s p sy κ κp)
    | none=>.stuck 20
   | false=>qL P G id ops i (.br a c x y) s p sy λg s p sy=>rg id ops l g s p sy κ κp
  | .Ko a n vs k=>match a==id * 1000+i+1 with
   | true=>match Qyj ops i s with
    | some (t,kd,m)=>vs.foldr (λv r=>.br (m==v) (qL P G id ops i (k v) (s.QG t (.int kd v)) p sy λg s p sy=>rg id ops l g s p sy κ κp) r) .fail
    | none=>.stuck 21
   | false=>qL P G id ops i (.Ko a n vs k) s p sy λg s p sy=>rg id ops l g s p sy κ κp
  | .Qi a sp Li Lo k k2=>match a==id * 1000+i+1 with
   | true=>match JP P G ops Li Lo sy i s with
    | some (dst,f,as,ins)=>.call2 f (Ym (X5 8) sp.args as) ins (λr=>match JI (Li++Lo) sp.dt (sp.outs r) (sp.res r) with
     | true=>iO P G a (k r) (MW ops i s ((Li++Lo).map (·.2))) (R9 (Li++Lo) sp.dt (sp.outs r) dst (sp.res r)) s p sy λg s p sy=>rg id ops l g s p (HF (Li++Lo) sp.dt++sy) κ κp
     | false=>.stuck 7) λr=>match JI (Li++Lo) sp.dt (sp.Zj r) .undef with
     | true=>κp (sp.Hp r) (k2 r) (s.app (R9 (Li++Lo) sp.dt (sp.Zj r) none .undef)) (p++[(MW ops i s ((Li++Lo).map (·.2)),R9 (Li++Lo) sp.dt (sp.Zj r) none .undef)]) (HF (Li++Lo) sp.dt++YB sy (R9 (Li++Lo) sp.dt (sp.Zj r) none .undef) [])
     | false=>.stuck 7
    | none=>.stuck 6
   | false=>qL P G id ops i (.Qi a sp Li Lo k k2) s p sy λg s p sy=>rg id ops l g s p sy κ κp
  | .Hp a k=>match a==id * 1000+i+1 with
   | true=>match uT P G ops i s with
    | some v=>κp (K7 v) k s (p++[(MW ops i s [],[])]) sy
    | none=>.stuck 22
   | false=>qL P G id ops i (.Hp a k) s p sy λg s p sy=>rg id ops l g s p sy κ κp
  | g=>qL P G id ops i g s p sy λg s p sy=>rg id ops l g s p sy κ κp
end
def ZT(us:List Nat)(i:Nat):Bool:=us.contains i || Qw i
def Mv(us sy:List Nat)(p:Nat×Qd):Bool:=sy.contains p.1 || p.2.rows.all λr=>r.all (okV (ZT us))
def CJ(kp wt:List Nat)(s:St):List (Nat×V):=(kp.filter λi=>wt.contains i).map λi=>(i,s.t i)
def dedup:List Nat->List Nat
 | []=>[]
 | x :: l=>match l.contains x with
  | true=>dedup l
  | false=>x :: dedup l
def Lw(wb:List Nat)(s:St):List (Nat×Qd):=(dedup wb).filterMap λb=>match s.b b with
 | some k=>some (b,k)
 | none=>none
def AQ(kp:List Nat)(d:D)(s:St)(p:Y6)(sy:List Nat)(next:D->C):C:=
 let wt:=p.PU
 let wb:=p.Xu
 let us:=dedup (wb++d.us)
 Ry (CJ kp wt s) λnt=>Oc sy (Lw wb s) λnb=>
  match nt.all (λx=>okV (ZT us) x.2)&&nb.all (Mv us sy) with
  | true=>next ⟨d.n,nt++d.ts.filter (λx=>!wt.contains x.1),nb++d.bs.filter (λx=>!wb.contains x.1),us,sy⟩
  | false=>.stuck 30
def Ss(P:Program)(G:zi)(ops:Array Oper)(draw:Bool)(ts:List Nat)(d:D){ρ:Type}(g:T P G ρ)(s:St)(p:Y6):C:=
 match g with
 | .done _=>match (!draw || Mc ops p)&&((p.Xu.all λb=>!(d.bs.any λx=>x.1==b))&&(p.PU.all λt=>(ops.toList.filterMap (·.dst)).contains t)) with
  | true=>.Qjm (ts.map s.t)
  | false=>.stuck 31
 | .fail=>.fail
 | _=>.stuck 32
def Bs(ops:Array Oper)(ts:List Nat)(d:D)(vs:List V):D:=
 { d with ts:=ts.zip vs++d.ts.filter λx=>!(ops.toList.filterMap (·.dst)).contains x.1&&!ts.contains x.1 }
def Ext.us(x:Ext):List Nat:=x.bs.map (·.1)
def Ext.D(n:Nat)(x:Ext):D:=⟨n,x.ts,x.bs,x.us,x.dt⟩
def Ext.ok(x:Ext):Bool:=x.ts.all (λp=>okV (ZT x.us) p.2)&&x.bs.all (Mv x.us x.dt)
def I6:Exit->Bool
 | .normal=>true
 | _=>false
def xO(dt:List Nat)(id:Nat)(e:Qd)(act:Option Qd):Option Qd:=match dt.contains id with
 | true=>act
 | false=>act.map λk=>⟨k.size,k.Ql,HU e.rows k.rows⟩
def KO(x:Ext)(st:St):List (Nat×V):=x.ts.map λp=>(p.1,X5 8 p.2 (st.t p.1))
def KL(x:Ext)(st:St):List (Nat×Option Qd):=x.bs.map λp=>(p.1,xO x.dt p.1 p.2 (st.b p.1))
def Iv(e:Exit)(x:Ext)(d:D):C:=.fin none (some e) (KO x d.st) (KL x d.st)
def fin(P:Program)(G:zi){ρ:Type}(F:YE ρ)(g:T P G ρ)(e:Exit)(d:D):C:=
 match g with
 | .done r=>match F with
  | .fn rs res outs=>match e with
   | .normal|.ret=>.fin ((F1 P d.st rs).map (X5 8 (res r))) none [] ((outs r).map λp=>(p.1,d.st.b p.1))
   | _=>.stuck 41
  | .FB E=>Iv e (E r) d
  | .qI S E=>match r with
   | .inl y=>match I6 e with
    | true=>Iv e (S y) d
    | false=>.stuck 42
   | .inr z=>match I6 e with
    | true=>.stuck 43
    | false=>Iv e (E z) d
  | .reg _ _=>.stuck 44
  | .rE rs res outs _ Zj=>match r with
   | .inl r=>match e with
    | .normal|.ret=>.fin ((F1 P d.st rs).map (X5 8 (res r))) none [] ((outs r).map λp=>(p.1,d.st.b p.1))
    | _=>.stuck 41
   | .inr z=>.fin none (some e) [] ((Zj z).map λp=>(p.1,d.st.b p.1))
 | _=>.stuck 40
def IT(b z:Nat)(rows:List (List V)):Nat->V->V
 | 0,_=>.undef
 | n+1,c=>match c with
  | .ref b' off len=>match b'==b with
   | true=>match off with
    | 0=>.sl false z rows
    | o+1=>.ref b' (o+1) len
   | false=>.ref b' off len
  | .fn f x y=>.fn f (x.map (IT b z rows n)) (y.map (IT b z rows n))
  | .agg l=>.agg (l.map (IT b z rows n))
  | .Qc l=>.Qc (l.map (IT b z rows n))
  | c=>c
def XZ(b:Nat)(rows:List (List V)):Nat->V->List (Nat×List (List V)×Nat)
 | 0,_=>[]
 | n+1,c=>match c with
  | .ref b' off len=>match b'==b with
   | true=>match off with
    | 0=>[(b,rows,len)]
    | _+1=>[]
   | false=>[]
  | .fn _ x y=>x.flatMap (XZ b rows n)++y.flatMap (XZ b rows n)
  | .agg l=>l.flatMap (XZ b rows n)
  | .Qc l=>l.flatMap (XZ b rows n)
  | _=>[]
def iF(b m:Nat):Nat->V->V
 | 0,c=>c
 | n+1,c=>match c with
  | .ref b' off len=>match b'==b with
   | true=>match off with
    | 0=>.ref b' 0 m
    | o+1=>.ref b' (o+1) len
   | false=>.ref b' off len
  | .fn f x y=>.fn f (x.map (iF b m n)) (y.map (iF b m n))
  | .agg l=>.agg (l.map (iF b m n))
  | .Qc l=>.Qc (l.map (iF b m n))
  | c=>c
def lnB(sy:List Nat)(b m:Nat)(p:Nat×Qd):Nat×Qd:=match sy.contains p.1 with
 | true=>p
 | false=>(p.1,⟨p.2.size,p.2.Ql,p.2.rows.map (·.map (iF b m 6))⟩)
def Qy2(sy:List Nat)(b:Nat)(p:Nat×Qd):List (Nat×List (List V)×Nat):=match sy.contains p.1 with
 | true=>[]
 | false=>p.2.rows.flatMap λr=>r.flatMap (XZ b [] 6)
def ghE(w:bG)(d:D):List (Nat×List (List V)×Nat):=
 match w with
 | .share v _=>match d.st.b v.b with
  | some k=>(d.ts.flatMap λp=>XZ v.b k.rows 6 p.2)++d.bs.flatMap λp=>match p.1==v.b || d.sy.contains p.1 with
   | true=>[]
   | false=>p.2.rows.flatMap λr=>r.flatMap (XZ v.b k.rows 6)
  | none=>[]
 | .len b _ _ _=>(d.ts.flatMap λp=>XZ b [] 6 p.2)++d.bs.flatMap (Qy2 d.sy b)
 | _=>[]
def Fh(d:D)(v:Zb)(k:Qd):List (Nat×Qd):=(d.bs.filter λp=>!(p.1==v.b)).map λp=>(p.1,match d.sy.contains p.1 with
 | true=>p.2
 | false=>⟨p.2.size,p.2.Ql,p.2.rows.map (·.map (IT v.b k.size (v.l.map v.ty.d) 6))⟩)
def PF(s:St)(b:Nat):Bool:=match s.b b with
 | some k=>decide (k.size < J0)
 | none=>false
theorem Np{s:St}{b:Nat}{k:Qd}(h:PF s b=true)(hk:s.b b=some k):k.size < J0:=by
 grind [PF]
def setCell(k:Qd)(j:Nat)(c:V):Qd:=⟨k.size,k.Ql,match k.rows with|r :: rs=>r.set j c :: rs|[]=>[]⟩
def Ht(sy:List Nat)(b k:Nat)(p:Nat×Qd):Nat×Qd:=match sy.contains p.1 with
 | true=>p
 | false=>(p.1,⟨p.2.size,p.2.Ql,p.2.rows.map (·.map (R8 b k 6))⟩)
def Qjb(d:D)(b:Nat)(kb:Qd)(rows:List (List V))(k:Nat)(next:D->C):C:=
 Ry (d.ts.map λp=>(p.1,R8 b k 6 p.2)) λts=>Oc (b :: d.sy) ((b,⟨kb.size,kb.Ql,rows⟩) :: (d.bs.filter λp=>!(p.1==b)).map (Ht d.sy b k)) λbs=>
  next ⟨d.n,ts,bs,d.us,b :: d.sy⟩
def Pn(w:bG)(d:D)(next:D->C):C:=
 match w with
 | .XC b t size=>match d.st.t t,ZT d.us b || !decide (size < J0) with
  | .Qu,false=>next { d with ts:=(t,.ref b 0 0) :: d.ts.filter (λx=>!(x.1==t)),bs:=(b,⟨size,true,[]⟩) :: d.bs,us:=b :: d.us }
  | _,_=>.stuck 50
 | .KQ b x j size=>match d.st.b x,ZT d.us b || !decide (size < J0),d.sy.contains x with
  | some k,false,false=>match k.rows with
   | r :: _=>match r[j]? with
    | some .Qu=>next { d with bs:=(b,⟨size,true,[]⟩) :: (x,setCell k j (.ref b 0 0)) :: d.bs.filter (λp=>!(p.1==x)),us:=b :: d.us }
    | _=>.stuck 52
   | []=>.stuck 52
  | _,_,_=>.stuck 53
 | .Qb a b=>match ZT d.us b,a==b with
  | false,false=>Ry (d.ts.map λp=>(p.1,W3 (M1 a b) p.2)) λts=>Oc ((d.sy.filter λx=>!(x==b)).map (M1 a b)) (d.bs.map λp=>(M1 a b p.1,MR d.sy p.1 (M1 a b) p.2)) λbs=>
    next ⟨d.n,ts,bs,b :: d.us,(d.sy.filter λx=>!(x==b)).map (M1 a b)⟩
  | _,_=>.stuck 54
 | .drop l=>
  let us:=d.us.filter λb=>!l.contains b
  match (d.bs.filter λp=>!l.contains p.1).all λp=>ZT us p.1&&Mv us d.sy p with
  | true=>next ⟨d.n,d.ts.filter (λp=>okV (ZT us) (d.st.t p.1)),d.bs.filter (λp=>!l.contains p.1),us,d.sy⟩
  | false=>.stuck 55
 | .len b m _ _=>Ry (d.ts.map λp=>(p.1,iF b m 6 p.2)) λts=>Oc d.sy (d.bs.map (lnB d.sy b m)) λbs=>next ⟨d.n,ts,bs,d.us,d.sy⟩
 | .tell b es=>match d.st.b b,d.sy.contains b with
  | some k,false=>Oc d.sy ((b,⟨k.size,k.Ql,HU es k.rows⟩) :: d.bs.filter λp=>!(p.1==b)) λbs=>next { d with bs:=bs }
  | _,_=>.stuck 58
 | .share v _=>match d.st.b v.b with
  | some k=>match d.sy.contains v.b || k.rows.all λr=>r.all H3 with
   | true=>Ry (d.ts.map λp=>(p.1,IT v.b k.size (v.l.map v.ty.d) 6 p.2)) λts=>
     Oc d.sy (Fh d v k) λbs=>
     next ⟨d.n,ts,bs,v.b :: d.us,d.sy⟩
   | false=>.stuck 56
  | none=>.stuck 57
def CF(c:Code):Bool:=match c with
 | .region _ ops _=>ops.toList.any λo=>match o.op with
  | .range _ _=>true
  | _=>false
 | _=>false
abbrev Rec(P:Program)(G:zi):=(ρ:Type)->YE ρ->T P G ρ->Code⊕Exit->List Kf->D->C
section
variable {P:Program} {G:zi} (kp:List Nat) (rec:Rec P G) {ρ:Type} (F:YE ρ)
def sxE(g:T P G ρ)(e:Exit)(K:List Kf)(d:D):C:=
 match K with
 | []=>fin P G F g e d
 | .seq y :: K=>match I6 e with
  | true=>rec ρ F g (.inl y) K d
  | false=>rec ρ F g (.inr e) K d
 | .block id :: K=>match e with
  | .exit id'=>match id'==id with
   | true=>rec ρ F g (.inr .normal) K d
   | false=>rec ρ F g (.inr (.exit id')) K d
  | e=>rec ρ F g (.inr e) K d
 | .scope :: K=>match e with
  | .goto _=>.stuck 60
  | e=>rec ρ F g (.inr e) K d
 | .lp c :: K=>match I6 e with
  | true=>rec ρ F g (.inl c) (.lp c :: K) d
  | false=>rec ρ F g (.inr e) K d
def Av(P:Program)(G:zi)(ops:Array Oper)(ip:Nat):List Nat->St->Y6->Option Y6
 | [],_,p=>some p
 | i :: l,s,p=>match ((Jv ops.toList).getD i 0).testBit ip with
  | true=>Av P G ops ip l s (p++[([],[])])
  | false=>match HN P G ops i s with
   | some (R,ws)=>Av P G ops ip l (s.app ws) (p++[(R,ws)])
   | none=>none
def KG(d:D)(p:Y6):D:=⟨d.n,d.ts.filter λx=>!p.PU.contains x.1,d.bs.filter λx=>!p.Xu.contains x.1,p.Xu++d.us,d.sy⟩
def cU(id:Nat)(ops:Array Oper)(draw:Bool)(g:T P G ρ)(K:List Kf)(d:D):C:=
 rg P G id ops (List.range' 0 ops.size) g d.st [] d.sy (λg s p sy=>match !draw || Mc ops p with
  | true=>AQ kp d s p sy λd'=>rec ρ F g (.inr .normal) K d'
  | false=>.stuck 63) λv g s p sy=>match draw with
  | false=>AQ kp d s p sy λd'=>rec ρ F g (.inr (.panic v)) K d'
  | true=>match Av P G ops (p.length - 1) (List.range' p.length (ops.size - p.length)) s p with
   | some p'=>match Mc ops p' with
    | true=>rec ρ F g (.inr (.panic v)) K (KG d p')
    | false=>.stuck 77
   | none=>.stuck 77
def sxR(id:Nat)(ops:Array Oper)(draw:Bool)(g:T P G ρ)(K:List Kf)(d:D):C:=
 match g with
 | .Zz id' ts first E k=>match id'==id with
  | true=>.bind (rg P G id ops (List.range' 0 ops.size) first d.st [] d.sy (λg s p _=>Ss P G ops draw ts d g s p) λ_ _ _ _ _=>.stuck 78) λe=>match (E e).all (okV (ZT d.us))&&(E e).length==ts.length with
   | true=>rec ρ F (k e) (.inr .normal) K (Bs ops ts d (E e))
   | false=>.stuck 61
  | false=>cU kp rec F id ops draw (.Zz id' ts first E k) K d
 | g=>cU kp rec F id ops draw g K d
def sxN(g:T P G ρ)(c:Code)(K:List Kf)(d:D):C:=
 match c with
 | .cond o x y=>match g with
  | .br _ _ a b=>match d.st.ev G o with
   | some (.bool c)=>.br c (rec ρ F a (.inl x) K d) (rec ρ F b (.inl y) K d)
   | _=>.stuck 65
  | .tt k=>match d.st.ev G o with
   | some (.bool c)=>match c with
    | true=>rec ρ F k (.inl x) K d
    | false=>.stuck 66
   | _=>.stuck 66
  | .ff k=>match d.st.ev G o with
   | some (.bool c)=>match c with
    | false=>rec ρ F k (.inl y) K d
    | true=>.stuck 67
   | _=>.stuck 67
  | _=>.stuck 68
 | .block id x=>rec ρ F g (.inl x) (.block id :: K) d
 | .scope x=>rec ρ F g (.inl x) (.scope :: K) d
 | .loop x=>match g with
  | .lp S body x0=>match F with
   | .FB E=>match K with
    | []=>.loop (KO (S x0) d.st) (KL (S x0) d.st) λy=>match (S y).ok&&I6 (S y).ex with
     | true=>rec _ (.qI S E) (body y) (.inl x) [] ((S y).D d.n)
     | false=>.stuck 69
    | _ :: _=>.stuck 73
   | _=>.stuck 74
  | g=>rec ρ F g (.inl x) (.lp x :: K) d
 | .rangeFunc o ps as bd=>match g with
  | .sub S k=>match S.x.ok with
   | true=>.sub (.rangeFunc o ps as bd) d.n (KO S.x d.st) (KL S.x d.st) λe=>match (S.E e).ok with
    | true=>rec ρ F (k e) (.inr (S.E e).ex) K ((S.E e).D d.n)
    | false=>.stuck 64
   | false=>.stuck 76
  | .EI S k k2=>match S.x.ok with
   | true=>.EI (.rangeFunc o ps as bd) d.n (KO S.x d.st) (KL S.x d.st) (λe=>match (S.E (.inl e)).ok with
    | true=>rec ρ F (k e) (.inr (S.E (.inl e)).ex) K ((S.E (.inl e)).D d.n)
    | false=>.stuck 64) λe=>match (S.E (.inr e)).ok with
    | true=>rec ρ F (k2 e) (.inr (S.E (.inr e)).ex) K ((S.E (.inr e)).D d.n)
    | false=>.stuck 64
   | false=>.stuck 76
  | _=>.stuck 75
 | _=>.stuck 71
def sxB(g:T P G ρ)(c:Code)(K:List Kf)(d:D):C:=
 match g with
 | .bind 0 first E k=>.bind (rec _ (.FB E) first (.inl c) [] d) λe=>match (E e).ok with
  | true=>rec ρ F (k e) (.inr (E e).ex) K ((E e).D d.n)
  | false=>.stuck 64
 | .QC 0 first E E2 k k2=>.QC (rec _ (.FB (Sum.elim E E2)) first (.inl c) [] d)
  (λe=>match (E e).ok with
   | true=>rec ρ F (k e) (.inr (E e).ex) K ((E e).D d.n)
   | false=>.stuck 64) λe=>match (E2 e).ok with
   | true=>rec ρ F (k2 e) (.inr (E2 e).ex) K ((E2 e).D d.n)
   | false=>.stuck 64
 | .QC (j+1) first E E2 k k2=>match c with
  | .block id x=>rec ρ F (.QC j first E E2 k k2) (.inl x) (.block id :: K) d
  | .scope x=>rec ρ F (.QC j first E E2 k k2) (.inl x) (.scope :: K) d
  | .loop x=>rec ρ F (.QC j first E E2 k k2) (.inl x) (.lp x :: K) d
  | _=>.stuck 72
 | .bind (j+1) first E k=>match c with
  | .block id x=>rec ρ F (.bind j first E k) (.inl x) (.block id :: K) d
  | .scope x=>rec ρ F (.bind j first E k) (.inl x) (.scope :: K) d
  | .loop x=>rec ρ F (.bind j first E k) (.inl x) (.lp x :: K) d
  | _=>.stuck 72
 | g=>sxN rec F g c K d
def BC(g:T P G ρ)(c:Code)(K:List Kf)(d:D):C:=
 match g with
 | .sub S k=>match S.x.ok with
  | true=>.sub c d.n (KO S.x d.st) (KL S.x d.st) λe=>match (S.E e).ok with
   | true=>rec ρ F (k e) (.inr (S.E e).ex) K ((S.E e).D d.n)
   | false=>.stuck 64
  | false=>.stuck 76
 | .EI S k k2=>match S.x.ok with
  | true=>.EI c d.n (KO S.x d.st) (KL S.x d.st) (λe=>match (S.E (.inl e)).ok with
   | true=>rec ρ F (k e) (.inr (S.E (.inl e)).ex) K ((S.E (.inl e)).D d.n)
   | false=>.stuck 64) λe=>match (S.E (.inr e)).ok with
   | true=>rec ρ F (k2 e) (.inr (S.E (.inr e)).ex) K ((S.E (.inr e)).D d.n)
   | false=>.stuck 64
  | false=>.stuck 76
 | _=>.stuck 75
def sxC(g:T P G ρ)(c:Code)(K:List Kf)(d:D):C:=
 match c with
 | .skip=>rec ρ F g (.inr .normal) K d
 | .label _=>rec ρ F g (.inr .normal) K d
 | .exit id=>rec ρ F g (.inr (.exit id)) K d
 | .ret=>rec ρ F g (.inr .ret) K d
 | .seq x y=>match CF x with
  | true=>BC rec F g (.seq x y) K d
  | false=>rec ρ F g (.inl x) (.seq y :: K) d
 | .region id ops draw=>sxR kp rec F id ops draw g K d
 | c=>sxB rec F g c K d
def Qwp(a:Nat)(cur:Code⊕Exit)(K:List Kf):Bool:=
 match cur with
 | .inr _=>K.isEmpty&&a==0
 | .inl (.loop _)=>a==1
 | .inl (.rangeFunc _ _ _ _)=>a==1
 | .inl (.seq x _)=>a==1&&CF x
 | .inl (.region id _ _)=>a==id+2
 | _=>false
def cH(g:T P G ρ)(cur:Code⊕Exit)(K:List Kf)(d:D):C:=
 match cur with
 | .inr e=>sxE rec F g e K d
 | .inl c=>sxC kp rec F g c K d
def sxS(g:T P G ρ)(cur:Code⊕Exit)(K:List Kf)(d:D):C:=
 match g with
 | .fail=>.fail
 | .fact p _ k=>.fact p λh=>rec ρ F (k h) cur K d
 | .br a c x y=>match a==999999 with
  | true=>.br c (rec ρ F x cur K d) (rec ρ F y cur K d)
  | false=>match cur with
   | .inl (.region id ops draw)=>match a==990000+id with
    | true=>.br c (BC rec F x (.region id ops draw) K d) (rec ρ F y (.inl (.region id ops draw)) K d)
    | false=>cH kp rec F (.br a c x y) (.inl (.region id ops draw)) K d
   | cur=>cH kp rec F (.br a c x y) cur K d
 | .gh a w k=>match Qwp a cur K with
  | true=>.gh (ghE w d) (Pn w d λd'=>rec ρ F k cur K d')
  | false=>cH kp rec F (.gh a w k) cur K d
 | .Xr a b ty l n hs k=>match Qwp a cur K with
  | true=>match d.st.b b,decide (b < 1000000)&&PF d.st b with
   | some kb,true=>.Zr kb.rows n (Qjb d b kb ((l.drop n).map ty.c) n λd'=>rec ρ F k cur K d')
   | _,_=>.stuck 59
  | false=>cH kp rec F (.Xr a b ty l n hs k) cur K d
 | g=>cH kp rec F g cur K d
end
def sx(P:Program)(G:zi)(kp:List Nat)(n:Nat):Rec P G:=
 Nat.rec (λ_ _ _ _ _ _=>.stuck 99) (λ_ ih ρ F g cur K d=>sxS kp ih (ρ:=ρ) F g cur K d) n
end Go.EV
namespace Go.EV
open Go
theorem UJ(f:V->V->V):∀(es cs:List V),(Ym f es cs).length=cs.length
 | [],cs=>by cases cs<;>rfl
 | _ :: _,[]=>rfl
 | e :: es,c :: cs=>by simp[Ym,UJ f es cs]
theorem Je(f:V->V->V):∀(es cs:List V) (i:Nat) (d:V),(Ym f es cs)[i]?=some d->∃c,cs[i]?=some c/\(d=c\/∃e,d=f e c)
 | [],cs,i,d,h=>by cases cs<;>exact⟨d,h,.inl rfl⟩
 | _ :: _,[],i,d,h=>by simp[Ym] at h
 | e :: es,c :: cs,i,d,h=>by
  cases i with
  | zero=>simp[Ym] at h;grind
  | succ i=>
   simp only[Ym,List.getElem?_cons_succ] at h;obtain⟨c',h1,h2⟩:=Je f es cs i d h;grind
theorem WY{γ:Gh}{w:World}{bs:zj}{u:zl}:∀(n:Nat) (e c:V) (v:Value),Qz γ w bs u c v->Qz γ w bs u (X5 n e c) v
 | 0,_,_,_,h=>h
 | n+1,e,c,v,h=>by
  have ih:=WY (γ:=γ) (w:=w) (bs:=bs) (u:=u) n;cases c<;>simp only[X5]<;>try exact h
  case Qu=>
   split
   ·have:=h.QI;subst this;exact .data (.Zc _ _)
   ·exact h
  case sl o z r=>
   split
   ·exact h.strip
   ·exact h
  case agg cs=>
   split
   ·rename_i es;obtain⟨vs,rfl,h1,h2⟩:=h.QD;refine .agg _ vs (by rw[UJ];exact h1) λi c v hc hv=>?_;obtain⟨c',k1,k2⟩:=Je _ _ _ _ _ hc;grind
   ·exact h
  case Qc cs=>
   split
   ·rename_i es;obtain⟨vs,rfl,h1,h2⟩:=h.WI;refine .Qc _ vs (by rw[UJ];exact h1) λi c v hc hv=>?_;obtain⟨c',k1,k2⟩:=Je _ _ _ _ _ hc;grind
   ·exact h
theorem xI:∀(n:Nat) (e c:V),(X5 n e c).QK=true->X5 n e c=c\/c=.Qu
 | 0,_,_,_=>.inl rfl
 | n+1,e,c,h=>by
  cases c
  case Qu=>exact .inr rfl
  case sl o z r=>
   simp only[X5] at h ⊢;cases e with
   | sl o' z' r'=>grind [V.QK]
   | _=>exact .inl rfl
  case agg cs=>simp only[X5] at h;grind [V.QK]
  case Qc cs=>simp only[X5] at h;grind [V.QK]
  all_goals exact .inl rfl
theorem Th{bs:zj}{u:zl}(n:Nat)(e c:V):Wk bs u c (X5 n e c):=λ_ _ v h=>WY n e c v h
theorem WJ{bs:zj}{u:zl}:∀(es cs:List (List V)),W5 (λc c'=>Wk bs u c c'/\(c'.QK=true->c'=c\/c=.Qu)) cs (HU es cs)
 | [],cs=>by
  cases cs<;>exact⟨rfl,λi r' h=>⟨r',h,rfl,λj c' hc=>⟨c',hc,Wk.refl _,λ_=>.inl rfl⟩⟩⟩
 | _ :: _,[]=>⟨rfl,(by grind [HU])⟩
 | e :: es,c :: cs=>by
  obtain⟨h1,h2⟩:=WJ (bs:=bs) (u:=u) es cs;refine⟨by simp[HU,h1],λi r' h=>?_⟩;cases i with
  | zero=>
   simp only[HU,qj,zG] at h;subst h;refine⟨c,rfl,UJ _ _ _,λj c' hc=>?_⟩;obtain⟨c0,k1,k2⟩:=Je _ _ _ _ _ hc;refine⟨c0,k1,?_⟩;rcases k2 with rfl|⟨e0,rfl⟩
   ·exact⟨Wk.refl _,λ_=>.inl rfl⟩
   grind [Th,xI]
  | succ i=>
   grind [List.getElem?_cons_succ,HU]
theorem W5.same{R:V->V->Prop}(h:∀c,R c c)(l:List (List V)):W5 R l l:=⟨rfl,(by grind)⟩
theorem W5.append{R:V->V->Prop}{l l' m m':List (List V)}(h:W5 R l l')(k:W5 R m m'):W5 R (l++m) (l'++m'):=
  ⟨by simp[h.1,k.1],λi r' hr=>by
    by_cases hi:i < l'.length
    · rw[wD hi] at hr;rw[wD (by rw[<-h.1];exact hi)];exact h.2 i r' hr
    · rw[wJ (by omega)] at hr;rw[wJ (by rw[<-h.1];omega),<-h.1];exact k.2 _ r' hr⟩
theorem W5.set{R:V->V->Prop}(h:∀c,R c c)(l:List (List V))(j:Nat){r r':List V}(k:W5 R [r] [r']):W5 R (l.set j r) (l.set j r'):=
  ⟨by simp,λi q hq=>by
    by_cases hi:j=i
    · subst hi;have hl:j < l.length:=by
        grind
      rw[List.getElem?_set_self hl] at hq ⊢;simp only[zG] at hq;subst hq;obtain⟨r0,h1,h2⟩:=k.2 0 r' rfl;grind
    grind⟩
def EW(bs:zj)(u:zl)(c c':V):Prop:=Wk bs u c c'/\(c'.QK=true->c'=c\/c=.Qu)
theorem EW.same{bs:zj}{u:zl}(c:V):EW bs u c c:=⟨Wk.refl _,λ_=>.inl rfl⟩
theorem QU.sJ{G:zi}(s:St)(d:Nat)(z:Nat)(x:Bool){rows rows':List (List V)}(h:∀bs u,W5 (EW bs u) rows rows')(t:List (Nat×V)) :
  QU G ((s.Qj d ⟨z,x,rows⟩).app (t.map λp=>.t p.1 p.2)) ((s.Qj d ⟨z,x,rows'⟩).app (t.map λp=>.t p.1 p.2)):=by
 have key:∀(t:List (Nat×V)) (s s':St),s'.n=s.n->s'.u=s.u->s'.t=s.t->(s'.app (t.map λp=>.t p.1 p.2)).n=(s.app (t.map λp=>.t p.1 p.2)).n/\(s'.app (t.map λp=>.t p.1 p.2)).u=(s.app (t.map λp=>.t p.1 p.2)).u/\(s'.app (t.map λp=>.t p.1 p.2)).t=(s.app (t.map λp=>.t p.1 p.2)).t/\(s'.app (t.map λp=>.t p.1 p.2)).b=s'.b/\(s.app (t.map λp=>.t p.1 p.2)).b=s.b:=by
  intro t;induction t with
  | nil=>intro s s' h1 h2 h3;exact⟨h1,h2,h3,rfl,rfl⟩
  | cons p t ih=>
   intro s s' h1 h2 h3;exact ih (s.QG p.1 p.2) (s'.QG p.1 p.2) h1 h2 (by simp[St.QG,h3])
 obtain⟨h1,h2,h3,h4,h5⟩:=key t (s.Qj d ⟨z,x,rows⟩) (s.Qj d ⟨z,x,rows'⟩) rfl rfl rfl;refine QU.cells h1 h2 (by grind [Wk.refl]) λb=>?_;rw[h4,h5];simp only[St.Qj];by_cases hb:b=d
 ·subst hb;exact .inr ⟨_,_,if_pos rfl,if_pos rfl,rfl,rfl,h _ _⟩
 ·rw[if_neg hb,if_neg hb];cases hs:s.b b with
  | none=>grind
  | some k=>exact .inr ⟨k,k,rfl,rfl,rfl,rfl,W5.same (λc=>EW.same c) _⟩
theorem xL{bs:zj}{u:zl}(e c:List V):W5 (EW bs u) [c] [Ym (X5 8) e c]:=WJ [e] [c]
mutual
theorem mH:∀(n:Nat) (v:V) (k:V->C),nrm n v k=k v
 | 0,_,_=>rfl
 | n+1,v,k=>by
  cases v<;>simp only[nrm]<;>simp only[FG n]
theorem FG:∀(n:Nat) (l:List V) (k:List V->C),FN n l k=k l
 | 0,_,_=>rfl
 | n+1,l,k=>by
  cases l with
  | nil=>rfl
  | cons v l=>simp only[FN,mH n,FG n]
end
theorem CZ:∀(l:List (List V)) (k:List (List V)->C),gC l k=k l
 | [],_=>rfl
 | r :: l,k=>by simp only[gC,FG,CZ l]
theorem Kj:∀(l:List (Nat×V)) (k:List (Nat×V)->C),Ry l k=k l
 | [],_=>rfl
 | (i,v) :: l,k=>by simp only[Ry,mH,Kj l]
theorem UP(sy:List Nat):∀(l:List (Nat×Qd)) (k:List (Nat×Qd)->C),Oc sy l k=k l
 | [],_=>rfl
 | (i,b) :: l,k=>by
  cases h:sy.contains i<;>simp only[Oc,h,CZ,UP sy l]
theorem DZ{op:BinOp}{k:IntKind}{a b:Int}{c:Bool}{v:V}(h:pZ op k a b=some (c,v))(hc:c=true):OY op k a b=some v\/Mk op k a b=some v:=by
 subst hc;cases op<;>simp only[pZ,zG,zT,reduceCtorEq] at h
 case quo=>obtain⟨h1,rfl⟩:=h;left;simp only[wC,qi,ne_eq] at h1;simp[OY,h1]
 case rem=>obtain⟨h1,rfl⟩:=h;left;simp only[wC,qi,ne_eq] at h1;simp[OY,h1]
 case shl=>obtain⟨h1,rfl⟩:=h;right;simp only[zM] at h1;simp[Mk,show ¬b < 0 by omega]
 case shr=>obtain⟨h1,rfl⟩:=h;right;simp only[zM] at h1;simp[Mk,show ¬b < 0 by omega]
theorem Ix{lo:Option V}{h:Nat}{c:Bool}{l:Nat}(e:loC lo h=some (c,l))(hc:c=true):iL lo h=some l:=by
 unfold loC at e;unfold iL;grind
theorem Ip{n:Nat}{hi mx:Option V}{c:Bool}{h:Nat}(e:hiC n hi mx=some (c,h))(hc:c=true):VU n hi mx=some h:=by
 unfold hiC at e;unfold VU;grind
theorem Dn{n:Nat}{lo hi mx:Option V}{c:Bool}{l h:Nat}(e:xE n lo hi mx=some (c,l,h))(hc:c=true):VU n hi mx=some h/\iL lo h=some l:=by
 unfold xE at e;split at e
 ·rename_i c1 h' e1;split at e
  ·rename_i c2 l' e2;simp only[zG,zT] at e;obtain⟨e3,rfl,rfl⟩:=e;subst hc;split at e3
   ·subst e3;have:c1=true:=by simp[hiC] at e1;exact e1.1.symm▸rfl
    exact⟨Ip e1 this,Ix e2 rfl⟩
   ·subst e3;have:c2=true:=by simp[loC] at e2;exact e2.1.symm▸rfl
    exact⟨Ip e1 rfl,Ix e2 this⟩
   ·simp only[zL] at e3;grind [Ip,Ix]
  ·simp at e
 ·simp at e
theorem Nb{P:Program}{look:zj}{t:TypeId}{c d:V}{lo hi mx:Option V}{b:Bool}(e:PG P look t c lo hi mx=some (b,d))(hb:b=true):HS P look t c lo hi mx=some d:=by
 unfold PG at e;unfold HS;split at e
 ·rename_i hu;rw[hu];split at e
  ·obtain⟨⟨c1,l,h⟩,e1,e2⟩:=zJ.1 e;simp only[zT] at e2;obtain⟨rfl,rfl⟩:=e2;obtain⟨k1,k2⟩:=Dn e1 hb;simp[k1,k2]
  ·simp at e
 ·rename_i el hu;rw[hu];simp only;split at e
  ·simp at e
  ·rename_i ei he;rw[he];simp only;split at e
   ·split at e
    ·rename_i hs;obtain⟨⟨c1,l,h⟩,e1,e2⟩:=zJ.1 e;simp only[zT] at e2;obtain⟨rfl,rfl⟩:=e2;obtain⟨k1,k2⟩:=Dn e1 hb;grind
    ·simp at e
   ·rename_i b' off len';split at e
    ·rename_i k hk;split at e
     ·rename_i hs;obtain⟨⟨c1,l,h⟩,e1,e2⟩:=zJ.1 e;simp only[zT] at e2;obtain⟨rfl,rfl⟩:=e2;obtain⟨k1,k2⟩:=Dn e1 hb;obtain⟨hs,hmx⟩:=hs;have hmx:=Option.isNone_iff_eq_none.1 hmx;subst hmx;have k1:=Qyw (N:=k.rows.length - off) k1;grind
     ·simp at e
    ·simp at e
   ·simp at e
 ·simp at e
theorem Sb{P:Program}{e:Operand->Option V}{look:zj}{op:Op}{c:Bool}{v:V}(h:uG P e look op=some (c,v))(hc:c=true):Jp P e look op=some v:=by
 unfold uG at h;unfold Jp;split at h
 ·rename_i op t x y _;split at h
  ·rename_i k a k' b hx hy;simp only[hx,hy,RT];split at h
   ·rcases DZ h hc with h|h
    ·simp[OY] at h
    ·exact h
   ·rcases DZ h hc with h|h
    ·simp[OY] at h
    ·exact h
   ·rename_i n1 n2;split at h
    ·rename_i hk;rcases DZ h hc with h|h
     ·grind
     ·cases op<;>first|exact absurd rfl n1|exact absurd rfl n2|(simp[Mk] at h)
    ·simp at h
  ·rename_i a b hx hy;simp only[hx,hy,RT];split at h
   ·simp only[zG,zT] at h;obtain⟨h1,rfl⟩:=h;subst hc;simp only[zM] at h1;simp only[oM,h1,if_true]
   ·simp at h
  ·simp at h
 ·rename_i t x i;split at h
  ·rename_i s n hu hx hi;simp only[zG,zT] at h;obtain⟨h1,rfl⟩:=h;simp_all [zM,and_self,if_true,Gk]
  ·simp at h
 ·rename_i t x i;split at h
  ·rename_i el b off len kk n hu hx hi;split at h
   ·rename_i ei he;split at h
    ·rename_i k hk;split at h
     ·rename_i hs;simp only[zG,zT] at h;obtain⟨h1,rfl⟩:=h;subst hc;simp only[zL,zM] at h1;simp only[hx,hi,N6,hu,he,hk,hs];simp[h1]
     ·simp at h
    ·simp at h
   ·simp at h
  ·simp at h
 ·grind [Nb]
 ·simp at h
section
variable {P:Program} {G:zi} {ops:Array Oper} {i:Nat} {s:St}
theorem Bb{c:Bool}{ws:List Wr}(h:xP P G ops i s=some (c,ws))(hc:c=true):A7 P G ops i s (MW ops i s []) ws:=by
 unfold xP at h;split at h
 ·rename_i o ho;split at h
  ·rename_i hd;obtain⟨⟨c',v⟩,h1,h2⟩:=zJ.1 h;simp only[zT] at h2;obtain⟨rfl,rfl⟩:=h2;grind [ZP,Df,Sb]
  ·simp at h
 ·simp at h
theorem I9.ghost{o:Oper}{st st1 st2:St}(h:I9 P G o st st1)(g:QU G st1 st2):I9 P G o st st2:=λfx γ a w hs hd next Q hn=>
 h fx γ a w hs hd next Q λa' w' γ' k1 k2 k3 k4=>by
  obtain⟨γ2,g1,g2,g3⟩:=g γ' a'.tmps w' k1;exact hn a' w' γ2 g1 (k2.trans g2) (k3.trans g3) k4
theorem Ap{rows:List (List V)}{j:Nat}{c:Bool}{f:List V->Option (List Wr)}{r:List V}{ws:List Wr}(h:Ch P G ops i s=some (rows,j,c,f))(hc:c=true)(hr:rows[j]?=some r)(hf:f r=some ws) :
  A7 P G ops i s (MW ops i s []) ws:=by
 subst hc;unfold Ch at h;split at h
 ·rename_i o ho;split at h
  ·rename_i t x jj d hop hdst;split at h
   ·rename_i hd;split at h
    ·rename_i ow size rows' kk n hx hj;split at h
     ·rename_i hsz;simp only[zG,zT] at h;obtain⟨rfl,rfl,h3,rfl⟩:=h;simp only[zG] at hf;subst hf;refine PE (n:=n) (rows:=rows') (d:=d) ?_ (by simpa using h3) hr;simp_all [if_true,mV]
     ·simp at h
    ·simp at h
   ·simp at h
  ·rename_i t x d hop hdst;split at h
   ·rename_i hd;split at h
    ·rename_i b r' off hx;split at h
     ·rename_i k hk;simp only[zG,zT,true_and] at h;obtain⟨rfl,rfl,rfl⟩:=h;obtain⟨v,h1,rfl⟩:=zJ.1 hf;refine LV (t:=t) (rows:=k.rows) (j:=r') (off:=off) (d:=d) ?_ hr h1;simp_all [if_true,FT]
     ·simp at h
    ·simp at h
   ·simp at h
  ·rename_i t x y hop hdst;split at h
   ·rename_i b r' off cv hx hy;split at h
    ·rename_i k hk;split at h
     ·rename_i hex;simp only[zG,zT,true_and] at h;obtain⟨rfl,rfl,rfl⟩:=h;obtain⟨v,h1,rfl⟩:=zJ.1 hf;obtain⟨oo,ho',hE⟩:=Aj (P:=P) (G:=G) (ops:=ops) (i:=i) (s:=s) (ex:=[]) (t:=t) (rows:=k.rows) (j:=r') (off:=off) (b:=b) (size:=k.size) (c:=cv) (by simp_all [if_true,Aw]) hr h1;exact ZP ⟨oo,ho',λs2 hn ht hbm hu=>(hE s2 hn ht hbm hu).ghost (QU.sJ s2 b k.size true (by grind [W5.set,EW.same,xL]) [])⟩
     ·simp at h
    ·simp at h
   ·simp at h
  ·simp at h
 ·simp at h
theorem Ni{α:Type}(ty:Ty α)(x:List α):(x.map ty.d).map (·.map V.strip)=x.map ty.d:=by
 rw[qe];exact wM λa _=>ty.st a
theorem aO{ex:List Nat}{A:pI}(h:LU P G ops ex i s=some A)(hlen:A.len=A.rows.length)(hf:A.fl=true->A.ZS.map (·.map V.strip)=A.ZS) :
  ∃off,Ta P G ops ex i s=some (A.d,⟨A.b,0,A.size,A.Ql,A.rows⟩,⟨A.sb,off,A.size,true,A.ZS⟩,A.size,A.bytes,true):=by
 unfold LU at h;split at h
 ·rename_i o ho;split at h
  ·rename_i as ts d hop hdst;split at h
   ·rename_i hd;split at h
    ·rename_i x' y' t t2 hxs hts;split at h
     ·rename_i cx cy e e2 hx hy ht ht2;split at h
      ·rename_i ei hi;split at h
       ·rename_i hz;split at h
        ·rename_i b rows len Ql hds;split at h
         ·rename_i sb ZS fl hss;simp only[zG] at h;subst h;simp only at hlen hf ⊢;subst hlen;have k1:VB (s.QO o ex) ei.size cx=some (⟨b,0,ei.size,Ql,rows⟩,true):=by
           unfold aI at hds;unfold VB;split at hds
           ·grind
           ·grind
           ·simp at hds
          have k2:∃off,TE (s.QO o ex) ei.size b cy=some (⟨sb,off,ei.size,true,ZS⟩,true):=by
           unfold BK at hss;unfold TE;split at hss
           ·simp_all
           ·simp_all
           ·rename_i b' len';split at hss
            ·rename_i k hk;split at hss
             ·simp_all
             ·simp at hss
            ·simp at hss
           ·simp at hss
          obtain⟨off,k2⟩:=k2;simp_all [and_self,if_true,Ta]
         ·simp at h
        ·simp at h
       ·simp at h
      ·simp at h
     ·simp at h
    ·simp at h
   ·simp at h
  ·simp at h
 ·simp at h
theorem aA{ex:List Nat}{A:pI}(h:LU P G ops ex i s=some A)(e:A.fl=true):A.sb=none:=by
 unfold LU at h;split at h
 ·split at h
  ·split at h
   ·split at h
    ·split at h
     ·split at h
      ·split at h
       ·split at h
        ·split at h
         ·rename_i hss;simp only[zG] at h;subst h;simp only at e ⊢;subst e;unfold BK at hss;split at hss
          ·simp at hss
          ·grind
          ·grind
          ·simp at hss
         ·simp at h
        ·simp at h
       ·simp at h
      ·simp at h
     ·simp at h
    ·simp at h
   ·simp at h
  ·simp at h
 ·simp at h
theorem IX{bs:zj}{u:zl}(sy:List Nat)(sb:Option Nat)(e rows:List (List V)):W5 (EW bs u) rows (GQ sy sb e rows):=by
 unfold GQ;split
 ·split
  ·grind [W5.same,EW.same]
  ·exact WJ _ _
 grind [W5.same,EW.same]
theorem BM{A:pI}(h:LU P G ops [] i s=some A){α:Type}{ty:Ty α}{l x:List α}{sy:List Nat}(hr:A.rows=l.map ty.c)(hlen:A.len=l.length)(hs:GQ sy A.sb (x.map ty.c) A.ZS=x.map ty.c)(hf:A.fl=true->A.sb=none/\∀y,ty.c y=ty.d y)
  (hb:(l.length+x.length) * A.bytes<=140737488355328) :
  A7 P G ops i s (MW ops i s []) (Gc A.b++(Gc A.sb++[.b A.d (some ⟨A.size,A.Ql,(l++x).map ty.c⟩),.t A.d (.ref A.d 0 (l++x).length)])):=by
 have hlx:A.ZS.length=x.length:=by
  have:=(IX (bs:=λ_=>none) (u:=λ_=>false) sy A.sb (x.map ty.c) A.ZS).1;grind
 obtain⟨off,hat⟩:=aO h (by grind) (λe=>by
  obtain⟨e0,e2⟩:=hf e;have e1:x.map ty.c=x.map ty.d:=wM λa _=>e2 a;rw[e0] at hs;have hs':A.ZS=x.map ty.c:=hs;rw[hs',e1,Ni])
 obtain⟨oo,ho,hE⟩:=Fq (ds:=⟨A.b,0,A.size,A.Ql,A.rows⟩) (ss:=⟨A.sb,off,A.size,true,A.ZS⟩) (rows:=l.map ty.c++A.ZS) (m:=(l++x).length) hat rfl (by grind) (by simp[hr]) (by simp[hr,hlx]);refine ZP ⟨oo,ho,λs2 hn ht hbm hu=>(hE s2 hn ht hbm hu).ghost ?_⟩;simp only;rw[UK,UK,UK,UK];have:=QU.sJ (G:=G) ((s2.QJ A.b).QJ A.sb) A.d A.size A.Ql (rows:=l.map ty.c++A.ZS) (rows':=(l++x).map ty.c) (λbs u=>by
  rw[wW];refine W5.append (W5.same (λc=>EW.same c) _) ?_;have:=IX (bs:=bs) (u:=u) sy A.sb (x.map ty.c) A.ZS;rw[hs] at this;exact this) [(A.d,.ref A.d 0 (l++x).length)]
 exact this
theorem iW.of{o:Oper}{s s2:St}{x:Operand}{c:V}(hx:s.DP G o x=some c)(ht:∀t,t∈Y5 o->s2.t t=s.t t):iW G s2 x c:=λ_ _ _ hs=>
 (hs.QV (Y5 o)).ev (by rw[ZX ht];exact hx)
theorem qQ{c:V}(h:H3 c=true)(f:Nat->Nat):W3 f c=c:=by
 cases c<;>simp_all [H3,W3];obtain⟨rfl,rfl⟩:=h;simp[S9]
theorem Bn{c:V}(h:H3 c=true):K1 c=[]:=by
 cases c<;>simp_all [H3,K1];obtain⟨rfl,rfl⟩:=h;simp[D0]
theorem R1{c:V}(h:H3 c=true)(u:zl):okV u c=true:=by
 cases c<;>simp_all [H3,okV];obtain⟨rfl,rfl⟩:=h;simp[Mn]
theorem J9.Qb{k:Qd}(h:J9 k.rows)(f:Nat->Nat):k.Qb f=k:=by
 unfold Qd.Qb;have:k.rows.map (S9 f)=k.rows:=by
  have:∀l:List (List V),J9 l->l.map (S9 f)=l:=by
   intro l hl;induction l with
   | nil=>rfl
   | cons r l ih=>
    rw[wE,ih λr' hr'=>hl r' (by simp[hr'])];congr 1;rw[WN]
    conv=>rhs;rw[<-List.map_id r]
    exact wM λc hc=>qQ (hl r (by simp) c hc) f
  exact this _ h
 rw[this]
theorem J9.refs{rows:List (List V)}(h:J9 rows):D0 rows.flatten=[]:=by
 have:∀l:List V,(∀c,c∈l->H3 c=true)->D0 l=[]:=by
  intro l hl;induction l with
  | nil=>rfl
  | cons c l ih=>grind [Bn,D0]
 refine this _ λc hc=>?_;obtain⟨r,h1,h2⟩:=wU.1 hc;exact h r h1 c h2
def Yt(sy:List Nat)(s:St):Prop:=∀b,b∈sy->∀k,s.b b=some k->J9 k.rows
theorem WR{dt:List Nat}{b:Nat}{f:Nat->Nat}{k:Qd}(h:b∈dt->J9 k.rows):MR dt b f k=k.Qb f:=by
 unfold MR;split
 ·rename_i hc;exact((h (by simpa using hc)).Qb f).symm
 ·rfl
theorem RG{Li Lo:List (Nat×Nat)}{sy:List Nat}{dst:Option Nat}{f:FuncId}{as:List V}{I:List (Nat×Qd)}(hsy:Yt sy s)(h:JP P G ops Li Lo sy i s=some (dst,f,as,I)){O:List (Nat×Qd)}{res:V}
  {dt:List Nat} (hdt:∀p,p∈O->p.1∈dt->J9 p.2.rows) (hc:QR P G f as (Qm I) res (Qm O)) (ho:JI (Li++Lo) dt O res=true) :
  A7 P G ops i s (MW ops i s ((Li++Lo).map (·.2))) (R9 (Li++Lo) dt O dst res):=by
 unfold JP at h;split at h
 ·rename_i dst' f' as' bl shl hcg;split at h
  ·rename_i hcond;simp only[zG,zT] at h;obtain⟨rfl,rfl,rfl,rfl⟩:=h;simp only[zL,zN,wi] at hcond;obtain⟨hids,hbl⟩:=hcond;have hids':=hids;simp only[DN,zL,zN,beq_iff_eq,zM,wC] at hids';obtain⟨⟨⟨i1,i2⟩,i3⟩,i4⟩:=hids';have hblk:∀x,x∈bl->sy.contains (J8 (Li++Lo) x.1)=true->J9 x.2.rows:=by
    intro x hx hs;simp only[Er] at hcg;split at hcg
    ·rename_i o ff cs hca;split at hcg
     ·rename_i shl' bl' hsh hb';split at hcg
      ·simp only[zG,zT] at hcg;obtain⟨-,-,-,rfl,-⟩:=hcg;obtain⟨n,hn⟩:=qb.1 hx;obtain⟨y,y1,y2⟩:=F3 hb' n x hn;obtain⟨k,k1,rfl⟩:=zJ.1 y2;have hy:=wd y1;have e:J8 (Li++Lo) y.1=y.2:=(by grind);simp only[e] at hs;exact hsy y.2 (by simpa using hs) k (YM _ _ _ _ k1)
      ·simp at hcg
     ·simp at hcg
    ·simp at hcg
   have eI:(bl.map λx=>(x.1,MR sy (J8 (Li++Lo) x.1) (J6 (Li++Lo)) x.2))=bl.map λx=>(x.1,x.2.Qb (J6 (Li++Lo))):=
    (by grind [List.map_congr_left,WR])
   simp only[JI,zL,zN,wi] at ho;have hshl:shl=[]:=by
    grind [Option.some.injEq,Prod.mk.injEq,Er,M4]
   subst hshl;refine TY Li Lo [] hids hcg hc eI.symm (by simp) (λx hx b hb=>?_) (λx hx=>⟨(ho.1 x hx).1,λb hb=>?_⟩) (by grind [pH]) ?_
   ·rcases hbl x hx with h1|h1
    ·rw[(hblk x hx h1).refs] at hb;simp at hb
    ·exact h1 b hb
   ·rcases(ho.1 x hx).2 with h1|h1
    ·rw[(hdt x hx (by simpa using h1)).refs] at hb;simp at hb
    ·exact h1 b hb
   ·unfold R9 Og;simp only[List.map_nil,wS,qe];congr 1;refine wM λx hx=>?_;simp only[Function.comp];grind [WR,P7,Qm]
  ·simp at h
 ·simp at h
theorem SZ{v:Value}(h:uT P G ops i s=some v):MY P G ops i s (MW ops i s []) (.panic (K7 v)) []:=by
 unfold uT at h;split at h
 ·rename_i o ho;obtain⟨h3,h4⟩:=EC ho;split at h
  ·rename_i x hop;split at h
   ·rename_i u hu;split at h
    ·rename_i t y;simp only[zG] at h;subst h;intro s2 hn hag;obtain⟨k1,k2,_,_⟩:=EB h3 h4 hn hag;refine⟨o,h3,(by grind),k1,λfx γ a w hs had next Q hq=>?_⟩;have hv:a.eval x=.iface t y:=by
      exact(iW.of hu k2 γ a w hs).UB
     have hrun:(execOp a.eval o).run P w=.halt (.panic (.iface t y)) w:=by
      unfold execOp;rw[hop];simp only[hv];rfl
     show o.upon P a next Q _
     rw[hrun];exact hq a w γ hs (.refl γ w) (.refl hs.u) had
    ·simp at h
   ·simp at h
  ·simp at h
 ·simp at h
theorem GZ{Li Lo:List (Nat×Nat)}{sy:List Nat}{dst:Option Nat}{f:FuncId}{as:List V}{I:List (Nat×Qd)}(hsy:Yt sy s)(h:JP P G ops Li Lo sy i s=some (dst,f,as,I)){O:List (Nat×Qd)}{v:List PanicEntry}
  {dt:List Nat} (hdt:∀p,p∈O->p.1∈dt->J9 p.2.rows) (hc:EK P G f as (Qm I) v (Qm O)) (ho:JI (Li++Lo) dt O .undef=true) :
  MY P G ops i s (MW ops i s ((Li++Lo).map (·.2))) (.panic v) (R9 (Li++Lo) dt O none .undef):=by
 unfold JP at h;split at h
 ·rename_i dst' f' as' bl shl hcg;split at h
  ·rename_i hcond;simp only[zG,zT] at h;obtain⟨rfl,rfl,rfl,rfl⟩:=h;simp only[zL,zN,wi] at hcond;obtain⟨hids,hbl⟩:=hcond;have hids':=hids;simp only[DN,zL,zN,beq_iff_eq,zM,wC] at hids';obtain⟨⟨⟨i1,i2⟩,i3⟩,i4⟩:=hids';have hblk:∀x,x∈bl->sy.contains (J8 (Li++Lo) x.1)=true->J9 x.2.rows:=by
    intro x hx hs;simp only[Er] at hcg;split at hcg
    ·rename_i o ff cs hca;split at hcg
     ·rename_i shl' bl' hsh hb';split at hcg
      ·simp only[zG,zT] at hcg;obtain⟨-,-,-,rfl,-⟩:=hcg;obtain⟨n,hn⟩:=qb.1 hx;obtain⟨y,y1,y2⟩:=F3 hb' n x hn;obtain⟨k,k1,rfl⟩:=zJ.1 y2;have hy:=wd y1;have e:J8 (Li++Lo) y.1=y.2:=(by grind);simp only[e] at hs;exact hsy y.2 (by simpa using hs) k (YM _ _ _ _ k1)
      ·simp at hcg
     ·simp at hcg
    ·simp at hcg
   have eI:(bl.map λx=>(x.1,MR sy (J8 (Li++Lo) x.1) (J6 (Li++Lo)) x.2))=bl.map λx=>(x.1,x.2.Qb (J6 (Li++Lo))):=
    (by grind [List.map_congr_left,WR])
   simp only[JI,zL,zN,wi] at ho;have hshl:shl=[]:=by
    grind [Option.some.injEq,Prod.mk.injEq,Er,M4]
   subst hshl;refine PD Li Lo [] hids hcg hc eI.symm (by simp) (λx hx b hb=>?_) (λx hx=>⟨(ho.1 x hx).1,λb hb=>?_⟩) ?_
   ·rcases hbl x hx with h1|h1
    ·rw[(hblk x hx h1).refs] at hb;simp at hb
    ·exact h1 b hb
   ·rcases(ho.1 x hx).2 with h1|h1
    ·rw[(hdt x hx (by simpa using h1)).refs] at hb;simp at hb
    ·exact h1 b hb
   ·unfold R9 Og;simp only[List.map_nil,wS,qe,Mb];refine wM λx hx=>?_;simp only[Function.comp];grind [WR,P7,Qm]
  ·simp at h
 ·simp at h
end
end Go.EV
namespace Go.EV
open Go
theorem Wl{α β:Type}{f g:α->Option β}:∀{l:List α} {r:List β},M4 f l=some r->(∀x,x∈l->∀y,f x=some y->g x=some y)->M4 g l=some r
 | [],r,h,_=>h
 | x :: l,r,h,hg=>by
  simp only[M4] at h ⊢;split at h
  ·rename_i y r' h1 h2;rw[hg x (by simp) y h1,Wl h2 (by grind)];exact h
  ·simp at h
theorem Nu{look:zj}{c:V}(h:H3 c=true)(n:Nat):D4 look (n+1) c=D4 look 1 c:=by
 cases c<;>simp_all [H3,D4];obtain⟨rfl,rfl⟩:=h;simp[M4]
theorem Ty.view{α:Type}(ty:Ty α)(look:zj)(n:Nat)(x:α):M4 (λv=>O3 (D4 look (n+1) v)) (ty.c x)=some (ty.d x):=
 Wl (ty.vw look x) λc hc y hy=>by
  rw[Nu (zN.1 (ty.cd x) c hc)];exact hy
theorem Ty.views{α:Type}(ty:Ty α)(look:zj)(n:Nat):∀l:List α,M4 (M4 λv=>O3 (D4 look (n+1) v)) (l.map ty.c)=some (l.map ty.d)
 | []=>rfl
 | x :: l=>by simp only[wE,M4,ty.view look n x,ty.views look n l]
theorem Aq{look:zj}{vs:List Zb}:∀(n:Nat) (c:V) (e:Nat×List (List V)×Nat),e∈C3 look vs n c->∃k,look e.1=some k/\e.2.1=k.rows
 | 0,_,_,h=>by simp[C3] at h
 | n+1,c,e,h=>by
  have fl:∀l:List V,e∈l.flatMap (C3 look vs n)->∃k,look e.1=some k/\e.2.1=k.rows:=λl hl=>by
   obtain⟨x,_,hx⟩:=wR.1 hl;exact Aq n x e hx
  cases c<;>simp only[C3,wj] at h
  case ref b off len=>
   grind
  case ptr b i off=>
   grind
  case fn f a c=>
   grind
  case agg l=>exact fl _ h
  grind
def VOk(vs:List Zb)(es:List (Nat×List (List V)×Nat)):Prop:=
 ∀e,e∈es->∀v,vs.find? (λv=>v.b==e.1)=some v->e.2.1.take e.2.2=v.l.map v.ty.c
theorem XV{look:zj}{vs:List Zb}:∀(n:Nat) (c d:V),KZ look vs n c=some d->VOk vs (C3 look vs n c)->D4 look n c=some d
 | 0,_,_,h,_=>by simp[KZ] at h
 | n+1,c,d,h,hv=>by
  have ih:=XV (look:=look) (vs:=vs) n;have sub:∀(l:List V) (r:List V),M4 (KZ look vs n) l=some r->VOk vs (l.flatMap (C3 look vs n))->M4 (D4 look n) l=some r:=λl r hm hl=>
   Wl hm λx hx y hy=>ih x y hy λe he=>hl e (by grind)
  cases c<;>simp only[KZ] at h<;>try exact h
  case ref b off len=>
   split at h
   ·rename_i v hf;split at h
    ·split at h
     ·simp at h
     ·rename_i n0;obtain⟨k,hk,rfl⟩:=zJ.1 h;have:=hv (b,k.rows,len) (by grind [C3]);have e:(k.rows.drop 0).take len=v.l.map v.ty.c:=by grind
      simp only[D4,hk];rw[e,v.ty.views];rfl
    ·simp at h
   ·exact h
  case ptr b i off=>
   split at h
   ·rename_i k hk;split at h
    ·rename_i r hr;obtain⟨l,h1,rfl⟩:=zJ.1 h;simp only[C3,hk,hr] at hv;simp only[D4,hk,hr];rw[Wl h1 λx hx y hy=>?_]
     ·rfl
     ·obtain⟨a1,a2⟩:=ZL hy;have:=ih x y a1 λe he=>hv e (by grind);grind
    ·simp at h
   ·simp at h
  case fn f a c=>
   split at h
   ·rename_i a' c' h1 h2;simp only[C3] at hv;simp only[D4];rw[sub a a' h1 λe he=>hv e (qg _ he),sub c c' h2 λe he=>hv e (by grind)];exact h
   ·simp at h
  case agg l=>
   obtain⟨r,h1,rfl⟩:=zJ.1 h;simp only[D4];rw[sub l r h1 hv];rfl
  case Qc l=>
   obtain⟨r,h1,rfl⟩:=zJ.1 h;simp only[D4];rw[sub l r h1 hv];rfl
theorem bV{look:zj}{vs:List Zb}{n:Nat}{cs:List V}(hw:Quf vs=true)(h:cs.flatMap (C3 look vs n)=vs.map Zb.rF):VOk vs (cs.flatMap (C3 look vs n)):=by
 have rows:∀e,e∈cs.flatMap (C3 look vs n)->∃k,look e.1=some k/\e.2.1=k.rows:=(by grind [Aq]);intro e he v hv;obtain⟨k,k1,k2⟩:=rows e he;have hm:=ql hv;have hb:v.b=e.1:=by grind
 have:v.rF∈cs.flatMap (C3 look vs n):=by grind
 obtain⟨k',k3,k4⟩:=rows _ this;simp only[Zb.rF] at k3 k4;rw[hb,k1] at k3;simp only[zG] at k3;subst k3;obtain⟨v',hm',he'⟩:=zP.1 (h▸he);subst he';simp only[Zb.rF] at k1 k2 hb ⊢;have one:∀x,x∈vs->∀y,y∈vs->y.b=x.b->x.w=false->x=y:=λx hx y hy hxy hw0=>by
  have:=zN.1 hw x hx;rw[hw0] at this;simp only[Bool.false_or,beq_iff_eq] at this;obtain⟨z,hz⟩:=List.length_eq_one_iff.1 this;have hx':x∈vs.filter λq=>q.b==x.b:=(by grind)
  have hy':y∈vs.filter λq=>q.b==x.b:=(by grind);grind
 cases hwv:v.w with
 | false=>rw[<-one v hm v' hm' hb.symm hwv];exact v.h
 | true=>
  cases hwv':v'.w with
  | false=>grind
  | true=>rw[v'.hw hwv',show v'.rows.length=v.n by rw[v.hw hwv,k2,k4],k2,<-k4];exact v.h
section
variable {P:Program} {G:zi} {ops:Array Oper} {i:Nat} {s:St}
theorem Nh{ex:List Nat}{vs:List Zb}{dst:Option Nat}{f:FuncId}{ds:List V}{es:List (Nat×List (List V)×Nat)}{r:V}(h:PK P G ops ex vs i s=some (dst,f,ds,es))(he:es=vs.map Zb.rF)
  (hc:iY P G f ds r) (hr:G6 r=true):A7 P G ops i s (MW ops i s ex) (Mb dst r):=by
 unfold PK at h;split at h
 ·rename_i o f' cs hca;split at h
  rotate_left
  ·simp at h
  rename_i hw;obtain⟨ds',hm,h2⟩:=zJ.1 h;simp only[zT] at h2;obtain⟨rfl,rfl,rfl,rfl⟩:=h2;have hv:=bV hw he;refine TZ 8 ?_ hc hr;simp only[viewAt,hca];rw[Wl hm λx hx y hy=>XV 8 x y hy λe he=>hv e (by grind)];rfl
 ·simp at h
end
def V1(P:Program)(G:zi)(ops:Array Oper)(p:Y6)(st0 s:St):Prop:=
 s=H7 p st0 p.length/\∀j,j < p.length->A7 P G ops j (H7 p st0 j) (p.rs j) (p.ws j)
theorem X1(p:Y6)(x:List Loc×List Wr)(st:St):∀n,n<=p.length->H7 (p++[x]) st n=H7 p st n
 | 0,_=>rfl
 | n+1,h=>by
  simp only[H7];rw[X1 p x st n (by omega)];grind [List.getElem?_append_left,Y6.ws]
theorem V1.push{P:Program}{G:zi}{ops:Array Oper}{p:Y6}{st0 s:St}(h:V1 P G ops p st0 s){R:List Loc}{ws:List Wr}(hs:A7 P G ops p.length s R ws):V1 P G ops (p++[(R,ws)]) st0 (s.app ws):=by
 obtain⟨h1,h2⟩:=h;have e:(p++[(R,ws)]).getD p.length ([],[])=(R,ws):=by grind
 refine⟨?_,λj hj=>?_⟩
 ·simp_all [qc,X1,zQ,H7,Y6.ws]
 grind [List.length_append,List.length_singleton,X1,List.getElem?_append_left,Y6.rs,Y6.ws]
theorem JK{ws:List Wr}{s:St}{b:Nat}(h:¬b∈MD ws):(s.app ws).b b=s.b b:=
 (O6 (l:=.b b) ws s λx hx e=>h (by
  unfold MD;refine List.mem_filterMap.2 ⟨x,hx,?_⟩;cases x with
  | t i c=>simp[Wr.loc] at e
  | b i k=>grind [Loc.b.injEq,Wr.loc])).1
theorem Pu{ws:List Wr}{s:St}{t:Nat}(h:¬t∈oZ ws):(s.app ws).t t=s.t t:=
 O6 (l:=.t t) ws s λx hx e=>h (by
  unfold oZ;refine List.mem_filterMap.2 ⟨x,hx,?_⟩;cases x with
  | b i c=>simp[Wr.loc] at e
  | t i k=>grind [Loc.t.injEq,Wr.loc])
theorem BW(a b:List Wr)(s:St):s.app (a++b)=(s.app a).app b:=by unfold St.app;grind
theorem aE(ws:List Wr)(x:Wr)(s:St):s.app (ws++[x])=(s.app ws).wr x:=by
 unfold St.app;grind
theorem DY{s:St}{b:Nat}{k:Qd}:∀(n:Nat) (ws:List Wr),ws.length=n->(s.app ws).b b=some k->b∈MD ws->Wr.b b (some k)∈ws
 | 0,ws,hn,_,hm=>by grind [List.length_eq_zero_iff,MD]
 | n+1,ws,hn,h,hm=>by
  obtain⟨ws',x,rfl⟩:∃ws' x,ws=ws'++[x]:=⟨ws.dropLast,ws.getLast (by grind),(List.dropLast_concat_getLast _).symm⟩;rw[aE] at h;have hl:ws'.length=n:=by simpa using hn
  cases x with
  | t i c=>
   have hm':b∈MD ws':=by
    grind [MD]
   exact qg _ (DY n ws' hl h hm')
  | b i q=>
   by_cases hi:b=i
   ·subst hi;cases q with
    | none=>simp[St.wr,St.QT] at h
    | some q=>
     simp_all [if_true,zG,St.wr,St.Qj]
   ·have h':(s.app ws').b b=some k:=by
     cases q with
     | none=>grind [St.wr,St.QT]
     | some q=>grind [St.wr,St.Qj]
    have hm':b∈MD ws':=by
     grind [MD]
    exact qg _ (DY n ws' hl h' hm')
theorem Yt.step{sy:List Nat}{s:St}(h:Yt sy s){ws:List Wr}{told:List Nat}(ht:∀i k,Wr.b i (some k)∈ws->i∈told->J9 k.rows):Yt (YB sy ws told) (s.app ws):=by
 intro b hb k hk;unfold YB at hb;rcases ww.1 hb with hb|hb
 ·obtain⟨h1,h2⟩:=List.mem_filter.1 hb;exact ht b k (DY _ ws rfl hk (by simpa using h2)) h1
 ·obtain⟨h1,h2⟩:=List.mem_filter.1 hb;rw[JK (by simpa using h2)] at hk;exact h b h1 k hk
theorem WX.coe{P:Program}{G:zi}{f:FuncId}{es as:List V}{ins outs:zj}{E:Value->Ending}{res:V}(h:WX P G f (Ym (X5 8) es as) ins E res outs):WX P G f as ins E res outs:=λγ w vs hg ho ha hb=>
 h γ w vs hg ho ⟨by rw[UJ];exact ha.1,λi c v hc hv=>by
  obtain⟨c',k1,k2⟩:=Je _ _ _ _ _ hc;rcases k2 with rfl|⟨e,rfl⟩
  ·exact ha.2 i _ v k1 hv
  ·exact WY 8 e c' v (ha.2 i c' v k1 hv)⟩ hb
theorem EK.coe{P:Program}{G:zi}{f:FuncId}{es as:List V}{ins outs:zj}{v:List PanicEntry}(h:EK P G f (Ym (X5 8) es as) ins v outs):EK P G f as ins v outs:=WX.coe h
theorem QR.coe{P:Program}{G:zi}{f:FuncId}{es as:List V}{ins outs:zj}{res:V}(h:QR P G f (Ym (X5 8) es as) ins res outs):QR P G f as ins res outs:=λγ w vs hg ho ha hb=>
 h γ w vs hg ho ⟨by rw[UJ];exact ha.1,λi c v hc hv=>by
  obtain⟨c',k1,k2⟩:=Je _ _ _ _ _ hc;rcases k2 with rfl|⟨e,rfl⟩
  ·exact ha.2 i _ v k1 hv
  ·exact WY 8 e c' v (ha.2 i c' v k1 hv)⟩ hb
section
variable {P:Program} {G:zi} {id:Nat} {ops:Array Oper}
def Px(P:Program)(G:zi)(ops:Array Oper){ρ:Type}(F:YE ρ)(r:ρ)(st0:St)(n:Nat)(next:T P G ρ->St->Y6->List Nat->C):Prop:=
 ∃g' s' p' sy',next g' s' p' sy'=g'.expect F/\g'.run=some r/\V1 P G ops p' st0 s'/\Yt sy' s'/\p'.length=n
theorem WS{ρ:Type}{F:YE ρ}{a:Nat}{k:T P G ρ}{R:List Loc}{ws:List Wr}{s st0:St}{p:Y6}{sy:List Nat}{next:T P G ρ->St->Y6->List Nat->C}{r:ρ}
  (h:iO P G a k R ws s p sy next=k.expect F) (hr:k.run=some r) (hp:V1 P G ops p st0 s) (hsy:Yt sy s) (hs:A7 P G ops p.length s R ws) :
  ∃g' sy' p',next g' (s.app ws) p' sy'=g'.expect F/\g'.run=some r/\V1 P G ops p' st0 (s.app ws)/\Yt sy' (s.app ws)/\p'.length=p.length+1:=by
 have plain:next k (s.app ws) (p++[(R,ws)]) (YB sy ws [])=k.expect F->∃g' sy' p',next g' (s.app ws) p' sy'=g'.expect F/\g'.run=some r/\V1 P G ops p' st0 (s.app ws)/\Yt sy' (s.app ws)/\p'.length=p.length+1:=
  λh=>⟨k,_,_,h,hr,hp.push hs,hsy.step (by grind),by simp⟩
 cases k<;>try exact plain h
 case re a' w k'=>
  simp only[iO] at h;split at h
  ·simp only[T.expect,C.re.injEq] at h;obtain⟨h1,h2⟩:=h;have e:ws=w.b:=h1.trans w.h;rw[e];exact⟨k',_,_,h2,hr,hp.push (e▸hs),hsy.step w.JN,by simp⟩
  grind
theorem Bg{ρ:Type}{F:YE ρ}{g:T P G ρ}{s st0:St}{p:Y6}{sy:List Nat}{next:T P G ρ->St->Y6->List Nat->C}{r:ρ}(hns:∀j,C.stuck j≠g.expect F)
  (h:Dg P G ops p.length g s p sy next=g.expect F) (hr:g.run=some r) (hp:V1 P G ops p st0 s) (hsy:Yt sy s):Px P G ops F r st0 (p.length+1) next:=by
 unfold Dg at h;split at h
 ·rename_i R ws hrw;exact⟨g,_,_,_,h,hr,hp.push (Jn hrw),hsy.step (by grind),by simp⟩
 grind
theorem Z6{ρ:Type}(F:YE ρ)(g:T P G ρ)(j:Nat):C.stuck j≠g.expect F:=by
 induction g with
 | done r=>
  cases F with
  | qI S E=>grind [T.expect,Wt]
  | rE rs res outs ex Zj=>grind [T.expect,Wt]
  | _=>simp[T.expect,Wt]
 | tt k ih=>grind [T.expect]
 | ff k ih=>grind [T.expect]
 | Hp a k ih=>grind [T.expect]
 | lp S body x=>cases F<;>simp[T.expect]
 | Ko a n vs k=>cases vs<;>simp[T.expect]
 | _=>simp[T.expect]
theorem BB{s:St}{sy sy':List Nat}{i:Nat}{Li Lo:List (Nat×Nat)}{dst dst':Option Nat}{f:FuncId}{as:List V}{ins:List (Nat×Qd)}
  {O:List (Nat×Qd)} {res:V} {dt:List Nat} (hc:JP P G ops Li Lo sy i s=some (dst',f,as,ins)) (hdt:∀q,q∈O->q.1∈dt->J9 q.2.rows)
  (x4:Yt sy' (s.app (R9 (Li++Lo) dt O dst res))):Yt (HF (Li++Lo) dt++sy') (s.app (R9 (Li++Lo) dt O dst res)):=by
 intro b hb q hq;rcases ww.1 hb with hb|hb
 ·unfold HF at hb;obtain⟨y,hy,rfl⟩:=zP.1 hb;obtain⟨y1,y2⟩:=List.mem_filter.1 hy;unfold JP at hc;split at hc
  ·split at hc
   ·rename_i hcond;simp only[zL] at hcond;have hids:=hcond.1;simp only[DN,zL,zN,beq_iff_eq,zM,wC] at hids;have i1:=hids.1.1.1;have e0:(s.app (R9 (Li++Lo) dt O dst res)).b y.2=(Qm O y.1).map (MR dt y.1 (J8 (Li++Lo))):=by
     unfold R9;rw[BW];have e1:∀s':St,(s'.app (Mb dst (W3 (J8 (Li++Lo)) res))).b y.2=s'.b y.2:=λs'=>JK (by cases dst<;>simp[Mb,MD]);rw[e1];have:=(Ec ((Qm O y.1).map (MR dt y.1 (J8 (Li++Lo)))) ((Li++Lo).map λz=>(z.2,(Qm O z.1).map (MR dt z.1 (J8 (Li++Lo))))) s y.2 (by grind) ⟨_,zP.2 ⟨y,y1,rfl⟩,rfl⟩).1;rw[qe] at this;exact this
    rw[e0] at hq;cases hO:Qm O y.1 with
    | none=>grind
    | some k=>
     rw[hO] at hq;simp only[wQ,zG] at hq;subst hq;have hd:=hdt (y.1,k) (P7 hO) (by simpa using y2);rw[WR (λ_=>hd),hd.Qb];exact hd
   ·simp at hc
  ·simp at hc
 ·exact x4 b hb q hq
theorem Kl{ρ:Type}{F:YE ρ}{a:Nat}{k:T P G ρ}{s st0:St}{p:Y6}{sy:List Nat}{next:T P G ρ->St->Y6->List Nat->C}{r:ρ}{Li Lo:List (Nat×Nat)}{dst:Option Nat}{f:FuncId}{as:List V}{ins:List (Nat×Qd)}
  {O:List (Nat×Qd)} {res:V} {dt:List Nat} (hp:V1 P G ops p st0 s) (hsy:Yt sy s) (hc:JP P G ops Li Lo sy p.length s=some (dst,f,as,ins)) (hdt:∀q,q∈O->q.1∈dt->J9 q.2.rows)
  (hok:QR P G f as (Qm ins) res (Qm O)) (hout:JI (Li++Lo) dt O res=true)
  (h5:iO P G a k (MW ops p.length s ((Li++Lo).map (·.2))) (R9 (Li++Lo) dt O dst res) s p sy (λg s p sy=>next g s p (HF (Li++Lo) dt++sy))=k.expect F) (hr:k.run=some r):Px P G ops F r st0 (p.length+1) next:=by
 have hs:=RG hsy hc hdt hok hout;obtain⟨g',sy',p',x1,x2,x3,x4,x5⟩:=WS h5 hr hp hsy hs;exact⟨g',_,p',_,x1,x2,x3,BB hc hdt x4,x5⟩
theorem VT{ρ:Type}{F:YE ρ}{g:T P G ρ}{s st0:St}{p:Y6}{sy:List Nat}{next:T P G ρ->St->Y6->List Nat->C}{r:ρ}
  (h:qL P G id ops p.length g s p sy next=g.expect F) (hr:g.run=some r) (hp:V1 P G ops p st0 s) (hsy:Yt sy s):Px P G ops F r st0 (p.length+1) next:=by
 have pl:Dg P G ops p.length g s p sy next=g.expect F->Px P G ops F r st0 (p.length+1) next:=(by grind [Bg,Z6])
 cases g<;>simp only[qL] at h<;>try exact pl h
 case fail=>simp[T.run] at hr
 case Qa a c k=>
  split at h
  ·split at h
   ·rename_i c' ws hc;simp only[T.expect,C.Qa.injEq] at h;obtain⟨rfl,h2⟩:=h;simp only[T.run] at hr;cases c' with
    | false=>simp at hr
    | true=>
     obtain⟨g',sy',p',x1,x2,x3,x4,x5⟩:=WS h2 hr hp hsy (Bb hc rfl);exact⟨g',_,p',sy',x1,x2,x3,x4,x5⟩
   grind [Z6,absurd]
  ·exact pl h
 case re a w k=>
  split at h
  ·split at h
   ·rename_i R ws hrw;simp only[T.expect,C.re.injEq] at h;obtain⟨h1,h2⟩:=h;have e:ws=w.b:=h1.trans w.h;subst e;exact⟨k,_,_,_,h2,hr,hp.push (Jn hrw),hsy.step w.JN,by simp⟩
   grind [Z6,absurd]
  ·exact pl h
 case row α a ty l j c k=>
  split at h
  ·split at h
   ·rename_i rows j' c' f hro;simp only[T.expect,C.row.injEq,heq_eq_eq,true_and] at h;obtain⟨rfl,rfl,rfl,h4⟩:=h;simp only[T.run] at hr;cases c' with
    | false=>simp at hr
    | true=>
     simp only[cond_true] at hr;split at hr
     ·rename_i x hx;have h5:=congrFun h4 x;split at h5
      ·rename_i ws hws;have Zr:(l.map ty.c)[j']?=some (ty.c x):=by grind
       obtain⟨g',sy',p',x1,x2,x3,x4,x5⟩:=WS h5 hr hp hsy (Ap hro rfl Zr hws);exact⟨g',_,p',sy',x1,x2,x3,x4,x5⟩
      grind [Z6,absurd]
     ·simp at hr
   grind [Z6,absurd]
  ·exact pl h
 case app α a ty l x bytes fl hf k=>
  split at h
  ·split at h
   ·rename_i A hA;simp only[T.expect,C.app.injEq] at h;obtain⟨h1,h2,h3,h4,h5,h6⟩:=h;simp only[T.run] at hr;cases hc:decide ((l.length+x.length) * bytes<=140737488355328) with
    | false=>grind
    | true=>
     rw[hc] at hr;simp only[cond_true] at hr;have hb:(l.length+x.length) * A.bytes<=140737488355328:=by grind
     have hs:=BM hA h1 h2 h3 (λe=>⟨aA hA e,hf (by rw[<-h5];exact e)⟩) hb;refine⟨k,_,_,_,h6,hr,hp.push hs,hsy.step (λi k hm hi=>?_),by simp⟩;simp only[wG] at hi;subst hi;simp only[ww,zY,wj,or_false,Wr.b.injEq,zG,true_and,reduceCtorEq] at hm;rcases hm with hm|hm|hm
     ·unfold Gc at hm;grind
     ·unfold Gc at hm;grind
     ·subst hm;exact ty.data _
   grind [Z6,absurd]
  ·exact pl h
 case Zr α a ty l hole j k=>
  split at h
  ·split at h
   ·rename_i rows j' c' f hro;split at h
    ·split at h
     ·rename_i ws hws;simp only[T.expect,C.Zr.injEq] at h;obtain⟨rfl,rfl,h3⟩:=h;simp only[T.run] at hr;split at hr
      ·rename_i x hx;have Zr:((l.map ty.c).set j' hole)[j']?=some hole:=by
        grind
       obtain⟨g',sy',p',x1,x2,x3,x4,x5⟩:=WS h3 hr hp hsy (Ap hro rfl Zr hws);exact⟨g',_,p',sy',x1,x2,x3,x4,x5⟩
      ·simp at hr
     grind [Z6,absurd]
    grind [Z6,absurd]
   grind [Z6,absurd]
  ·exact pl h
 case call α a sp Li Lo k=>
  split at h
  ·split at h
   ·rename_i dst f as ins hc;simp only[T.expect,C.call.injEq,heq_eq_eq,true_and] at h;obtain⟨rfl,h2,rfl,h4⟩:=h;simp only[T.run] at hr;split at hr
    ·rename_i x hx;have h5:=congrFun h4 x;split at h5
     ·rename_i hout;exact Kl hp hsy hc (sp.JN x) (by have:=sp.ok x hx;rw[<-h2] at this;exact this.coe) hout h5 hr
     ·exact absurd h5 (Z6 F _ _)
    ·simp at hr
   ·exact absurd h (Z6 F _ _)
  ·exact pl h
 case call2 α β a sp Li Lo k k2=>
  split at h
  ·split at h
   ·rename_i dst f as ins hc;simp only[T.expect,C.call2.injEq,heq_eq_eq,true_and] at h;obtain⟨rfl,h2,rfl,h4,h4b⟩:=h;simp only[T.run] at hr;split at hr
    ·rename_i x hx;have h5:=congrFun h4 x;split at h5
     ·rename_i hout;exact Kl hp hsy hc (sp.JN _) (by have:=sp.ok _ hx;rw[<-h2] at this;exact this.coe) hout h5 hr
     ·exact absurd h5 (Z6 F _ _)
    ·rename_i x hx;have h5:=congrFun h4b x;split at h5
     ·rename_i hout;exact Kl hp hsy hc (sp.JN _) (by have:=sp.ok _ hx;rw[<-h2] at this;exact this.coe) hout h5 hr
     ·exact absurd h5 (Z6 F _ _)
    ·simp at hr
   ·exact absurd h (Z6 F _ _)
  ·exact pl h
 case view α a sp vs k=>
  split at h
  ·split at h
   ·split at h
    ·rename_i dst f ds eqs hv;simp only[T.expect,C.view.injEq,heq_eq_eq,true_and] at h;obtain⟨rfl,h2,h3,h4⟩:=h;simp only[T.run] at hr;split at hr
     ·rename_i x hx;have h5:=congrFun h4 x;split at h5
      ·rename_i hfl;simp only[zL,List.isEmpty_iff] at hfl;obtain⟨f1,f2,f3⟩:=hfl;have hok:=sp.ok x hx;rw[f2,f3,<-h2] at hok;have hok:=hok.coe;have hs:=Nh hv h3 hok f1;exact⟨_,_,_,_,h5,hr,hp.push hs,λb hb q hq=>hsy b hb q (by
        rw[<-hq];exact(JK (by cases dst<;>simp[Mb,MD])).symm),by simp⟩
      ·exact absurd h5 (Z6 F _ _)
     ·simp at hr
    ·exact absurd h (Z6 F _ _)
   ·exact absurd h (Z6 F _ _)
  ·exact pl h
 case Qq β a R k=>
  split at h
  ·split at h
   ·rename_i o ho;split at h
    ·rename_i hfr;simp only[T.expect,C.Qqw.injEq,heq_eq_eq,true_and] at h;obtain⟨h1,h2,h3,h4,h5⟩:=h;simp only[T.run] at hr;split at hr
     ·rename_i x hx;have hs:A7 P G ops p.length s (MW ops p.length s (R.Zp.map (·.1))) (R.ws x):=ZP ⟨o,ho,λs2 hn ht hb hu=>R.ok x hx o s2 h1 h2
       (λq hq=>iW.of (List.map_inj_left.1 h3 q hq) ht)
       (λq hq=>by rw[(hb q.1 (List.mem_append_right _ (zP.2 ⟨q,hq,rfl⟩))).1];exact List.map_inj_left.1 h4 q hq)
       (λd hd=>by
        have hd':o.dst=some d:=h2.trans hd;rw[hd'] at hfr;simp only[zL,zM,wC] at hfr;rw[hn,(hu d hd').2];exact hfr)⟩
      exact⟨_,_,_,_,congrFun h5 x,hr,hp.push hs,hsy.step (R.JN x),by simp⟩
     ·simp at hr
    ·exact absurd h (Z6 F _ _)
   ·exact absurd h (Z6 F _ _)
  ·exact pl h
theorem Rn{i:Nat}{s:St}{d:Nat}{b:Bool}(h:Bw ops i s=some (d,b)):s.QG d (.bool b)=s:=by
 unfold Bw at h;split at h
 ·split at h
  ·split at h
   ·split at h
    ·rename_i b' hb;simp only[zG,zT] at h;obtain⟨rfl,rfl⟩:=h;unfold St.QG;cases s;simp only[St.mk.injEq,true_and,and_true];grind
    ·simp at h
   ·simp at h
  ·simp at h
 ·simp at h
theorem ON{s:St}{t:Nat}{c:V}(hb:s.t t=c):s.QG t c=s:=by
 unfold St.QG;cases s;simp only[St.mk.injEq,true_and,and_true];grind
theorem VJ{i:Nat}{s:St}{t:Nat}{k:IntKind}{m:Int}(h:Qyj ops i s=some (t,k,m)):s.QG t (.int k m)=s:=by
 unfold Qyj at h;split at h
 ·split at h
  ·split at h
   ·rename_i hb;simp only[zG,zT] at h;obtain⟨rfl,rfl,rfl⟩:=h;exact ON hb
   ·simp at h
  ·split at h
   ·rename_i hb;simp only[zG,zT] at h;obtain⟨rfl,rfl,rfl⟩:=h;exact ON hb
   ·simp at h
  ·simp at h
 ·simp at h
theorem Lt{m n:Int}{A B:Int->C}:∀(vs:List Int),vs.foldr (λv r=>C.br (m==v) (A v) r) C.fail=vs.foldr (λv r=>C.br (n==v) (B v) r) C.fail->vs.contains n=true->m=n/\A n=B n
 | [],_,h=>by simp at h
 | v :: vs,h,hc=>by
  simp only[List.foldr_cons,C.br.injEq] at h;obtain⟨h1,h2,h3⟩:=h;by_cases hn:n=v
  ·grind
  ·refine Lt vs h3 ?_;grind
def Tn(P:Program)(G:zi)(ops:Array Oper){ρ:Type}(F:YE ρ)(r:ρ)(st0:St)(n:Nat)(κp:List PanicEntry->T P G ρ->St->Y6->List Nat->C):Prop:=
 ∃v g' sy' p s R W,κp v g' (s.app W) (p++[(R,W)]) sy'=g'.expect F/\g'.run=some r/\V1 P G ops p st0 s/\MY P G ops p.length s R (.panic v) W/\p.length < n/\Yt sy' (s.app W)
theorem MQ(p:Y6)(x:List Loc×List Wr)(st:St):H7 (p++[x]) st (p++[x]).length=(H7 p st p.length).app x.2:=by
 simp_all [qc,List.length_singleton,X1,zQ,H7,Y6.ws]
theorem Ab{ρ:Type}{F:YE ρ}{r:ρ}{st0:St}{κ:T P G ρ->St->Y6->List Nat->C}{κp:List PanicEntry->T P G ρ->St->Y6->List Nat->C}:∀(m:Nat) (g:T P G ρ) (s:St) (p:Y6) (sy:List Nat),
  rg P G id ops (List.range' p.length m) g s p sy κ κp=g.expect F->g.run=some r->V1 P G ops p st0 s->Yt sy s->Px P G ops F r st0 (p.length+m) κ\/Tn P G ops F r st0 (p.length+m) κp
 | 0,g,s,p,sy,h,hr,hp,hsy=>.inl ⟨g,s,p,sy,h,hr,hp,hsy,rfl⟩
 | m+1,g,s,p,sy,h,hr,hp,hsy=>by
  rw[List.range'_succ] at h;have next:∀{g':T P G ρ} {s':St} {p':Y6} {sy':List Nat} (n1:Nat),n1=p.length+1->rg P G id ops (List.range' n1 m) g' s' p' sy' κ κp=g'.expect F->g'.run=some r->V1 P G ops p' st0 s'->Yt sy' s'->p'.length=p.length+1->
    Px P G ops F r st0 (p.length+(m+1)) κ\/Tn P G ops F r st0 (p.length+(m+1)) κp:=by
   intro g' s' p' sy' n1 hn1 x1 x2 x3 x4 x5;have:=Ab m g' s' p' sy' (by rw[x5,<-hn1];exact x1) x2 x3 x4;grind
  have step:∀(g:T P G ρ) (s:St),V1 P G ops p st0 s->Yt sy s->g.run=some r->∀n1,n1=p.length+1->
    qL P G id ops p.length g s p sy (λg s p' sy=>rg P G id ops (List.range' n1 m) g s p' sy κ κp)=g.expect F->Px P G ops F r st0 (p.length+(m+1)) κ\/Tn P G ops F r st0 (p.length+(m+1)) κp:=by
   intro g s hp hsy hr n1 hn1 h;obtain⟨g',s',p',sy',x1,x2,x3,x4,x5⟩:=VT h hr hp hsy;grind
  have pl:qL P G id ops p.length g s p sy (λg s p' sy=>rg P G id ops (List.range' (p.length+1) m) g s p' sy κ κp)=g.expect F->Px P G ops F r st0 (p.length+(m+1)) κ\/Tn P G ops F r st0 (p.length+(m+1)) κp:=step g s hp hsy hr _ rfl;cases g<;>try exact pl h
  case br a c x y=>
   simp only[rg] at h;split at h
   ·split at h
    ·rename_i d b hg;simp only[T.expect,C.br.injEq] at h;obtain⟨rfl,h1,h2⟩:=h;simp only[T.run] at hr;have e:=Rn hg;grind
    grind [Z6,absurd]
   ·exact pl h
  case Ko a n vs k=>
   simp only[rg] at h;split at h
   ·split at h
    ·rename_i t kd m' hg;simp only[T.expect] at h;simp only[T.run] at hr;cases hc:vs.contains n with
     | false=>grind
     | true=>
      rw[hc] at hr;obtain⟨rfl,h2⟩:=Lt vs h hc;have e:=VJ hg;grind
    grind [Z6,absurd]
   ·exact pl h
  case Qi α β a sp Li Lo k k2=>
   simp only[rg] at h;split at h
   ·split at h
    ·rename_i dst f as ins hc;simp only[T.expect,C.call2.injEq,heq_eq_eq,true_and] at h;obtain⟨rfl,h2,rfl,h4,h4b⟩:=h;simp only[T.run] at hr;split at hr
     ·rename_i x hx;have h5:=congrFun h4 x;split at h5
      ·rename_i hout;obtain⟨g',s',p',sy',x1,x2,x3,x4,x5⟩:=Kl hp hsy hc (sp.JN _) (by have:=sp.ok _ hx;rw[<-h2] at this;exact this.coe) hout (next:=λg s p' sy=>rg P G id ops (List.range' (p.length+1) m) g s p' sy κ κp) (F:=F) (k:=k x) (a:=a) h5 hr;grind
      grind [Z6,absurd]
     ·rename_i x hx;have h5:=congrFun h4b x;split at h5
      ·rename_i hout;have hok:EK P G sp.f as (Qm sp.ins) (sp.Hp x) (Qm (sp.Zj x)):=by have:=sp.okp _ hx;rw[<-h2] at this;exact this.coe
       have hs:=GZ hsy hc (sp.Qhr _) hok hout;exact .inr ⟨_,_,_,p,s,_,_,h5,hr,hp,hs,by omega,BB hc (sp.Qhr _) (hsy.step λ_ _ _ h=>by simp at h)⟩
      grind [Z6,absurd]
     ·simp at hr
    grind [Z6,absurd]
   ·exact pl h
  case Hp a k=>
   simp only[rg] at h;split at h
   ·split at h
    ·rename_i v hv;simp only[T.run] at hr;exact .inr ⟨_,k,sy,p,s,_,[],h,hr,hp,SZ hv,by omega,hsy⟩
    ·exact absurd h (Z6 F (T.Hp a k) _)
   ·exact pl h
theorem MP{ρ:Type}{F:YE ρ}{g:T P G ρ}{r:ρ}{st:St}{sy:List Nat}{κ:T P G ρ->St->Y6->List Nat->C}{κp:List PanicEntry->T P G ρ->St->Y6->List Nat->C}(h:rg P G id ops (List.range' 0 ops.size) g st [] sy κ κp=g.expect F)(hr:g.run=some r)(hsy:Yt sy st) :
  (∃g' s p sy',κ g' s p sy'=g'.expect F/\g'.run=some r/\Yt sy' s/\p.length=ops.size/\s=H7 p st ops.size/\∀i,i < ops.size->A7 P G ops i (H7 p st i) (p.rs i) (p.ws i))\/
  (∃v g' sy' p R W,κp v g' ((H7 p st p.length).app W) (p++[(R,W)]) sy'=g'.expect F/\g'.run=some r/\Yt sy' ((H7 p st p.length).app W)/\p.length < ops.size/\(∀i,i < p.length->A7 P G ops i (H7 p st i) (p.rs i) (p.ws i))/\MY P G ops p.length (H7 p st p.length) R (.panic v) W):=by
 rcases Ab (st0:=st) ops.size g st [] sy h hr ⟨rfl,λj hj=>by simp at hj⟩ hsy with⟨g',s,p,sy',x1,x2,x3,x4,x5⟩|⟨v,g',sy',p,s,R,W,x1,x2,x3,x4,x5,x6⟩
 ·simp only[List.length_nil,we] at x5;refine .inl ⟨g',s,p,sy',x1,x2,x4,x5,?_,λi hi=>?_⟩
  ·rw[<-x5];exact x3.1
  ·exact x3.2 i (by omega)
 ·simp only[List.length_nil,we] at x5;rw[x3.1] at x1 x4 x6;exact .inr ⟨v,g',sy',p,R,W,x1,x2,x6,x5,x3.2,x4⟩
theorem U8.uS{Q:Exit->St->Prop}{p:Y6}{st:St}{m t:Nat}(h:∀i,i < m->A7 P G ops i (H7 p st i) (p.rs i) (p.ws i))(hq:U8 P G ops (List.range' m t) (H7 p st m) Q) :
  ∀n k,k+n=m->U8 P G ops (List.range' k (n+t)) (H7 p st k) Q
 | 0,k,hk=>by
  grind
 | n+1,k,hk=>by
  rw[show n+1+t=(n+t)+1 by omega,List.range'_succ];exact U8.cons (h k (by omega) _ rfl (λl _=>O5.refl _ l)) (U8.uS h hq n (k+1) (by omega))
theorem TV.Qhg{rid:Nat}{st s':St}{p:Y6}{n:Nat}{ex:Exit}{Q:Exit->St->Prop}(hn:n < ops.size)(hst:∀i,i < n->A7 P G ops i (H7 p st i) (p.rs i) (p.ws i))(hp:aV P G ops n (H7 p st n) ex s')(hq:Q ex s'):TV P G (.region rid ops false) st Q:=by
 refine TV.region ?_;have:=U8.uS (Q:=Q) (t:=ops.size - n) hst (by
  rw[show ops.size - n=(ops.size - n - 1)+1 by omega,List.range'_succ];exact U8.stop hp hq) n 0 (by omega)
 rw[List.range_eq_range'];rw[show n+(ops.size - n)=ops.size by omega] at this;exact this
theorem TV.Vj{draw:Bool}{rid:Nat}{st s:St}{p:Y6}{Q:Exit->St->Prop}(hm:P.follows .mixedOrders=true)(hd:(!draw || Mc ops p)=true)(hs:s=H7 p st ops.size)
  (hst:∀i,i < ops.size->A7 P G ops i (H7 p st i) (p.rs i) (p.ws i)) (hq:Q .normal s):TV P G (.region rid ops draw) st Q:=by
 cases draw with
 | false=>
  refine TV.region ?_;have:=U8.Vj (Q:=Q) hst (by rw[<-hs];exact hq) ops.size 0 (by omega);rw[List.range_eq_range'];exact this
 | true=>
  simp only[Bool.not_true,Bool.false_or,Mc,zL] at hd;refine TV.draw hm hd.1 hd.2 (λi hi=>?_) ?_
  ·rw[UF,show min i ops.size=i by omega];exact hst i hi
  grind [AU]
end
mutual
theorem N2{u u':zl}(h:∀b,u b=true->u' b=true):∀(c:V),okV u c=true->okV u' c=true
 | .int _ _,_=>rfl
 | .bool _,_=>rfl
 | .str _,_=>rfl
 | .Zi,_=>rfl
 | .Zd,_=>rfl
 | .QP _,_=>rfl
 | .Qu,_=>rfl
 | .Zu _,_=>rfl
 | .sl _ _ _,_=>rfl
 | .snap _,_=>rfl
 | .undef,_=>rfl
 | .ref b _ _,hc=>by grind [okV]
 | .ptr b _ _,hc=>by grind [okV]
 | .mp b,hc=>by grind [okV]
 | .fn _ a c,hc=>by
  simp only[okV,zL] at hc ⊢;exact⟨Wd h a hc.1,Wd h c hc.2⟩
 | .agg l,hc=>by simp only[okV] at hc ⊢;exact Wd h l hc
 | .Qc l,hc=>by simp only[okV] at hc ⊢;exact Wd h l hc
theorem Wd{u u':zl}(h:∀b,u b=true->u' b=true):∀(l:List V),Mn u l=true->Mn u' l=true
 | [],_=>rfl
 | c :: l,hc=>by
  simp only[Mn,zL] at hc ⊢;exact⟨N2 h c hc.1,Wd h l hc.2⟩
end
structure D.Ok(d:D):Prop where
 tmp:∀i,okV (ZT d.us) (d.st.t i)=true
 Zs:∀{b k},d.st.b b=some k->ZT d.us b=true/\∀r,r∈k.rows->∀c,c∈r->okV (ZT d.us) c=true
 sy:Yt d.sy d.st
theorem D.Ok.Kz{s:St}{d:D}(f:N7 s d.st)(hsy:Yt d.sy d.st):d.Ok where
 tmp:=λi=>by
  rcases f.t i with e|⟨e,h⟩
  ·rw[e];rfl
  ·rw[e];exact h
 Zs:=λ{b k} hk=>by
  rcases f.b b with e|⟨e,h⟩
  ·grind
  ·rw[e] at hk;exact h k hk
 sy:=hsy
theorem P9{α:Type}{l:List (Nat×α)}{i:Nat}{p:Nat×α}(h:l.find? (λx=>x.1==i)=some p):p∈l/\p.1=i:=
 (by grind)
theorem O9{α:Type}{q:zl}{i:Nat}(hq:q i=true):∀l:List (Nat×α),(l.filter λx=>q x.1).find? (λx=>x.1==i)=l.find? (λx=>x.1==i)
 | []=>rfl
 | p :: l=>by
  grind
theorem Fy{n:Nat}{ts:List (Nat×V)}{bs:List (Nat×Qd)}{us:List Nat}(i:Nat):(D2 n ts bs us).t i=(match ts.find? (λp=>p.1==i) with|some p=>p.2|none=>.undef):=rfl
theorem Mu{n:Nat}{ts:List (Nat×V)}{bs:List (Nat×Qd)}{us:List Nat}(i:Nat):(D2 n ts bs us).b i=(match bs.find? (λp=>p.1==i) with|some p=>some p.2|none=>none):=rfl
theorem MC{us:List Nat}{b:Nat}(h:1000000<=b):ZT us b=true:=by simp[ZT,Qw,h]
theorem D.Qh1(d:D):d.st.u=ZT d.us:=rfl
theorem D.Ok.mY{d:D}(ht:∀p,p∈d.ts->okV (ZT d.us) p.2=true)(hb:∀p,p∈d.bs->ZT d.us p.1=true/\∀r,r∈p.2.rows->∀c,c∈r->okV (ZT d.us) c=true)(hsy:Yt d.sy d.st):d.Ok where
 tmp:=λi=>by
  unfold D.st;rw[Fy];split
  ·grind
  ·rfl
 Zs:=λ{b k} hk=>by
  unfold D.st at hk;rw[Mu] at hk;split at hk
  ·grind
  ·simp at hk
 sy:=hsy
theorem Uv:∀(l:List Nat) (x:Nat),x∈dedup l↔x∈l
 | [],x=>by simp[dedup]
 | y :: l,x=>by
  simp only[dedup];split
  ·rename_i hc;rw[Uv l x];grind
  ·simp only[zY,Uv l x]
theorem JS{p:Y6}{st:St}{t:Nat}(h:¬t∈p.PU):∀n,(H7 p st n).t t=st.t t
 | 0=>rfl
 | n+1=>by
  simp only[H7];rw[Pu,JS h n];intro hm;by_cases hn:n < p.length
  ·refine h (wR.2 ⟨p[n],List.getElem_mem hn,?_⟩);grind [List.getElem?_eq_getElem,Y6.ws]
  grind [List.getElem?_eq_none,Y6.ws,oZ]
theorem JB{p:Y6}{st:St}{b:Nat}(h:¬b∈p.Xu):∀n,(H7 p st n).b b=st.b b
 | 0=>rfl
 | n+1=>by
  simp only[H7];rw[JK,JB h n];intro hm;by_cases hn:n < p.length
  ·refine h (wR.2 ⟨p[n],List.getElem_mem hn,?_⟩);grind [List.getElem?_eq_getElem,Y6.ws]
  grind [List.getElem?_eq_none,Y6.ws,MD]
theorem GM{p:Y6}{st:St}:∀n,(H7 p st n).n=st.n
 | 0=>rfl
 | n+1=>by simp only[H7,LY,GM n]
theorem Wu{kp:List Nat}{d:D}{s:St}{p:Y6}{sy:List Nat}{next:D->C}{X:C}{m:Nat}(h:AQ kp d s p sy next=X)(hX:∀j,C.stuck j≠X)(hd:d.Ok)(hs:s=H7 p d.st m)(hsy:Yt sy s) :
  ∃d':D,next d'=X/\d'.Ok/\N7 s d'.st/\d'.n=d.n:=by
 unfold AQ at h;simp only[Kj,UP] at h;split at h
 rotate_left
 ·grind
 rename_i hc;simp only[zL,zN] at hc;obtain⟨hnt,hnb⟩:=hc;refine⟨_,h,?_⟩;have mu:∀b,ZT d.us b=true->ZT (dedup (p.Xu++d.us)) b=true:=λb hb=>by
  simp only[ZT,wi,wz,zM] at hb ⊢;grind [Uv,List.mem_append_right]
 have nbm:∀x,x∈Lw p.Xu s->x.1∈p.Xu/\s.b x.1=some x.2:=(by grind [Option.some.injEq,Uv,Lw])
 have nbOk:∀x,x∈Lw p.Xu s->ZT (dedup (p.Xu++d.us)) x.1=true/\∀r,r∈x.2.rows->∀c,c∈r->okV (ZT (dedup (p.Xu++d.us))) c=true:=λx hx=>by
  obtain⟨h1,h2⟩:=nbm x hx;refine⟨by simp_all [wi,wz,zM,Uv,qg,ZT],λr hr c hc=>?_⟩;have:=hnb x hx;simp only[Mv,wi,wz,zM,zN] at this;rcases this with h3|h3
  ·exact R1 (hsy x.1 h3 _ h2 r hr c hc) _
  grind
 have F:N7 s (D2 d.n (CJ kp p.PU s++d.ts.filter λx=>!p.PU.contains x.1) (Lw p.Xu s++d.bs.filter λx=>!p.Xu.contains x.1) (dedup (p.Xu++d.us))):=by
  refine⟨?_,λi=>?_,λb=>?_,λb hb=>MC (Jg hb)⟩
  ·rw[hs,GM];rfl
  ·rw[Fy,List.find?_append];cases hf:(CJ kp p.PU s).find? (λp=>p.1==i) with
   | some x=>
    obtain⟨h1,h2⟩:=P9 hf;have hx:=hnt x h1;unfold CJ at h1;obtain⟨j,_,rfl⟩:=zP.1 h1;simp only at h2;subst h2;exact .inr ⟨rfl,hx⟩
   | none=>
    simp only[Option.none_or];cases hw:p.PU.contains i with
    | true=>grind
    | false=>
     rw[O9 (q:=λj=>!p.PU.contains j) (by simp only[hw,Bool.not_false])];have e:s.t i=d.st.t i:=by grind [JS]
     refine .inr ⟨by rw[e];rfl,?_⟩;rw[e];exact N2 mu _ (hd.tmp i)
  ·rw[Mu,List.find?_append];cases hf:(Lw p.Xu s).find? (λp=>p.1==b) with
   | some x=>
    obtain⟨h1,h2⟩:=P9 hf;obtain⟨_,h4⟩:=nbm x h1;have h5:=nbOk x h1;rw[h2] at h4 h5;refine .inr ⟨by grind,λk hk=>?_⟩;rw[h4] at hk;simp only[zG] at hk;subst hk;exact h5
   | none=>
    simp only[Option.none_or];cases hw:p.Xu.contains b with
    | true=>grind
    | false=>
     rw[O9 (q:=λj=>!p.Xu.contains j) (by simp only[hw,Bool.not_false])];have e:s.b b=d.st.b b:=by grind [JB]
     refine .inr ⟨by rw[e];rfl,λk hk=>?_⟩;rw[e] at hk;obtain⟨h1,h2⟩:=hd.Zs hk;exact⟨mu b h1,λr hr c hc=>N2 mu c (h2 r hr c hc)⟩
 refine⟨D.Ok.Kz F λb hb k hk=>?_,F,rfl⟩;rcases F.b b with e|⟨e,_⟩
 ·have:(none:Option Qd)=some k:=e.symm.trans hk;simp at this
 ·exact hsy b hb k (e.symm.trans hk)
end Go.EV
