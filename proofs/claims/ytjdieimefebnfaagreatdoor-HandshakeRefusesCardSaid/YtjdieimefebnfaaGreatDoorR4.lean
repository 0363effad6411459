/- Guided execution: the executor, which goes through a function's body by its guide and says what is to be checked. Definitions; no conditions. Guided ..; no conditions. -/
import Derived.Test.YtjdieimefebnfaaGreatDoorR3
import Derived.KernelRfl
set_option linter.unusedVariables false
set_option linter.unusedSimpArgs false
namespace Go.EV
open Go
structure D where
 n:Nat
 ts:List (Nat×V)
 bs:List (Nat×Qd)
 us:List Nat
 sy:List Nat
def D.st(d:D):St:=D0 d.n d.ts d.bs d.us
inductive Kf where
 | seq (y:Code)
 | block (id:Nat)
 | scope
 | lp (c:Code)
mutual
def nrm:Nat->V->(V->C)->C
 | 0,v,k=>k v
 | n+1,v,k=>match v with
  | .int a b=>k (.int a b)
  | .bool b=>k (.bool b)
  | .str s=>k (.str s)
  | .Za=>k .Za
  | .Zd=>k .Zd
  | .QP l=>k (.QP l)
  | .Qu=>k .Qu
  | .Zh x=>k (.Zh x)
  | .sl o z r=>k (.sl o z r)
  | .snap l=>FU n l λl=>k (.snap l)
  | .ref b o l=>k (.ref b o l)
  | .ptr b i o=>k (.ptr b i o)
  | .fn f a c=>FU n a λa=>FU n c λc=>k (.fn f a c)
  | .agg l=>FU n l λl=>k (.agg l)
  | .Qc l=>FU n l λl=>k (.Qc l)
  | .undef=>k .undef
  | .mp b=>k (.mp b)
def FU:Nat->List V->(List V->C)->C
 | 0,l,k=>k l
 | n+1,l,k=>match l with
  | []=>k []
  | v :: l=>nrm n v λv=>FU n l λl=>k (v :: l)
end
def gR:List (List V)->(List (List V)->C)->C
 | [],k=>k []
 | r :: rs,k=>FU 1000 r λr=>gR rs λrs=>k (r :: rs)
def NL:List (Nat×V)->(List (Nat×V)->C)->C
 | [],k=>k []
 | (i,v) :: l,k=>nrm 1000 v λv=>NL l λl=>k ((i,v) :: l)
def Ou(sy:List Nat):List (Nat×Qd)->(List (Nat×Qd)->C)->C
 | [],k=>k []
 | (i,b) :: l,k=>match sy.contains i with
  | true=>match b with|⟨z,x,r⟩=>Ou sy l λl=>k ((i,⟨z,x,r⟩) :: l)
  | false=>match b with|⟨z,x,r⟩=>gR r λr=>Ou sy l λl=>k ((i,⟨z,x,r⟩) :: l)
def iS(ws:List Wr):List Nat:=ws.filterMap fun|.t i _=>some i|_=>none
def MU(ws:List Wr):List Nat:=ws.filterMap fun|.b i _=>some i|_=>none
def Y5.Pn(p:Y5):List Nat:=p.flatMap λx=>iS x.2
def Y5.DS(p:Y5):List Nat:=p.flatMap λx=>MU x.2
def rR(op:BinOp)(k:IntKind)(a b:Int):Option (Bool×V):=
 match op with
 | .quo=>some (!(b==0),.int k (k.wrap (a.tdiv b)))
 | .rem=>some (!(b==0),.int k (a.tmod b))
 | .shl=>some (decide (0<=b),.int k (k.wrap (a * 2 ^ (min b.toNat k.bits))))
 | .shr=>some (decide (0<=b),.int k (a.fdiv (2 ^ (min b.toNat k.bits))))
 | _=>none
def loC(lo:Option V)(h:Nat):Option (Bool×Nat):=
 match lo with
 | none=>some (true,0)
 | some (.int _ l)=>some (decide (0<=l)&&decide (l<=h),l.toNat)
 | _=>none
def hiC(n:Nat)(hi mx:Option V):Option (Bool×Nat):=
 match hi,mx with
 | none,none=>some (true,n)
 | some (.int _ h),none=>some (decide (0<=h)&&decide (h<=n),h.toNat)
 | some (.int _ h),some (.int _ m)=>some (decide (0<=h)&&(decide (h<=m)&&decide (m<=n)),h.toNat)
 | _,_=>none
def xZ(n:Nat)(lo hi mx:Option V):Option (Bool×Nat×Nat):=
 match hiC n hi mx with
 | some (c1,h)=>match loC lo h with
  | some (c2,l)=>some (match hi,mx,lo with|none,none,_=>c2|_,_,none=>c1|_,_,_=>c1&&c2,l,h)
  | none=>none
 | none=>none
def PK(P:Program)(look:zj)(t:TypeId)(c:V)(lo hi mx:Option V):Option (Bool×V):=
 match P.underlying t with
 | some .string=>match c,mx with
  | .str s,none=>(xZ s.size lo hi none).map λx=>(x.1,.str (s.extract x.2.1 x.2.2))
  | _,_=>none
 | some (.slice e)=>match P.info? e with
  | none=>none
  | some ei=>match c with
   | .sl _ size rows=>if size=ei.size then (xZ rows.length lo hi mx).map λx=>(x.1,.sl false size ((rows.take x.2.2).drop x.2.1)) else none
   | .ref b off len=>match look b with
    | some k=>if k.size=ei.size/\mx.isNone=true then (xZ len lo hi none).map λx=>(x.1,.ref b (match off with|0=>x.2.1|o+1=>o+1+x.2.1) (x.2.2 - x.2.1)) else none
    | none=>none
   | _=>none
 | _=>none
def uM(P:Program)(e:Operand->Option V)(look:zj)(op:Op):Option (Bool×V):=
 match op with
 | .binOp op _ x y _=>match e x,e y with
  | some (.int k a),some (.int k' b)=>match op with
   | .shl|.shr=>rR op k a b
   | _=>if k=k' then rR op k a b else none
  | some (.str a),some (.str b)=>match op with
   | .add=>some (decide (a.size+b.size<=9223372036854775807),.str (a++b))
   | _=>none
  | _,_=>none
 | .index t x i=>match P.underlying t,e x,e i with
  | some .string,some (.str s),some (.int _ i)=>some (decide (0<=i/\i < s.size),.int .u8 (s.data.getD i.toNat 0).toNat)
  | _,_,_=>none
 | .indexAddr t x i=>match P.underlying t,e x,e i with
  | some (.slice el),some (.ref b off len),some (.int _ n)=>match P.info? el with
   | some ei=>match look b with
    | some k=>if k.size=ei.size then some (decide (0<=n)&&decide (n < len),.ptr b (off+n.toNat) 0) else none
    | none=>none
   | none=>none
  | _,_,_=>none
 | .slice t x lo hi mx=>match e x,rA e lo,rA e hi,rA e mx with
  | some c,some l,some h,some m=>PK P look t c l h m
  | _,_,_,_=>none
 | _=>none
def xX(P:Program)(G:zi)(ops:Array Oper)(i:Nat)(s:St):Option (Bool×List Wr):=
 match Ud ops i s with
 | some o=>if W0 s.n o.dst=true then (uM P (s.DA G o) (s.QO o []) o.op).map λx=>(x.1,Mf o.dst x.2) else none
 | none=>none
def jC(P:Program)(G:zi)(ops:Array Oper)(i:Nat)(s:St):Option (List (List V)×Nat×Bool×(List V->Option (List Wr))):=
 match Ud ops i s with
 | some o=>match o.op,o.dst with
  | .indexAddr t x j,some d=>if d < s.n then match s.DA G o x,s.DA G o j with
    | some (.sl _ size rows),some (.int _ n)=>if Xg P t=some size then some (rows,n.toNat,decide (0<=n),λr=>some [.t d (.snap r)]) else none
    | _,_=>none
   else none
  | .load t x,some d=>if d < s.n then match s.DA G o x with
    | some (.ptr b r off)=>match s.QO o [] b with
     | some k=>some (k.rows,r,true,λrow=>(N1 P t (row.drop off)).map λc=>[.t d c])
     | none=>none
    | _=>none
   else none
  | .store t x y,none=>match s.DA G o x,s.DA G o y with
   | some (.ptr b r off),some c=>match s.QO o [] b with
    | some k=>if k.Qo=true then some (k.rows,r,true,λrow=>(WI P t k.size row off c).map λr'=>[.b b (some ⟨k.size,true,k.rows.set r (Ym (X1 8) row r')⟩)]) else none
    | none=>none
   | _,_=>none
  | _,_=>none
 | none=>none
structure pW where
 d:Nat
 b:Option Nat
 rows:List (List V)
 len:Nat
 Qo:Bool
 sb:Option Nat
 ZS:List (List V)
 size:Nat
 bytes:Nat
 fl:Bool
def aU(look:zj)(size:Nat)(c:V):Option (Option Nat×List (List V)×Nat×Bool):=
 match c with
 | .Qu=>some (none,[],0,true)
 | .ref b 0 len=>match look b with
  | some k=>if k.size=size then some (some b,k.rows,len,k.Qo) else none
  | none=>none
 | _=>none
def Bb(look:zj)(size:Nat)(dst:Option Nat)(c:V):Option (Option Nat×List (List V)×Bool):=
 match c with
 | .Qu=>some (none,[],false)
 | .sl _ z rows=>if z=size then some (none,rows,true) else none
 | .ref b 0 len=>match look b with
  | some k=>if k.size=size/\len=k.rows.length/\¬dst=some b then some (some b,k.rows,false) else none
  | none=>none
 | _=>none
def Lp(P:Program)(G:zi)(ops:Array Oper)(ex:List Nat)(i:Nat)(s:St):Option pW:=
  match Ud ops i s with
  | some o=>match o.op,o.dst with
    | .call { callee:=.builtin .append,args:=as,argTypes:=ts },some d=>if d < s.n/\s.u d=false then match as.toList,ts.toList with
        | [x,y],[t,t2]=>match s.DA G o x,s.DA G o y,P.underlying t,P.underlying t2 with
          | some cx,some cy,some (.slice e),some (.slice _)=>match P.info? e with
            | some ei=>if 0 < ei.bytes/\(zeroV P e).map List.length=some ei.size then match aU (s.QO o ex) ei.size cx with
                | some (b,rows,len,Qo)=>match Bb (s.QO o ex) ei.size b cy with
                  | some (sb,ZS,fl)=>some ⟨d,b,rows,len,Qo,sb,ZS,ei.size,ei.bytes,fl⟩
                  | none=>none
                | none=>none
              else none
            | none=>none
          | _,_,_,_=>none
        | _,_=>none
      else none
    | _,_=>none
  | none=>none
def Qx6(P:Program)(G:zi)(ops:Array Oper)(col i:Nat)(s:St):Option (List (List V)×Nat×(List V->Option (List Wr))):=
  match Ud ops i s with
  | some o=>match o.op,o.dst with
    | .load t x,some d=>if d < s.n/\s.u d=false then match s.DA G o x with
        | some (.ptr b r off)=>match s.QO o [] b with
          | some k=>match Qy7 P t with
            | false=>some (k.rows,r,λrow=>match row[off]? with
              | some (.sl true z rs)=>if z < Y9 then some [.b b (some ⟨k.size,k.Qo,k.rows.set r (row.set off (.sl false z rs))⟩),.b d (some ⟨z,false,rs.map (·.map V.strip)⟩),.t d (.ref d 0 rs.length)] else none
              | _=>none)
            | true=>match P.info? t with
              | some ti=>some (k.rows,r,λrow=>match row[col]? with
                | some (.sl true z rs)=>if off<=col/\off+ti.size<=row.length/\(P.underlying t).isSome=true/\z < Y9 then
                    some [.b b (some ⟨k.size,k.Qo,k.rows.set r (row.set col (.sl false z rs))⟩),.b d (some ⟨z,false,rs.map (·.map V.strip)⟩),.t d (.agg (((row.set col (.ref d 0 rs.length)).drop off).take ti.size))]
                  else none
                | _=>none)
              | none=>none
          | none=>none
        | _=>none
      else none
    | _,_=>none
  | none=>none
def Qoh(P:Program)(G:zi)(ops:Array Oper)(hole:List V)(fin:List (List V))(col i:Nat)(s:St):Option (Nat×Qd×Nat×Nat×Qd×Nat×Nat×List V):=
  match Ud ops i s with
  | some o=>match o.op,o.dst with
    | .store t x y,none=>match s.DA G o x,s.DA G o y with
      | some (.ptr b r off),some c=>match s.QO o [] b with
        | some k=>if k.Qo=true then match WI P t k.size hole off c with
            | some r'=>match r'[col]? with
              | some (.ref d2 off2 len)=>match s.QO o [] d2 with
                | some kd=>if b=d2\/Y9<=k.size then none else some (b,k,r,d2,kd,off2,len,r'.set col (.sl true kd.size fin))
                | none=>none
              | _=>none
            | none=>none
          else none
        | none=>none
      | _,_=>none
    | _,_=>none
  | none=>none
def MO(sy:List Nat)(b:Nat)(f:Nat->Nat)(k:Qd):Qd:=match sy.contains b with
 | true=>k
 | false=>k.Qs f
def Qoz(L:List (Nat×Nat))(b:Nat):Bool:=L.any λx=>x.2==b
def rT(L:List (Nat×Nat))(b:Nat):Bool:=L.any λx=>x.1==b
def JN(P:Program)(G:zi)(ops:Array Oper)(Li Lo:List (Nat×Nat))(sy:List Nat)(i:Nat)(s:St):Option (Option Nat×FuncId×List V×List (Nat×Qd)):=
 match Eo P G ops ((Li++Lo).map (·.2)) Li Lo [] i s with
 | some (dst,f,as,bl,_)=>
  if (DD Li Lo []&&bl.all λx=>sy.contains (J7 (Li++Lo) x.1) || (E7 x.2.rows.flatten).all (Qoz Li))=true then
   some (dst,f,as,bl.map λx=>(x.1,MO sy (J7 (Li++Lo) x.1) (J5 (Li++Lo)) x.2))
  else none
 | none=>none
def JM(L:List (Nat×Nat))(dt:List Nat)(O:List (Nat×Qd))(res:V):Bool:=
 (O.all λx=>rT L x.1&&(dt.contains x.1 || (E7 x.2.rows.flatten).all (rT L)))&&(W6 res).all (rT L)
def R5(L:List (Nat×Nat))(dt:List Nat)(O:List (Nat×Qd))(dst:Option Nat)(res:V):List Wr:=
 (L.map λx=>Wr.b x.2 ((Qm O x.1).map (MO dt x.1 (J7 L))))++Mf dst (W1 (J7 L) res)
def HO(L:List (Nat×Nat))(dt:List Nat):List Nat:=(L.filter λx=>dt.contains x.1).map (·.2)
def Kc(look:zj)(vs:List Zp):Nat->V->Option V
 | 0,_=>none
 | n+1,c=>match c with
  | .ref b off len=>match vs.find? (λv=>v.b==b) with
   | some v=>match off with
    | 0=>match n with
     | 0=>none
     | _+1=>(look b).map λk=>.sl false k.size (v.l.map v.ty.d)
    | _+1=>none
   | none=>D2 look (n+1) (.ref b off len)
  | .ptr b i off=>match look b with
   | some k=>match k.rows[i]? with
    | some r=>(M2 (λc=>O0 (Kc look vs n c)) (r.drop off)).map .snap
    | none=>none
   | none=>none
  | .fn f a c=>match M2 (Kc look vs n) a,M2 (Kc look vs n) c with
   | some a',some c'=>some (.fn f a' c')
   | _,_=>none
  | .agg l=>(M2 (Kc look vs n) l).map .agg
  | .Qc l=>(M2 (Kc look vs n) l).map .Qc
  | c=>D2 look (n+1) c
def C0(look:zj)(vs:List Zp):Nat->V->List (Nat×List (List V)×Nat)
 | 0,_=>[]
 | n+1,c=>match c with
  | .ref b _ len=>match vs.find? (λv=>v.b==b) with
   | some _=>match look b with
    | some k=>[(b,k.rows,len)]
    | none=>[]
   | none=>[]
  | .ptr b i off=>match look b with
   | some k=>match k.rows[i]? with
    | some r=>(r.drop off).flatMap (C0 look vs n)
    | none=>[]
   | none=>[]
  | .fn _ a c=>a.flatMap (C0 look vs n)++c.flatMap (C0 look vs n)
  | .agg l=>l.flatMap (C0 look vs n)
  | .Qc l=>l.flatMap (C0 look vs n)
  | _=>[]
def Pb(P:Program)(G:zi)(ops:Array Oper)(ex:List Nat)(vs:List Zp)(i:Nat)(s:St):Option (Option Nat×FuncId×List V×List (Nat×List (List V)×Nat)):=
 match IH P G ops i s with
 | some (o,f,cs)=>match Qub vs with
  | true=>(M2 (Kc (s.QO o ex) vs 8) cs).map λds=>(o.dst,f,ds,cs.flatMap (C0 (s.QO o ex) vs 8))
  | false=>none
 | none=>none
def reach(look:zj):Nat->List Nat->List Nat
 | 0,bs=>bs
 | n+1,bs=>bs++reach look n (bs.flatMap λb=>match look b with|some k=>E7 (k.rows.headD [])|none=>[])
def HJ:List (List V)->List (List V)->List (List V)
 | e :: es,c :: cs=>Ym (X1 8) e c :: HJ es cs
 | _,cs=>cs
def Ge(sy:List Nat)(sb:Option Nat)(e rows:List (List V)):List (List V):=match sb with
 | some b=>match sy.contains b with
  | true=>rows
  | false=>HJ e rows
 | none=>rows
def YG(sy:List Nat)(ws:List Wr)(told:List Nat):List Nat:=(told.filter λb=>(MU ws).contains b)++sy.filter λb=>!(MU ws).contains b
section
variable (P:Program) (G:zi)
def lA(a:Nat){ρ:Type}(k:T P G ρ)(R:List Loc)(ws:List Wr)(s:St)(p:Y5)(sy:List Nat)(next:T P G ρ->St->Y5->List Nat->C):C:=
 match k with
 | .re a' w k'=>match a'==a with
  | true=>.re ws (next k' (s.app w.b) (p++[(R,w.b)]) (YG sy w.b w.dt))
  | false=>next k (s.app ws) (p++[(R,ws)]) (YG sy ws [])
 | k=>next k (s.app ws) (p++[(R,ws)]) (YG sy ws [])
def Xa(ops:Array Oper)(i:Nat){ρ:Type}(g:T P G ρ)(s:St)(p:Y5)(sy:List Nat)(next:T P G ρ->St->Y5->List Nat->C):C:=
 match HF P G ops i s with
 | some (R,ws)=>next g (s.app ws) (p++[(R,ws)]) (YG sy ws [])
 | none=>.stuck (1000+i)
def qZ(id:Nat)(ops:Array Oper)(i:Nat){ρ:Type}(g:T P G ρ)(s:St)(p:Y5)(sy:List Nat)(next:T P G ρ->St->Y5->List Nat->C):C:=
 match g with
 | .fail=>.fail
 | .Ql a c k=>match a==id * 1000+i+1 with
  | true=>match xX P G ops i s with
   | some (c',ws)=>.Ql c' (lA P G a k (MN ops i s []) ws s p sy next)
   | none=>.stuck 1
  | false=>Xa P G ops i (.Ql a c k) s p sy next
 | .re a w k=>match a==id * 1000+i+1 with
  | true=>match HF P G ops i s with
   | some (R,ws)=>.re ws (next k (s.app w.b) (p++[(R,w.b)]) (YG sy w.b w.dt))
   | none=>.stuck 2
  | false=>Xa P G ops i (.re a w k) s p sy next
 | .row a ty l j c k=>match a==id * 1000+i+1 with
  | true=>match jC P G ops i s with
   | some (rows,j',c',f)=>.row rows j' c' λx=>match f (ty.c x) with
    | some ws=>lA P G a (k x) (MN ops i s []) ws s p sy next
    | none=>.stuck 4
   | none=>.stuck 3
  | false=>Xa P G ops i (.row a ty l j c k) s p sy next
 | .app a ty l x bytes fl hf k=>match a==id * 1000+i+1 with
  | true=>match Lp P G ops [] i s with
   | some A=>.app A.rows A.len (Ge sy A.sb (x.map ty.c) A.ZS) A.bytes A.fl (
     let ws:=Gw A.b++(Gw A.sb++[.b A.d (some ⟨A.size,A.Qo,(l++x).map ty.c⟩),.t A.d (.ref A.d 0 (l++x).length)])
     next k (s.app ws) (p++[(MN ops i s [],ws)]) (YG sy ws [A.d]))
   | none=>.stuck 5
  | false=>Xa P G ops i (.app a ty l x bytes fl hf k) s p sy next
 | .call a sp Li Lo k=>match a==id * 1000+i+1 with
  | true=>match JN P G ops Li Lo sy i s with
   | some (dst,f,as,ins)=>.call f (Ym (X1 8) sp.args as) ins λr=>match JM (Li++Lo) sp.dt (sp.outs r) (sp.res r) with
    | true=>lA P G a (k r) (MN ops i s ((Li++Lo).map (·.2))) (R5 (Li++Lo) sp.dt (sp.outs r) dst (sp.res r)) s p sy λg s p sy=>next g s p (HO (Li++Lo) sp.dt++sy)
    | false=>.stuck 7
   | none=>.stuck 6
  | false=>Xa P G ops i (.call a sp Li Lo k) s p sy next
 | .call2 a sp Li Lo k k2=>match a==id * 1000+i+1 with
  | true=>match JN P G ops Li Lo sy i s with
   | some (dst,f,as,ins)=>.call2 f (Ym (X1 8) sp.args as) ins (λr=>match JM (Li++Lo) sp.dt (sp.outs (.inl r)) (sp.res (.inl r)) with
    | true=>lA P G a (k r) (MN ops i s ((Li++Lo).map (·.2))) (R5 (Li++Lo) sp.dt (sp.outs (.inl r)) dst (sp.res (.inl r))) s p sy λg s p sy=>next g s p (HO (Li++Lo) sp.dt++sy)
    | false=>.stuck 7) λr=>match JM (Li++Lo) sp.dt (sp.outs (.inr r)) (sp.res (.inr r)) with
    | true=>lA P G a (k2 r) (MN ops i s ((Li++Lo).map (·.2))) (R5 (Li++Lo) sp.dt (sp.outs (.inr r)) dst (sp.res (.inr r))) s p sy λg s p sy=>next g s p (HO (Li++Lo) sp.dt++sy)
    | false=>.stuck 7
   | none=>.stuck 6
  | false=>Xa P G ops i (.call2 a sp Li Lo k k2) s p sy next
 | .view a sp vs k=>match a==id * 1000+i+1 with
  | true=>match ops[i]? with
   | some o=>
    let ex:=reach (λb=>match sy.contains b with|true=>none|false=>s.b b) 3 (Oj s o)
    match Pb P G ops ex vs i s with
    | some (dst,f,ds,eqs)=>.view f (Ym (X1 8) sp.args ds) eqs λr=>match G0 (sp.res r)&&(sp.ins.isEmpty&&(sp.outs r).isEmpty) with
     | true=>next (k r) (s.app (Mf dst (sp.res r))) (p++[(MN ops i s ex,Mf dst (sp.res r))]) sy
     | false=>.stuck 10
    | none=>.stuck 9
   | none=>.stuck 8
  | false=>Xa P G ops i (.view a sp vs k) s p sy next
 | .Qq a R k=>match a==id * 1000+i+1 with
  | true=>match Ud ops i s with
   | some o=>match (match o.dst with|some d=>decide (d < s.n)&&!(s.u d)|none=>true) with
    | true=>.Qqy o.op o.dst (R.ZN.map λp=>s.DA G o p.1) (R.Zn.map λp=>s.b p.1) λr=>
      next (k r) (s.app (R.ws r)) (p++[(MN ops i s (R.Zn.map (·.1)),R.ws r)]) (YG sy (R.ws r) R.dt)
    | false=>.stuck 15
   | none=>.stuck 14
  | false=>Xa P G ops i (.Qq a R k) s p sy next
 | g=>Xa P G ops i g s p sy next
def SS(ops:Array Oper)(i:Nat)(s:St):Option (Nat×Bool):=
 match ops[i]? with
 | some o=>match o.guard with
  | some (j,_)=>match (ops[j]?).bind (·.dst) with
   | some d=>match s.t d with
    | .bool b=>some (d,b)
    | _=>none
   | none=>none
  | none=>none
 | none=>none
def Qy8(ops:Array Oper)(i:Nat)(s:St):Option (Nat×IntKind×Int):=
 match ops[i]? with
 | some o=>match o.op with
  | .indexAddr _ _ (.tmp t)=>match s.t t with
   | .int k m=>some (t,k,m)
   | _=>none
  | .index _ _ (.tmp t)=>match s.t t with
   | .int k m=>some (t,k,m)
   | _=>none
  | _=>none
 | none=>none
def uF(P:Program)(G:zi)(ops:Array Oper)(i:Nat)(s:St):Option Value:=
 match Ud ops i s with
 | some o=>match o.op with
  | .panic x=>match s.DA G o x with
   | some (.Zh v)=>match v with
    | .iface t y=>some (.iface t y)
    | _=>none
   | _=>none
  | _=>none
 | none=>none
def rg(id:Nat)(ops:Array Oper):List Nat->{ρ:Type}->T P G ρ->St->Y5->List Nat->(T P G ρ->St->Y5->List Nat->C)->(List PanicEntry->T P G ρ->St->Y5->List Nat->C)->C
 | [],_,g,s,p,sy,κ,_=>κ g s p sy
 | i :: l,_,g,s,p,sy,κ,κp=>match g with
  | .br a c x y=>match a==id * 1000+i+1 with
   | true=>match SS ops i s with
    | some (d,b)=>.br b (qZ P G id ops i x (s.QG d (.bool true)) p sy λg s p sy=>rg id ops l g s p sy κ κp) (qZ P G id ops i y (s.QG d (.bool false)) p sy λg s p sy=>rg id ops l g s p sy κ κp)
    | none=>.stuck 20
   | false=>qZ P G id ops i (.br a c x y) s p sy λg s p sy=>rg id ops l g s p sy κ κp
  | .Ke a n vs k=>match a==id * 1000+i+1 with
   | true=>match Qy8 ops i s with
    | some (t,kd,m)=>vs.foldr (λv r=>.br (m==v) (qZ P G id ops i (k v) (s.QG t (.int kd v)) p sy λg s p sy=>rg id ops l g s p sy κ κp) r) .fail
    | none=>.stuck 21
   | false=>qZ P G id ops i (.Ke a n vs k) s p sy λg s p sy=>rg id ops l g s p sy κ κp
  | .Qa a sp Li Lo k k2=>match a==id * 1000+i+1 with
   | true=>match JN P G ops Li Lo sy i s with
    | some (dst,f,as,ins)=>.call2 f (Ym (X1 8) sp.args as) ins (λr=>match JM (Li++Lo) sp.dt (sp.outs r) (sp.res r) with
     | true=>lA P G a (k r) (MN ops i s ((Li++Lo).map (·.2))) (R5 (Li++Lo) sp.dt (sp.outs r) dst (sp.res r)) s p sy λg s p sy=>rg id ops l g s p (HO (Li++Lo) sp.dt++sy) κ κp
     | false=>.stuck 7) λr=>match JM (Li++Lo) sp.dt (sp.Zu r) .undef with
     | true=>κp (sp.Hn r) (k2 r) (s.app (R5 (Li++Lo) sp.dt (sp.Zu r) none .undef)) (p++[(MN ops i s ((Li++Lo).map (·.2)),R5 (Li++Lo) sp.dt (sp.Zu r) none .undef)]) (HO (Li++Lo) sp.dt++YG sy (R5 (Li++Lo) sp.dt (sp.Zu r) none .undef) [])
     | false=>.stuck 7
    | none=>.stuck 6
   | false=>qZ P G id ops i (.Qa a sp Li Lo k k2) s p sy λg s p sy=>rg id ops l g s p sy κ κp
  | .Hn a k=>match a==id * 1000+i+1 with
   | true=>match uF P G ops i s with
    | some v=>κp (K3 v) k s (p++[(MN ops i s [],[])]) sy
    | none=>.stuck 22
   | false=>qZ P G id ops i (.Hn a k) s p sy λg s p sy=>rg id ops l g s p sy κ κp
  | g=>qZ P G id ops i g s p sy λg s p sy=>rg id ops l g s p sy κ κp
end
def ZT(us:List Nat)(i:Nat):Bool:=us.contains i || Qw i
def Mr(us sy:List Nat)(p:Nat×Qd):Bool:=sy.contains p.1 || p.2.rows.all λr=>r.all (okV (ZT us))
def Cf(kp wt:List Nat)(s:St):List (Nat×V):=(kp.filter λi=>wt.contains i).map λi=>(i,s.t i)
def dedup:List Nat->List Nat
 | []=>[]
 | x :: l=>match l.contains x with
  | true=>dedup l
  | false=>x :: dedup l
def OS(wb:List Nat)(s:St):List (Nat×Qd):=(dedup wb).filterMap λb=>match s.b b with
 | some k=>some (b,k)
 | none=>none
def Ag(kp:List Nat)(d:D)(s:St)(p:Y5)(sy:List Nat)(next:D->C):C:=
 let wt:=p.Pn
 let wb:=p.DS
 let us:=dedup (wb++d.us)
 NL (Cf kp wt s) λnt=>Ou sy (OS wb s) λnb=>
  match nt.all (λx=>okV (ZT us) x.2)&&nb.all (Mr us sy) with
  | true=>next ⟨d.n,nt++d.ts.filter (λx=>!wt.contains x.1),nb++d.bs.filter (λx=>!wb.contains x.1),us,sy⟩
  | false=>.stuck 30
def Sa(P:Program)(G:zi)(ops:Array Oper)(draw:Bool)(ts:List Nat)(d:D){ρ:Type}(g:T P G ρ)(s:St)(p:Y5):C:=
 match g with
 | .done _=>match (!draw || Mg ops p)&&((p.DS.all λb=>!(d.bs.any λx=>x.1==b))&&(p.Pn.all λt=>(ops.toList.filterMap (·.dst)).contains t)) with
  | true=>.Qju (ts.map s.t)
  | false=>.stuck 31
 | .fail=>.fail
 | _=>.stuck 32
def Bx(ops:Array Oper)(ts:List Nat)(d:D)(vs:List V):D:=
 { d with ts:=ts.zip vs++d.ts.filter λx=>!(ops.toList.filterMap (·.dst)).contains x.1&&!ts.contains x.1 }
def Ext.us(x:Ext):List Nat:=x.bs.map (·.1)
def Ext.D(n:Nat)(x:Ext):D:=⟨n,x.ts,x.bs,x.us,x.dt⟩
def Ext.ok(x:Ext):Bool:=x.ts.all (λp=>okV (ZT x.us) p.2)&&x.bs.all (Mr x.us x.dt)
def I4:Exit->Bool
 | .normal=>true
 | _=>false
def xW(dt:List Nat)(id:Nat)(e:Qd)(act:Option Qd):Option Qd:=match dt.contains id with
 | true=>act
 | false=>act.map λk=>⟨k.size,k.Qo,HJ e.rows k.rows⟩
def KM(x:Ext)(st:St):List (Nat×V):=x.ts.map λp=>(p.1,X1 8 p.2 (st.t p.1))
def KE(x:Ext)(st:St):List (Nat×Option Qd):=x.bs.map λp=>(p.1,xW x.dt p.1 p.2 (st.b p.1))
def Ia(e:Exit)(x:Ext)(d:D):C:=.fin none (some e) (KM x d.st) (KE x d.st)
def fin(P:Program)(G:zi){ρ:Type}(F:YH ρ)(g:T P G ρ)(e:Exit)(d:D):C:=
 match g with
 | .done r=>match F with
  | .fn rs res outs=>match e with
   | .normal|.ret=>.fin ((L7 P d.st rs).map (X1 8 (res r))) none [] ((outs r).map λp=>(p.1,d.st.b p.1))
   | _=>.stuck 41
  | .FE E=>Ia e (E r) d
  | .GQ S E=>match r with
   | .inl y=>match I4 e with
    | true=>Ia e (S y) d
    | false=>.stuck 42
   | .inr z=>match I4 e with
    | true=>.stuck 43
    | false=>Ia e (E z) d
  | .reg _ _=>.stuck 44
  | .rK rs res outs _ Zu=>match r with
   | .inl r=>match e with
    | .normal|.ret=>.fin ((L7 P d.st rs).map (X1 8 (res r))) none [] ((outs r).map λp=>(p.1,d.st.b p.1))
    | _=>.stuck 41
   | .inr z=>.fin none (some e) [] ((Zu z).map λp=>(p.1,d.st.b p.1))
 | _=>.stuck 40
def IA(b z:Nat)(rows:List (List V)):Nat->V->V
 | 0,_=>.undef
 | n+1,c=>match c with
  | .ref b' off len=>match b'==b with
   | true=>match off with
    | 0=>.sl false z rows
    | o+1=>.ref b' (o+1) len
   | false=>.ref b' off len
  | .fn f x y=>.fn f (x.map (IA b z rows n)) (y.map (IA b z rows n))
  | .agg l=>.agg (l.map (IA b z rows n))
  | .Qc l=>.Qc (l.map (IA b z rows n))
  | c=>c
def Xr(b:Nat)(rows:List (List V)):Nat->V->List (Nat×List (List V)×Nat)
 | 0,_=>[]
 | n+1,c=>match c with
  | .ref b' off len=>match b'==b with
   | true=>match off with
    | 0=>[(b,rows,len)]
    | _+1=>[]
   | false=>[]
  | .fn _ x y=>x.flatMap (Xr b rows n)++y.flatMap (Xr b rows n)
  | .agg l=>l.flatMap (Xr b rows n)
  | .Qc l=>l.flatMap (Xr b rows n)
  | _=>[]
def iX(b m:Nat):Nat->V->V
 | 0,c=>c
 | n+1,c=>match c with
  | .ref b' off len=>match b'==b with
   | true=>match off with
    | 0=>.ref b' 0 m
    | o+1=>.ref b' (o+1) len
   | false=>.ref b' off len
  | .fn f x y=>.fn f (x.map (iX b m n)) (y.map (iX b m n))
  | .agg l=>.agg (l.map (iX b m n))
  | .Qc l=>.Qc (l.map (iX b m n))
  | c=>c
def lnB(sy:List Nat)(b m:Nat)(p:Nat×Qd):Nat×Qd:=match sy.contains p.1 with
 | true=>p
 | false=>(p.1,⟨p.2.size,p.2.Qo,p.2.rows.map (·.map (iX b m 6))⟩)
def Qzc(sy:List Nat)(b:Nat)(p:Nat×Qd):List (Nat×List (List V)×Nat):=match sy.contains p.1 with
 | true=>[]
 | false=>p.2.rows.flatMap λr=>r.flatMap (Xr b [] 6)
def ghE(w:bI)(d:D):List (Nat×List (List V)×Nat):=
 match w with
 | .share v _=>match d.st.b v.b with
  | some k=>(d.ts.flatMap λp=>Xr v.b k.rows 6 p.2)++d.bs.flatMap λp=>match p.1==v.b || d.sy.contains p.1 with
   | true=>[]
   | false=>p.2.rows.flatMap λr=>r.flatMap (Xr v.b k.rows 6)
  | none=>[]
 | .len b _ _ _=>(d.ts.flatMap λp=>Xr b [] 6 p.2)++d.bs.flatMap (Qzc d.sy b)
 | _=>[]
def LR(d:D)(v:Zp)(k:Qd):List (Nat×Qd):=(d.bs.filter λp=>!(p.1==v.b)).map λp=>(p.1,match d.sy.contains p.1 with
 | true=>p.2
 | false=>⟨p.2.size,p.2.Qo,p.2.rows.map (·.map (IA v.b k.size (v.l.map v.ty.d) 6))⟩)
def PW(s:St)(b:Nat):Bool:=match s.b b with
 | some k=>decide (k.size < Y9)
 | none=>false
theorem Nj{s:St}{b:Nat}{k:Qd}(h:PW s b=true)(hk:s.b b=some k):k.size < Y9:=by
 grind [PW]
def setCell(k:Qd)(j:Nat)(c:V):Qd:=⟨k.size,k.Qo,match k.rows with|r :: rs=>r.set j c :: rs|[]=>[]⟩
def Hs(sy:List Nat)(b k:Nat)(p:Nat×Qd):Nat×Qd:=match sy.contains p.1 with
 | true=>p
 | false=>(p.1,⟨p.2.size,p.2.Qo,p.2.rows.map (·.map (R4 b k 6))⟩)
def Qjp(d:D)(b:Nat)(kb:Qd)(rows:List (List V))(k:Nat)(next:D->C):C:=
 NL (d.ts.map λp=>(p.1,R4 b k 6 p.2)) λts=>Ou (b :: d.sy) ((b,⟨kb.size,kb.Qo,rows⟩) :: (d.bs.filter λp=>!(p.1==b)).map (Hs d.sy b k)) λbs=>
  next ⟨d.n,ts,bs,d.us,b :: d.sy⟩
def Ph(w:bI)(d:D)(next:D->C):C:=
 match w with
 | .XO b t size=>match d.st.t t,ZT d.us b || !decide (size < Y9) with
  | .Qu,false=>next { d with ts:=(t,.ref b 0 0) :: d.ts.filter (λx=>!(x.1==t)),bs:=(b,⟨size,true,[]⟩) :: d.bs,us:=b :: d.us }
  | _,_=>.stuck 50
 | .Dv b x j size=>match d.st.b x,ZT d.us b || !decide (size < Y9),d.sy.contains x with
  | some k,false,false=>match k.rows with
   | r :: _=>match r[j]? with
    | some .Qu=>next { d with bs:=(b,⟨size,true,[]⟩) :: (x,setCell k j (.ref b 0 0)) :: d.bs.filter (λp=>!(p.1==x)),us:=b :: d.us }
    | _=>.stuck 52
   | []=>.stuck 52
  | _,_,_=>.stuck 53
 | .Qs a b=>match ZT d.us b,a==b with
  | false,false=>NL (d.ts.map λp=>(p.1,W1 (K8 a b) p.2)) λts=>Ou ((d.sy.filter λx=>!(x==b)).map (K8 a b)) (d.bs.map λp=>(K8 a b p.1,MO d.sy p.1 (K8 a b) p.2)) λbs=>
    next ⟨d.n,ts,bs,b :: d.us,(d.sy.filter λx=>!(x==b)).map (K8 a b)⟩
  | _,_=>.stuck 54
 | .drop l=>
  let us:=d.us.filter λb=>!l.contains b
  match (d.bs.filter λp=>!l.contains p.1).all λp=>ZT us p.1&&Mr us d.sy p with
  | true=>next ⟨d.n,d.ts.filter (λp=>okV (ZT us) (d.st.t p.1)),d.bs.filter (λp=>!l.contains p.1),us,d.sy⟩
  | false=>.stuck 55
 | .len b m _ _=>NL (d.ts.map λp=>(p.1,iX b m 6 p.2)) λts=>Ou d.sy (d.bs.map (lnB d.sy b m)) λbs=>next ⟨d.n,ts,bs,d.us,d.sy⟩
 | .tell b es=>match d.st.b b,d.sy.contains b with
  | some k,false=>Ou d.sy ((b,⟨k.size,k.Qo,HJ es k.rows⟩) :: d.bs.filter λp=>!(p.1==b)) λbs=>next { d with bs:=bs }
  | _,_=>.stuck 58
 | .share v _=>match d.st.b v.b with
  | some k=>match d.sy.contains v.b || k.rows.all λr=>r.all H2 with
   | true=>NL (d.ts.map λp=>(p.1,IA v.b k.size (v.l.map v.ty.d) 6 p.2)) λts=>
     Ou d.sy (LR d v k) λbs=>
     next ⟨d.n,ts,bs,v.b :: d.us,d.sy⟩
   | false=>.stuck 56
  | none=>.stuck 57
def CY(c:Code):Bool:=match c with
 | .region _ ops _=>ops.toList.any λo=>match o.op with
  | .range _ _=>true
  | _=>false
 | _=>false
abbrev Rec(P:Program)(G:zi):=(ρ:Type)->YH ρ->T P G ρ->Code⊕Exit->List Kf->D->C
section
variable {P:Program} {G:zi} (kp:List Nat) (rec:Rec P G) {ρ:Type} (F:YH ρ)
def sxE(g:T P G ρ)(e:Exit)(K:List Kf)(d:D):C:=
 match K with
 | []=>fin P G F g e d
 | .seq y :: K=>match I4 e with
  | true=>rec ρ F g (.inl y) K d
  | false=>rec ρ F g (.inr e) K d
 | .block id :: K=>match e with
  | .exit id'=>match id'==id with
   | true=>rec ρ F g (.inr .normal) K d
   | false=>rec ρ F g (.inr (.exit id')) K d
  | e=>rec ρ F g (.inr e) K d
 | .scope :: K=>match e with
  | .goto _=>.stuck 60
  | e=>rec ρ F g (.inr e) K d
 | .lp c :: K=>match I4 e with
  | true=>rec ρ F g (.inl c) (.lp c :: K) d
  | false=>rec ρ F g (.inr e) K d
def Af(P:Program)(G:zi)(ops:Array Oper)(ip:Nat):List Nat->St->Y5->Option Y5
 | [],_,p=>some p
 | i :: l,s,p=>match ((Jp ops.toList).getD i 0).testBit ip with
  | true=>Af P G ops ip l s (p++[([],[])])
  | false=>match HF P G ops i s with
   | some (R,ws)=>Af P G ops ip l (s.app ws) (p++[(R,ws)])
   | none=>none
def KD(d:D)(p:Y5):D:=⟨d.n,d.ts.filter λx=>!p.Pn.contains x.1,d.bs.filter λx=>!p.DS.contains x.1,p.DS++d.us,d.sy⟩
def cY(id:Nat)(ops:Array Oper)(draw:Bool)(g:T P G ρ)(K:List Kf)(d:D):C:=
 rg P G id ops (List.range' 0 ops.size) g d.st [] d.sy (λg s p sy=>match !draw || Mg ops p with
  | true=>Ag kp d s p sy λd'=>rec ρ F g (.inr .normal) K d'
  | false=>.stuck 63) λv g s p sy=>match draw with
  | false=>Ag kp d s p sy λd'=>rec ρ F g (.inr (.panic v)) K d'
  | true=>match Af P G ops (p.length - 1) (List.range' p.length (ops.size - p.length)) s p with
   | some p'=>match Mg ops p' with
    | true=>rec ρ F g (.inr (.panic v)) K (KD d p')
    | false=>.stuck 77
   | none=>.stuck 77
def sxR(id:Nat)(ops:Array Oper)(draw:Bool)(g:T P G ρ)(K:List Kf)(d:D):C:=
 match g with
 | .Zz id' ts first E k=>match id'==id with
  | true=>.bind (rg P G id ops (List.range' 0 ops.size) first d.st [] d.sy (λg s p _=>Sa P G ops draw ts d g s p) λ_ _ _ _ _=>.stuck 78) λe=>match (E e).all (okV (ZT d.us))&&(E e).length==ts.length with
   | true=>rec ρ F (k e) (.inr .normal) K (Bx ops ts d (E e))
   | false=>.stuck 61
  | false=>cY kp rec F id ops draw (.Zz id' ts first E k) K d
 | g=>cY kp rec F id ops draw g K d
def sxN(g:T P G ρ)(c:Code)(K:List Kf)(d:D):C:=
 match c with
 | .cond o x y=>match g with
  | .br _ _ a b=>match d.st.ev G o with
   | some (.bool c)=>.br c (rec ρ F a (.inl x) K d) (rec ρ F b (.inl y) K d)
   | _=>.stuck 65
  | .tt k=>match d.st.ev G o with
   | some (.bool c)=>match c with
    | true=>rec ρ F k (.inl x) K d
    | false=>.stuck 66
   | _=>.stuck 66
  | .ff k=>match d.st.ev G o with
   | some (.bool c)=>match c with
    | false=>rec ρ F k (.inl y) K d
    | true=>.stuck 67
   | _=>.stuck 67
  | _=>.stuck 68
 | .block id x=>rec ρ F g (.inl x) (.block id :: K) d
 | .scope x=>rec ρ F g (.inl x) (.scope :: K) d
 | .loop x=>match g with
  | .lp S body x0=>match F with
   | .FE E=>match K with
    | []=>.loop (KM (S x0) d.st) (KE (S x0) d.st) λy=>match (S y).ok&&I4 (S y).ex with
     | true=>rec _ (.GQ S E) (body y) (.inl x) [] ((S y).D d.n)
     | false=>.stuck 69
    | _ :: _=>.stuck 73
   | _=>.stuck 74
  | g=>rec ρ F g (.inl x) (.lp x :: K) d
 | .rangeFunc o ps as bd=>match g with
  | .sub S k=>match S.x.ok with
   | true=>.sub (.rangeFunc o ps as bd) d.n (KM S.x d.st) (KE S.x d.st) λe=>match (S.E e).ok with
    | true=>rec ρ F (k e) (.inr (S.E e).ex) K ((S.E e).D d.n)
    | false=>.stuck 64
   | false=>.stuck 76
  | .EW S k k2=>match S.x.ok with
   | true=>.EW (.rangeFunc o ps as bd) d.n (KM S.x d.st) (KE S.x d.st) (λe=>match (S.E (.inl e)).ok with
    | true=>rec ρ F (k e) (.inr (S.E (.inl e)).ex) K ((S.E (.inl e)).D d.n)
    | false=>.stuck 64) λe=>match (S.E (.inr e)).ok with
    | true=>rec ρ F (k2 e) (.inr (S.E (.inr e)).ex) K ((S.E (.inr e)).D d.n)
    | false=>.stuck 64
   | false=>.stuck 76
  | _=>.stuck 75
 | _=>.stuck 71
def sxB(g:T P G ρ)(c:Code)(K:List Kf)(d:D):C:=
 match g with
 | .bind 0 first E k=>.bind (rec _ (.FE E) first (.inl c) [] d) λe=>match (E e).ok with
  | true=>rec ρ F (k e) (.inr (E e).ex) K ((E e).D d.n)
  | false=>.stuck 64
 | .QC 0 first E E2 k k2=>.QC (rec _ (.FE (Sum.elim E E2)) first (.inl c) [] d)
  (λe=>match (E e).ok with
   | true=>rec ρ F (k e) (.inr (E e).ex) K ((E e).D d.n)
   | false=>.stuck 64) λe=>match (E2 e).ok with
   | true=>rec ρ F (k2 e) (.inr (E2 e).ex) K ((E2 e).D d.n)
   | false=>.stuck 64
 | .QC (j+1) first E E2 k k2=>match c with
  | .block id x=>rec ρ F (.QC j first E E2 k k2) (.inl x) (.block id :: K) d
  | .scope x=>rec ρ F (.QC j first E E2 k k2) (.inl x) (.scope :: K) d
  | .loop x=>rec ρ F (.QC j first E E2 k k2) (.inl x) (.lp x :: K) d
  | _=>.stuck 72
 | .bind (j+1) first E k=>match c with
  | .block id x=>rec ρ F (.bind j first E k) (.inl x) (.block id :: K) d
  | .scope x=>rec ρ F (.bind j first E k) (.inl x) (.scope :: K) d
  | .loop x=>rec ρ F (.bind j first E k) (.inl x) (.lp x :: K) d
  | _=>.stuck 72
 | g=>sxN rec F g c K d
def BO(g:T P G ρ)(c:Code)(K:List Kf)(d:D):C:=
 match g with
 | .sub S k=>match S.x.ok with
  | true=>.sub c d.n (KM S.x d.st) (KE S.x d.st) λe=>match (S.E e).ok with
   | true=>rec ρ F (k e) (.inr (S.E e).ex) K ((S.E e).D d.n)
   | false=>.stuck 64
  | false=>.stuck 76
 | .EW S k k2=>match S.x.ok with
  | true=>.EW c d.n (KM S.x d.st) (KE S.x d.st) (λe=>match (S.E (.inl e)).ok with
   | true=>rec ρ F (k e) (.inr (S.E (.inl e)).ex) K ((S.E (.inl e)).D d.n)
   | false=>.stuck 64) λe=>match (S.E (.inr e)).ok with
   | true=>rec ρ F (k2 e) (.inr (S.E (.inr e)).ex) K ((S.E (.inr e)).D d.n)
   | false=>.stuck 64
  | false=>.stuck 76
 | _=>.stuck 75
def sxC(g:T P G ρ)(c:Code)(K:List Kf)(d:D):C:=
 match c with
 | .skip=>rec ρ F g (.inr .normal) K d
 | .label _=>rec ρ F g (.inr .normal) K d
 | .exit id=>rec ρ F g (.inr (.exit id)) K d
 | .ret=>rec ρ F g (.inr .ret) K d
 | .seq x y=>match CY x with
  | true=>BO rec F g (.seq x y) K d
  | false=>rec ρ F g (.inl x) (.seq y :: K) d
 | .region id ops draw=>sxR kp rec F id ops draw g K d
 | c=>sxB rec F g c K d
def Qwt(a:Nat)(cur:Code⊕Exit)(K:List Kf):Bool:=
 match cur with
 | .inr _=>K.isEmpty&&a==0
 | .inl (.loop _)=>a==1
 | .inl (.rangeFunc _ _ _ _)=>a==1
 | .inl (.seq x _)=>a==1&&CY x
 | .inl (.region id _ _)=>a==id+2
 | _=>false
def cJ(g:T P G ρ)(cur:Code⊕Exit)(K:List Kf)(d:D):C:=
 match cur with
 | .inr e=>sxE rec F g e K d
 | .inl c=>sxC kp rec F g c K d
def sxS(g:T P G ρ)(cur:Code⊕Exit)(K:List Kf)(d:D):C:=
 match g with
 | .fail=>.fail
 | .fact p _ k=>.fact p λh=>rec ρ F (k h) cur K d
 | .br a c x y=>match a==999999 with
  | true=>.br c (rec ρ F x cur K d) (rec ρ F y cur K d)
  | false=>match cur with
   | .inl (.region id ops draw)=>match a==990000+id with
    | true=>.br c (BO rec F x (.region id ops draw) K d) (rec ρ F y (.inl (.region id ops draw)) K d)
    | false=>cJ kp rec F (.br a c x y) (.inl (.region id ops draw)) K d
   | cur=>cJ kp rec F (.br a c x y) cur K d
 | .gh a w k=>match Qwt a cur K with
  | true=>.gh (ghE w d) (Ph w d λd'=>rec ρ F k cur K d')
  | false=>cJ kp rec F (.gh a w k) cur K d
 | .Ic a b ty l n hs k=>match Qwt a cur K with
  | true=>match d.st.b b,decide (b < 1000000)&&PW d.st b with
   | some kb,true=>.Wf kb.rows n (Qjp d b kb ((l.drop n).map ty.c) n λd'=>rec ρ F k cur K d')
   | _,_=>.stuck 59
  | false=>cJ kp rec F (.Ic a b ty l n hs k) cur K d
 | g=>cJ kp rec F g cur K d
end
def sx(P:Program)(G:zi)(kp:List Nat)(n:Nat):Rec P G:=
 Nat.rec (λ_ _ _ _ _ _=>.stuck 99) (λ_ ih ρ F g cur K d=>sxS kp ih (ρ:=ρ) F g cur K d) n
end Go.EV
namespace Go.EV
open Go
theorem UZ(f:V->V->V):∀(es cs:List V),(Ym f es cs).length=cs.length
 | [],cs=>by cases cs<;>rfl
 | _ :: _,[]=>rfl
 | e :: es,c :: cs=>by simp[Ym,UZ f es cs]
theorem Ju(f:V->V->V):∀(es cs:List V) (i:Nat) (d:V),(Ym f es cs)[i]?=some d->∃c,cs[i]?=some c/\(d=c\/∃e,d=f e c)
 | [],cs,i,d,h=>by cases cs<;>exact⟨d,h,.inl rfl⟩
 | _ :: _,[],i,d,h=>by simp[Ym] at h
 | e :: es,c :: cs,i,d,h=>by
  cases i with
  | zero=>simp[Ym] at h;grind
  | succ i=>
   simp only[Ym,List.getElem?_cons_succ] at h;obtain⟨c',h1,h2⟩:=Ju f es cs i d h;grind
theorem WQ{γ:Gh}{w:World}{bs:zj}{u:zl}:∀(n:Nat) (e c:V) (v:Value),Qz γ w bs u c v->Qz γ w bs u (X1 n e c) v
 | 0,_,_,_,h=>h
 | n+1,e,c,v,h=>by
  have ih:=WQ (γ:=γ) (w:=w) (bs:=bs) (u:=u) n;cases c<;>simp only[X1]<;>try exact h
  case Qu=>
   split
   ·have:=h.QA;subst this;exact .data (.Zs _ _)
   ·exact h
  case sl o z r=>
   split
   ·exact h.strip
   ·exact h
  case agg cs=>
   split
   ·rename_i es;obtain⟨vs,rfl,h1,h2⟩:=h.QE;refine .agg _ vs (by rw[UZ];exact h1) λi c v hc hv=>?_;obtain⟨c',k1,k2⟩:=Ju _ _ _ _ _ hc;grind
   ·exact h
  case Qc cs=>
   split
   ·rename_i es;obtain⟨vs,rfl,h1,h2⟩:=h.WA;refine .Qc _ vs (by rw[UZ];exact h1) λi c v hc hv=>?_;obtain⟨c',k1,k2⟩:=Ju _ _ _ _ _ hc;grind
   ·exact h
theorem xH:∀(n:Nat) (e c:V),(X1 n e c).QK=true->X1 n e c=c\/c=.Qu
 | 0,_,_,_=>.inl rfl
 | n+1,e,c,h=>by
  cases c
  case Qu=>exact .inr rfl
  case sl o z r=>
   simp only[X1] at h ⊢;cases e with
   | sl o' z' r'=>grind [V.QK]
   | _=>exact .inl rfl
  case agg cs=>simp only[X1] at h;grind [V.QK]
  case Qc cs=>simp only[X1] at h;grind [V.QK]
  all_goals exact .inl rfl
theorem CF{bs:zj}{u:zl}(n:Nat)(e c:V):Wk bs u c (X1 n e c):=λ_ _ v h=>WQ n e c v h
theorem WZ{bs:zj}{u:zl}:∀(es cs:List (List V)),W3 (λc c'=>Wk bs u c c'/\(c'.QK=true->c'=c\/c=.Qu)) cs (HJ es cs)
 | [],cs=>by
  cases cs<;>exact⟨rfl,λi r' h=>⟨r',h,rfl,λj c' hc=>⟨c',hc,Wk.refl _,λ_=>.inl rfl⟩⟩⟩
 | _ :: _,[]=>⟨rfl,(by grind [HJ])⟩
 | e :: es,c :: cs=>by
  obtain⟨h1,h2⟩:=WZ (bs:=bs) (u:=u) es cs;refine⟨by simp[HJ,h1],λi r' h=>?_⟩;cases i with
  | zero=>
   simp only[HJ,qa,zD] at h;subst h;refine⟨c,rfl,UZ _ _ _,λj c' hc=>?_⟩;obtain⟨c0,k1,k2⟩:=Ju _ _ _ _ _ hc;refine⟨c0,k1,?_⟩;rcases k2 with rfl|⟨e0,rfl⟩
   ·exact⟨Wk.refl _,λ_=>.inl rfl⟩
   grind [CF,xH]
  | succ i=>
   grind [List.getElem?_cons_succ,HJ]
theorem W3.same{R:V->V->Prop}(h:∀c,R c c)(l:List (List V)):W3 R l l:=⟨rfl,(by grind)⟩
theorem W3.append{R:V->V->Prop}{l l' m m':List (List V)}(h:W3 R l l')(k:W3 R m m'):W3 R (l++m) (l'++m'):=
  ⟨by simp[h.1,k.1],λi r' hr=>by
    by_cases hi:i < l'.length
    · rw[wo hi] at hr
      rw[wo (by rw[<-h.1];exact hi)];exact h.2 i r' hr
    · rw[ww (by omega)] at hr
      rw[ww (by rw[<-h.1];omega),<-h.1];exact k.2 _ r' hr⟩
theorem W3.set{R:V->V->Prop}(h:∀c,R c c)(l:List (List V))(j:Nat){r r':List V}(k:W3 R [r] [r']):W3 R (l.set j r) (l.set j r'):=
  ⟨by simp,λi q hq=>by
    by_cases hi:j=i
    · subst hi
      have hl:j < l.length:=by
        grind
      rw[List.getElem?_set_self hl] at hq ⊢;simp only[zD] at hq;subst hq;obtain⟨r0,h1,h2⟩:=k.2 0 r' rfl;grind
    grind⟩
def Ec(bs:zj)(u:zl)(c c':V):Prop:=Wk bs u c c'/\(c'.QK=true->c'=c\/c=.Qu)
theorem Ec.same{bs:zj}{u:zl}(c:V):Ec bs u c c:=⟨Wk.refl _,λ_=>.inl rfl⟩
theorem QU.pV{G:zi}(s:St)(d:Nat)(z:Nat)(x:Bool){rows rows':List (List V)}(h:∀bs u,W3 (Ec bs u) rows rows')(t:List (Nat×V)) :
  QU G ((s.Qj d ⟨z,x,rows⟩).app (t.map λp=>.t p.1 p.2)) ((s.Qj d ⟨z,x,rows'⟩).app (t.map λp=>.t p.1 p.2)):=by
 have key:∀(t:List (Nat×V)) (s s':St),s'.n=s.n->s'.u=s.u->s'.t=s.t->(s'.app (t.map λp=>.t p.1 p.2)).n=(s.app (t.map λp=>.t p.1 p.2)).n/\(s'.app (t.map λp=>.t p.1 p.2)).u=(s.app (t.map λp=>.t p.1 p.2)).u/\(s'.app (t.map λp=>.t p.1 p.2)).t=(s.app (t.map λp=>.t p.1 p.2)).t/\(s'.app (t.map λp=>.t p.1 p.2)).b=s'.b/\(s.app (t.map λp=>.t p.1 p.2)).b=s.b:=by
  intro t;induction t with
  | nil=>intro s s' h1 h2 h3;exact⟨h1,h2,h3,rfl,rfl⟩
  | cons p t ih=>
   intro s s' h1 h2 h3;exact ih (s.QG p.1 p.2) (s'.QG p.1 p.2) h1 h2 (by simp[St.QG,h3])
 obtain⟨h1,h2,h3,h4,h5⟩:=key t (s.Qj d ⟨z,x,rows⟩) (s.Qj d ⟨z,x,rows'⟩) rfl rfl rfl;refine QU.cells h1 h2 (by grind [Wk.refl]) λb=>?_;rw[h4,h5];simp only[St.Qj];by_cases hb:b=d
 ·subst hb;exact .inr ⟨_,_,if_pos rfl,if_pos rfl,rfl,rfl,h _ _⟩
 ·rw[if_neg hb,if_neg hb];cases hs:s.b b with
  | none=>grind
  | some k=>exact .inr ⟨k,k,rfl,rfl,rfl,rfl,W3.same (λc=>Ec.same c) _⟩
theorem xK{bs:zj}{u:zl}(e c:List V):W3 (Ec bs u) [c] [Ym (X1 8) e c]:=WZ [e] [c]
mutual
theorem kC:∀(n:Nat) (v:V) (k:V->C),nrm n v k=k v
 | 0,_,_=>rfl
 | n+1,v,k=>by
  cases v<;>simp only[nrm]<;>simp only[FJ n]
theorem FJ:∀(n:Nat) (l:List V) (k:List V->C),FU n l k=k l
 | 0,_,_=>rfl
 | n+1,l,k=>by
  cases l with
  | nil=>rfl
  | cons v l=>simp only[FU,kC n,FJ n]
end
theorem Co:∀(l:List (List V)) (k:List (List V)->C),gR l k=k l
 | [],_=>rfl
 | r :: l,k=>by simp only[gR,FJ,Co l]
theorem WV:∀(l:List (Nat×V)) (k:List (Nat×V)->C),NL l k=k l
 | [],_=>rfl
 | (i,v) :: l,k=>by simp only[NL,kC,WV l]
theorem UG(sy:List Nat):∀(l:List (Nat×Qd)) (k:List (Nat×Qd)->C),Ou sy l k=k l
 | [],_=>rfl
 | (i,b) :: l,k=>by
  cases h:sy.contains i<;>simp only[Ou,h,Co,UG sy l]
theorem Dg{op:BinOp}{k:IntKind}{a b:Int}{c:Bool}{v:V}(h:rR op k a b=some (c,v))(hc:c=true):Od op k a b=some v\/Mz op k a b=some v:=by
 subst hc;cases op<;>simp only[rR,zD,zP,reduceCtorEq] at h
 case quo=>obtain⟨h1,rfl⟩:=h;left;simp only[wn,beq_eq_false_iff_ne,ne_eq] at h1;simp[Od,h1]
 case rem=>obtain⟨h1,rfl⟩:=h;left;simp only[wn,beq_eq_false_iff_ne,ne_eq] at h1;simp[Od,h1]
 case shl=>obtain⟨h1,rfl⟩:=h;right;simp only[zI] at h1;simp[Mz,show ¬b < 0 by omega]
 case shr=>obtain⟨h1,rfl⟩:=h;right;simp only[zI] at h1;simp[Mz,show ¬b < 0 by omega]
theorem Iq{lo:Option V}{h:Nat}{c:Bool}{l:Nat}(e:loC lo h=some (c,l))(hc:c=true):iD lo h=some l:=by
 unfold loC at e;unfold iD;grind
theorem Iw{n:Nat}{hi mx:Option V}{c:Bool}{h:Nat}(e:hiC n hi mx=some (c,h))(hc:c=true):Vg n hi mx=some h:=by
 unfold hiC at e;unfold Vg;grind
theorem Dm{n:Nat}{lo hi mx:Option V}{c:Bool}{l h:Nat}(e:xZ n lo hi mx=some (c,l,h))(hc:c=true):Vg n hi mx=some h/\iD lo h=some l:=by
 unfold xZ at e;split at e
 ·rename_i c1 h' e1;split at e
  ·rename_i c2 l' e2;simp only[zD,zP] at e;obtain⟨e3,rfl,rfl⟩:=e;subst hc;split at e3
   ·subst e3;have:c1=true:=by simp[hiC] at e1;exact e1.1.symm▸rfl
    exact⟨Iw e1 this,Iq e2 rfl⟩
   ·subst e3;have:c2=true:=by simp[loC] at e2;exact e2.1.symm▸rfl
    exact⟨Iw e1 rfl,Iq e2 this⟩
   ·simp only[zG] at e3;grind [Iw,Iq]
  ·simp at e
 ·simp at e
theorem Nh{P:Program}{look:zj}{t:TypeId}{c d:V}{lo hi mx:Option V}{b:Bool}(e:PK P look t c lo hi mx=some (b,d))(hb:b=true):HN P look t c lo hi mx=some d:=by
 unfold PK at e;unfold HN;split at e
 ·rename_i hu;rw[hu];split at e
  ·obtain⟨⟨c1,l,h⟩,e1,e2⟩:=zF.1 e;simp only[zP] at e2;obtain⟨rfl,rfl⟩:=e2;obtain⟨k1,k2⟩:=Dm e1 hb;simp[k1,k2]
  ·simp at e
 ·rename_i el hu;rw[hu];simp only;split at e
  ·simp at e
  ·rename_i ei he;rw[he];simp only;split at e
   ·split at e
    ·rename_i hs;obtain⟨⟨c1,l,h⟩,e1,e2⟩:=zF.1 e;simp only[zP] at e2;obtain⟨rfl,rfl⟩:=e2;obtain⟨k1,k2⟩:=Dm e1 hb;grind
    ·simp at e
   ·rename_i b' off len';split at e
    ·rename_i k hk;split at e
     ·rename_i hs;obtain⟨⟨c1,l,h⟩,e1,e2⟩:=zF.1 e;simp only[zP] at e2;obtain⟨rfl,rfl⟩:=e2;obtain⟨k1,k2⟩:=Dm e1 hb;obtain⟨hs,hmx⟩:=hs;have hmx:=Option.isNone_iff_eq_none.1 hmx;subst hmx;have k1:=Qyz (N:=k.rows.length - off) k1;grind
     ·simp at e
    ·simp at e
   ·simp at e
 ·simp at e
theorem Si{P:Program}{e:Operand->Option V}{look:zj}{op:Op}{c:Bool}{v:V}(h:uM P e look op=some (c,v))(hc:c=true):Jl P e look op=some v:=by
 unfold uM at h;unfold Jl;split at h
 ·rename_i op t x y _;split at h
  ·rename_i k a k' b hx hy;simp only[hx,hy,RE];split at h
   ·rcases Dg h hc with h|h
    ·simp[Od] at h
    ·exact h
   ·rcases Dg h hc with h|h
    ·simp[Od] at h
    ·exact h
   ·rename_i n1 n2;split at h
    ·rename_i hk;rcases Dg h hc with h|h
     ·grind
     ·cases op<;>first|exact absurd rfl n1|exact absurd rfl n2|(simp[Mz] at h)
    ·simp at h
  ·rename_i a b hx hy;simp only[hx,hy,RE];split at h
   ·simp only[zD,zP] at h;obtain⟨h1,rfl⟩:=h;subst hc;simp only[zI] at h1;simp only[oY,h1,if_true]
   ·simp at h
  ·simp at h
 ·rename_i t x i;split at h
  ·rename_i s n hu hx hi;simp only[zD,zP] at h;obtain⟨h1,rfl⟩:=h;simp_all [zI,and_self,if_true,FN]
  ·simp at h
 ·rename_i t x i;split at h
  ·rename_i el b off len kk n hu hx hi;split at h
   ·rename_i ei he;split at h
    ·rename_i k hk;split at h
     ·rename_i hs;simp only[zD,zP] at h;obtain⟨h1,rfl⟩:=h;subst hc;simp only[zG,zI] at h1;simp only[hx,hi,N2,hu,he,hk,hs];simp[h1]
     ·simp at h
    ·simp at h
   ·simp at h
  ·simp at h
 ·grind [Nh]
 ·simp at h
section
variable {P:Program} {G:zi} {ops:Array Oper} {i:Nat} {s:St}
theorem Ba{c:Bool}{ws:List Wr}(h:xX P G ops i s=some (c,ws))(hc:c=true):A5 P G ops i s (MN ops i s []) ws:=by
 unfold xX at h;split at h
 ·rename_i o ho;split at h
  ·rename_i hd;obtain⟨⟨c',v⟩,h1,h2⟩:=zF.1 h;simp only[zP] at h2;obtain⟨rfl,rfl⟩:=h2;grind [ZP,Dw,Si]
  ·simp at h
 ·simp at h
theorem I7.ghost{o:Oper}{st st1 st2:St}(h:I7 P G o st st1)(g:QU G st1 st2):I7 P G o st st2:=λfx γ a w hs hd next Q hn=>
 h fx γ a w hs hd next Q λa' w' γ' k1 k2 k3 k4=>by
  obtain⟨γ2,g1,g2,g3⟩:=g γ' a'.tmps w' k1;exact hn a' w' γ2 g1 (k2.trans g2) (k3.trans g3) k4
theorem Sd{rows:List (List V)}{j:Nat}{c:Bool}{f:List V->Option (List Wr)}{r:List V}{ws:List Wr}(h:jC P G ops i s=some (rows,j,c,f))(hc:c=true)(hr:rows[j]?=some r)(hf:f r=some ws) :
  A5 P G ops i s (MN ops i s []) ws:=by
 subst hc;unfold jC at h;split at h
 ·rename_i o ho;split at h
  ·rename_i t x jj d hop hdst;split at h
   ·rename_i hd;split at h
    ·rename_i ow size rows' kk n hx hj;split at h
     ·rename_i hsz;simp only[zD,zP] at h;obtain⟨rfl,rfl,h3,rfl⟩:=h;simp only[zD] at hf;subst hf;refine Pv (n:=n) (rows:=rows') (d:=d) ?_ (by simpa using h3) hr;simp_all [if_true,mF]
     ·simp at h
    ·simp at h
   ·simp at h
  ·rename_i t x d hop hdst;split at h
   ·rename_i hd;split at h
    ·rename_i b r' off hx;split at h
     ·rename_i k hk;simp only[zD,zP,true_and] at h;obtain⟨rfl,rfl,rfl⟩:=h;obtain⟨v,h1,rfl⟩:=zF.1 hf;refine LI (t:=t) (rows:=k.rows) (j:=r') (off:=off) (d:=d) ?_ hr h1;simp_all [if_true,FX]
     ·simp at h
    ·simp at h
   ·simp at h
  ·rename_i t x y hop hdst;split at h
   ·rename_i b r' off cv hx hy;split at h
    ·rename_i k hk;split at h
     ·rename_i hex;simp only[zD,zP,true_and] at h;obtain⟨rfl,rfl,rfl⟩:=h;obtain⟨v,h1,rfl⟩:=zF.1 hf;obtain⟨oo,ho',hE⟩:=XP (P:=P) (G:=G) (ops:=ops) (i:=i) (s:=s) (ex:=[]) (t:=t) (rows:=k.rows) (j:=r') (off:=off) (b:=b) (size:=k.size) (c:=cv) (by simp_all [if_true,XT]) hr h1;exact ZP ⟨oo,ho',λs2 hn ht hbm hu=>(hE s2 hn ht hbm hu).ghost (QU.pV s2 b k.size true (by grind [W3.set,Ec.same,xK]) [])⟩
     ·simp at h
    ·simp at h
   ·simp at h
  ·simp at h
 ·simp at h
theorem GV{α:Type}(ty:Ty α)(x:List α):(x.map ty.d).map (·.map V.strip)=x.map ty.d:=by
 rw[wW];exact wD λa _=>ty.st a
theorem aH{ex:List Nat}{A:pW}(h:Lp P G ops ex i s=some A)(hlen:A.len=A.rows.length)(hf:A.fl=true->A.ZS.map (·.map V.strip)=A.ZS) :
  ∃off,CC P G ops ex i s=some (A.d,⟨A.b,0,A.size,A.Qo,A.rows⟩,⟨A.sb,off,A.size,true,A.ZS⟩,A.size,A.bytes,true):=by
 unfold Lp at h;split at h
 ·rename_i o ho;split at h
  ·rename_i as ts d hop hdst;split at h
   ·rename_i hd;split at h
    ·rename_i x' y' t t2 hxs hts;split at h
     ·rename_i cx cy e e2 hx hy ht ht2;split at h
      ·rename_i ei hi;split at h
       ·rename_i hz;split at h
        ·rename_i b rows len Qo hds;split at h
         ·rename_i sb ZS fl hss;simp only[zD] at h;subst h;simp only at hlen hf ⊢;subst hlen;have k1:VE (s.QO o ex) ei.size cx=some (⟨b,0,ei.size,Qo,rows⟩,true):=by
           unfold aU at hds;unfold VE;split at hds
           ·grind
           ·grind
           ·simp at hds
          have k2:∃off,Ts (s.QO o ex) ei.size b cy=some (⟨sb,off,ei.size,true,ZS⟩,true):=by
           unfold Bb at hss;unfold Ts;split at hss
           ·simp_all
           ·simp_all
           ·rename_i b' len';split at hss
            ·rename_i k hk;split at hss
             ·simp_all
             ·simp at hss
            ·simp at hss
           ·simp at hss
          obtain⟨off,k2⟩:=k2;simp_all [and_self,if_true,CC]
         ·simp at h
        ·simp at h
       ·simp at h
      ·simp at h
     ·simp at h
    ·simp at h
   ·simp at h
  ·simp at h
 ·simp at h
theorem aJ{ex:List Nat}{A:pW}(h:Lp P G ops ex i s=some A)(e:A.fl=true):A.sb=none:=by
 unfold Lp at h;split at h
 ·split at h
  ·split at h
   ·split at h
    ·split at h
     ·split at h
      ·split at h
       ·split at h
        ·split at h
         ·rename_i hss;simp only[zD] at h;subst h;simp only at e ⊢;subst e;unfold Bb at hss;split at hss
          ·simp at hss
          ·grind
          ·grind
          ·simp at hss
         ·simp at h
        ·simp at h
       ·simp at h
      ·simp at h
     ·simp at h
    ·simp at h
   ·simp at h
  ·simp at h
 ·simp at h
theorem IZ{bs:zj}{u:zl}(sy:List Nat)(sb:Option Nat)(e rows:List (List V)):W3 (Ec bs u) rows (Ge sy sb e rows):=by
 unfold Ge;split
 ·split
  ·grind [W3.same,Ec.same]
  ·exact WZ _ _
 grind [W3.same,Ec.same]
theorem Bc{A:pW}(h:Lp P G ops [] i s=some A){α:Type}{ty:Ty α}{l x:List α}{sy:List Nat}(hr:A.rows=l.map ty.c)(hlen:A.len=l.length)(hs:Ge sy A.sb (x.map ty.c) A.ZS=x.map ty.c)(hf:A.fl=true->A.sb=none/\∀y,ty.c y=ty.d y)
  (hb:(l.length+x.length) * A.bytes<=140737488355328) :
  A5 P G ops i s (MN ops i s []) (Gw A.b++(Gw A.sb++[.b A.d (some ⟨A.size,A.Qo,(l++x).map ty.c⟩),.t A.d (.ref A.d 0 (l++x).length)])):=by
 have hlx:A.ZS.length=x.length:=by
  have:=(IZ (bs:=λ_=>none) (u:=λ_=>false) sy A.sb (x.map ty.c) A.ZS).1;grind
 obtain⟨off,hat⟩:=aH h (by grind) (λe=>by
  obtain⟨e0,e2⟩:=hf e;have e1:x.map ty.c=x.map ty.d:=wD λa _=>e2 a;rw[e0] at hs;have hs':A.ZS=x.map ty.c:=hs;rw[hs',e1,GV])
 obtain⟨oo,ho,hE⟩:=LO (ds:=⟨A.b,0,A.size,A.Qo,A.rows⟩) (ss:=⟨A.sb,off,A.size,true,A.ZS⟩) (rows:=l.map ty.c++A.ZS) (m:=(l++x).length) hat rfl (by grind) (by simp[hr]) (by simp[hr,hlx]);refine ZP ⟨oo,ho,λs2 hn ht hbm hu=>(hE s2 hn ht hbm hu).ghost ?_⟩;simp only;rw[UH,UH,UH,UH];have:=QU.pV (G:=G) ((s2.QJ A.b).QJ A.sb) A.d A.size A.Qo (rows:=l.map ty.c++A.ZS) (rows':=(l++x).map ty.c) (λbs u=>by
  rw[wO];refine W3.append (W3.same (λc=>Ec.same c) _) ?_;have:=IZ (bs:=bs) (u:=u) sy A.sb (x.map ty.c) A.ZS;rw[hs] at this;exact this) [(A.d,.ref A.d 0 (l++x).length)]
 exact this
theorem aB.of{o:Oper}{s s2:St}{x:Operand}{c:V}(hx:s.DA G o x=some c)(ht:∀t,t∈Y3 o->s2.t t=s.t t):aB G s2 x c:=λ_ _ _ hs=>
 (hs.QV (Y3 o)).ev (by rw[ZX ht];exact hx)
theorem VI{c:V}(h:H2 c=true)(f:Nat->Nat):W1 f c=c:=by
 cases c<;>simp_all [H2,W1];obtain⟨rfl,rfl⟩:=h;simp[S5]
theorem Bm{c:V}(h:H2 c=true):W6 c=[]:=by
 cases c<;>simp_all [H2,W6];obtain⟨rfl,rfl⟩:=h;simp[E7]
theorem N8{c:V}(h:H2 c=true)(u:zl):okV u c=true:=by
 cases c<;>simp_all [H2,okV];obtain⟨rfl,rfl⟩:=h;simp[Ma]
theorem J8.Qs{k:Qd}(h:J8 k.rows)(f:Nat->Nat):k.Qs f=k:=by
 unfold Qd.Qs;have:k.rows.map (S5 f)=k.rows:=by
  have:∀l:List (List V),J8 l->l.map (S5 f)=l:=by
   intro l hl;induction l with
   | nil=>rfl
   | cons r l ih=>
    rw[wq,ih λr' hr'=>hl r' (by simp[hr'])];congr 1;rw[WL]
    conv=>rhs;rw[<-List.map_id r]
    exact wD λc hc=>VI (hl r (by simp) c hc) f
  exact this _ h
 rw[this]
theorem J8.refs{rows:List (List V)}(h:J8 rows):E7 rows.flatten=[]:=by
 have:∀l:List V,(∀c,c∈l->H2 c=true)->E7 l=[]:=by
  intro l hl;induction l with
  | nil=>rfl
  | cons c l ih=>grind [Bm,E7]
 refine this _ λc hc=>?_;obtain⟨r,h1,h2⟩:=wM.1 hc;exact h r h1 c h2
def Yr(sy:List Nat)(s:St):Prop:=∀b,b∈sy->∀k,s.b b=some k->J8 k.rows
theorem WG{dt:List Nat}{b:Nat}{f:Nat->Nat}{k:Qd}(h:b∈dt->J8 k.rows):MO dt b f k=k.Qs f:=by
 unfold MO;split
 ·rename_i hc;exact((h (by simpa using hc)).Qs f).symm
 ·rfl
theorem RJ{Li Lo:List (Nat×Nat)}{sy:List Nat}{dst:Option Nat}{f:FuncId}{as:List V}{I:List (Nat×Qd)}(hsy:Yr sy s)(h:JN P G ops Li Lo sy i s=some (dst,f,as,I)){O:List (Nat×Qd)}{res:V}
  {dt:List Nat} (hdt:∀p,p∈O->p.1∈dt->J8 p.2.rows) (hc:QR P G f as (Qm I) res (Qm O)) (ho:JM (Li++Lo) dt O res=true) :
  A5 P G ops i s (MN ops i s ((Li++Lo).map (·.2))) (R5 (Li++Lo) dt O dst res):=by
 unfold JN at h;split at h
 ·rename_i dst' f' as' bl shl hcg;split at h
  ·rename_i hcond;simp only[zD,zP] at h;obtain⟨rfl,rfl,rfl,rfl⟩:=h;simp only[zG,zJ,zZ] at hcond;obtain⟨hids,hbl⟩:=hcond;have hids':=hids;simp only[DD,zG,zJ,beq_iff_eq,zI,wn] at hids';obtain⟨⟨⟨i1,i2⟩,i3⟩,i4⟩:=hids';have hblk:∀x,x∈bl->sy.contains (J7 (Li++Lo) x.1)=true->J8 x.2.rows:=by
    intro x hx hs;simp only[Eo] at hcg;split at hcg
    ·rename_i o ff cs hca;split at hcg
     ·rename_i shl' bl' hsh hb';split at hcg
      ·simp only[zD,zP] at hcg;obtain⟨-,-,-,rfl,-⟩:=hcg;obtain⟨n,hn⟩:=wU.1 hx;obtain⟨y,y1,y2⟩:=L9 hb' n x hn;obtain⟨k,k1,rfl⟩:=zF.1 y2;have hy:=zX y1;have e:J7 (Li++Lo) y.1=y.2:=(by grind);simp only[e] at hs;exact hsy y.2 (by simpa using hs) k (YU _ _ _ _ k1)
      ·simp at hcg
     ·simp at hcg
    ·simp at hcg
   have eI:(bl.map λx=>(x.1,MO sy (J7 (Li++Lo) x.1) (J5 (Li++Lo)) x.2))=bl.map λx=>(x.1,x.2.Qs (J5 (Li++Lo))):=
    (by grind [List.map_congr_left,WG])
   simp only[JM,zG,zJ,zZ] at ho;have hshl:shl=[]:=by
    grind [Option.some.injEq,Prod.mk.injEq,Eo,M2]
   subst hshl;refine Ti Li Lo [] hids hcg hc eI.symm (by simp) (λx hx b hb=>?_) (λx hx=>⟨(ho.1 x hx).1,λb hb=>?_⟩) (by grind [rT]) ?_
   ·rcases hbl x hx with h1|h1
    ·rw[(hblk x hx h1).refs] at hb;simp at hb
    ·exact h1 b hb
   ·rcases(ho.1 x hx).2 with h1|h1
    ·rw[(hdt x hx (by simpa using h1)).refs] at hb;simp at hb
    ·exact h1 b hb
   ·unfold R5 Oy;simp only[List.map_nil,wK,wW];congr 1;refine wD λx hx=>?_;simp only[Function.comp];grind [WG,P3,Qm]
  ·simp at h
 ·simp at h
theorem Sn{v:Value}(h:uF P G ops i s=some v):Mb P G ops i s (MN ops i s []) (.panic (K3 v)) []:=by
 unfold uF at h;split at h
 ·rename_i o ho;obtain⟨h3,h4⟩:=EF ho;split at h
  ·rename_i x hop;split at h
   ·rename_i u hu;split at h
    ·rename_i t y;simp only[zD] at h;subst h;intro s2 hn hag;obtain⟨k1,k2,_,_⟩:=EL h3 h4 hn hag;refine⟨o,h3,(by grind),k1,λfx γ a w hs had next Q hq=>?_⟩;have hv:a.eval x=.iface t y:=by
      exact(aB.of hu k2 γ a w hs).UP
     have hrun:(execOp a.eval o).run P w=.halt (.panic (.iface t y)) w:=by
      unfold execOp;rw[hop];simp only[hv];rfl
     show o.upon P a next Q _
     rw[hrun];exact hq a w γ hs (.refl γ w) (.refl hs.u) had
    ·simp at h
   ·simp at h
  ·simp at h
 ·simp at h
theorem Gd{Li Lo:List (Nat×Nat)}{sy:List Nat}{dst:Option Nat}{f:FuncId}{as:List V}{I:List (Nat×Qd)}(hsy:Yr sy s)(h:JN P G ops Li Lo sy i s=some (dst,f,as,I)){O:List (Nat×Qd)}{v:List PanicEntry}
  {dt:List Nat} (hdt:∀p,p∈O->p.1∈dt->J8 p.2.rows) (hc:Et P G f as (Qm I) v (Qm O)) (ho:JM (Li++Lo) dt O .undef=true) :
  Mb P G ops i s (MN ops i s ((Li++Lo).map (·.2))) (.panic v) (R5 (Li++Lo) dt O none .undef):=by
 unfold JN at h;split at h
 ·rename_i dst' f' as' bl shl hcg;split at h
  ·rename_i hcond;simp only[zD,zP] at h;obtain⟨rfl,rfl,rfl,rfl⟩:=h;simp only[zG,zJ,zZ] at hcond;obtain⟨hids,hbl⟩:=hcond;have hids':=hids;simp only[DD,zG,zJ,beq_iff_eq,zI,wn] at hids';obtain⟨⟨⟨i1,i2⟩,i3⟩,i4⟩:=hids';have hblk:∀x,x∈bl->sy.contains (J7 (Li++Lo) x.1)=true->J8 x.2.rows:=by
    intro x hx hs;simp only[Eo] at hcg;split at hcg
    ·rename_i o ff cs hca;split at hcg
     ·rename_i shl' bl' hsh hb';split at hcg
      ·simp only[zD,zP] at hcg;obtain⟨-,-,-,rfl,-⟩:=hcg;obtain⟨n,hn⟩:=wU.1 hx;obtain⟨y,y1,y2⟩:=L9 hb' n x hn;obtain⟨k,k1,rfl⟩:=zF.1 y2;have hy:=zX y1;have e:J7 (Li++Lo) y.1=y.2:=(by grind);simp only[e] at hs;exact hsy y.2 (by simpa using hs) k (YU _ _ _ _ k1)
      ·simp at hcg
     ·simp at hcg
    ·simp at hcg
   have eI:(bl.map λx=>(x.1,MO sy (J7 (Li++Lo) x.1) (J5 (Li++Lo)) x.2))=bl.map λx=>(x.1,x.2.Qs (J5 (Li++Lo))):=
    (by grind [List.map_congr_left,WG])
   simp only[JM,zG,zJ,zZ] at ho;have hshl:shl=[]:=by
    grind [Option.some.injEq,Prod.mk.injEq,Eo,M2]
   subst hshl;refine PQ Li Lo [] hids hcg hc eI.symm (by simp) (λx hx b hb=>?_) (λx hx=>⟨(ho.1 x hx).1,λb hb=>?_⟩) ?_
   ·rcases hbl x hx with h1|h1
    ·rw[(hblk x hx h1).refs] at hb;simp at hb
    ·exact h1 b hb
   ·rcases(ho.1 x hx).2 with h1|h1
    ·rw[(hdt x hx (by simpa using h1)).refs] at hb;simp at hb
    ·exact h1 b hb
   ·unfold R5 Oy;simp only[List.map_nil,wK,wW,Mf];refine wD λx hx=>?_;simp only[Function.comp];grind [WG,P3,Qm]
  ·simp at h
 ·simp at h
end
end Go.EV
namespace Go.EV
open Go
theorem Wa{α β:Type}{f g:α->Option β}:∀{l:List α} {r:List β},M2 f l=some r->(∀x,x∈l->∀y,f x=some y->g x=some y)->M2 g l=some r
 | [],r,h,_=>h
 | x :: l,r,h,hg=>by
  simp only[M2] at h ⊢;split at h
  ·rename_i y r' h1 h2;rw[hg x (by simp) y h1,Wa h2 (by grind)];exact h
  ·simp at h
theorem GN{look:zj}{c:V}(h:H2 c=true)(n:Nat):D2 look (n+1) c=D2 look 1 c:=by
 cases c<;>simp_all [H2,D2];obtain⟨rfl,rfl⟩:=h;simp[M2]
theorem Ty.view{α:Type}(ty:Ty α)(look:zj)(n:Nat)(x:α):M2 (λv=>O0 (D2 look (n+1) v)) (ty.c x)=some (ty.d x):=
 Wa (ty.vw look x) λc hc y hy=>by
  rw[GN (zJ.1 (ty.cd x) c hc)];exact hy
theorem Ty.views{α:Type}(ty:Ty α)(look:zj)(n:Nat):∀l:List α,M2 (M2 λv=>O0 (D2 look (n+1) v)) (l.map ty.c)=some (l.map ty.d)
 | []=>rfl
 | x :: l=>by simp only[wq,M2,ty.view look n x,ty.views look n l]
theorem XG{look:zj}{vs:List Zp}:∀(n:Nat) (c:V) (e:Nat×List (List V)×Nat),e∈C0 look vs n c->∃k,look e.1=some k/\e.2.1=k.rows
 | 0,_,_,h=>by simp[C0] at h
 | n+1,c,e,h=>by
  have fl:∀l:List V,e∈l.flatMap (C0 look vs n)->∃k,look e.1=some k/\e.2.1=k.rows:=λl hl=>by
   obtain⟨x,_,hx⟩:=wJ.1 hl;exact XG n x e hx
  cases c<;>simp only[C0,wa] at h
  case ref b off len=>
   grind
  case ptr b i off=>
   grind
  case fn f a c=>
   grind
  case agg l=>exact fl _ h
  grind
def VOk(vs:List Zp)(es:List (Nat×List (List V)×Nat)):Prop:=
 ∀e,e∈es->∀v,vs.find? (λv=>v.b==e.1)=some v->e.2.1.take e.2.2=v.l.map v.ty.c
theorem XF{look:zj}{vs:List Zp}:∀(n:Nat) (c d:V),Kc look vs n c=some d->VOk vs (C0 look vs n c)->D2 look n c=some d
 | 0,_,_,h,_=>by simp[Kc] at h
 | n+1,c,d,h,hv=>by
  have ih:=XF (look:=look) (vs:=vs) n
  have sub:∀(l:List V) (r:List V),M2 (Kc look vs n) l=some r->VOk vs (l.flatMap (C0 look vs n))->M2 (D2 look n) l=some r:=λl r hm hl=>
   Wa hm λx hx y hy=>ih x y hy λe he=>hl e (by grind)
  cases c<;>simp only[Kc] at h<;>try exact h
  case ref b off len=>
   split at h
   ·rename_i v hf;split at h
    ·split at h
     ·simp at h
     ·rename_i n0;obtain⟨k,hk,rfl⟩:=zF.1 h;have:=hv (b,k.rows,len) (by grind [C0]);have e:(k.rows.drop 0).take len=v.l.map v.ty.c:=by grind
      simp only[D2,hk];rw[e,v.ty.views];rfl
    ·simp at h
   ·exact h
  case ptr b i off=>
   split at h
   ·rename_i k hk;split at h
    ·rename_i r hr;obtain⟨l,h1,rfl⟩:=zF.1 h;simp only[C0,hk,hr] at hv;simp only[D2,hk,hr];rw[Wa h1 λx hx y hy=>?_]
     ·rfl
     ·obtain⟨a1,a2⟩:=ZL hy;have:=ih x y a1 λe he=>hv e (by grind);grind
    ·simp at h
   ·simp at h
  case fn f a c=>
   split at h
   ·rename_i a' c' h1 h2;simp only[C0] at hv;simp only[D2];rw[sub a a' h1 λe he=>hv e (wY _ he),sub c c' h2 λe he=>hv e (by grind)];exact h
   ·simp at h
  case agg l=>
   obtain⟨r,h1,rfl⟩:=zF.1 h;simp only[D2];rw[sub l r h1 hv];rfl
  case Qc l=>
   obtain⟨r,h1,rfl⟩:=zF.1 h;simp only[D2];rw[sub l r h1 hv];rfl
theorem bC{look:zj}{vs:List Zp}{n:Nat}{cs:List V}(hw:Qub vs=true)(h:cs.flatMap (C0 look vs n)=vs.map Zp.rI):VOk vs (cs.flatMap (C0 look vs n)):=by
 have rows:∀e,e∈cs.flatMap (C0 look vs n)->∃k,look e.1=some k/\e.2.1=k.rows:=(by grind [XG]);intro e he v hv;obtain⟨k,k1,k2⟩:=rows e he
 have hm:=qc hv
 have hb:v.b=e.1:=by grind
 have:v.rI∈cs.flatMap (C0 look vs n):=by grind
 obtain⟨k',k3,k4⟩:=rows _ this;simp only[Zp.rI] at k3 k4;rw[hb,k1] at k3;simp only[zD] at k3;subst k3;obtain⟨v',hm',he'⟩:=zM.1 (h▸he);subst he';simp only[Zp.rI] at k1 k2 hb ⊢;have one:∀x,x∈vs->∀y,y∈vs->y.b=x.b->x.w=false->x=y:=λx hx y hy hxy hw0=>by
  have:=zJ.1 hw x hx;rw[hw0] at this;simp only[Bool.false_or,beq_iff_eq] at this;obtain⟨z,hz⟩:=List.length_eq_one_iff.1 this
  have hx':x∈vs.filter λq=>q.b==x.b:=(by grind)
  have hy':y∈vs.filter λq=>q.b==x.b:=(by grind);grind
 cases hwv:v.w with
 | false=>rw[<-one v hm v' hm' hb.symm hwv];exact v.h
 | true=>
  cases hwv':v'.w with
  | false=>grind
  | true=>rw[v'.hw hwv',show v'.rows.length=v.n by rw[v.hw hwv,k2,k4],k2,<-k4];exact v.h
section
variable {P:Program} {G:zi} {ops:Array Oper} {i:Nat} {s:St}
theorem GR{ex:List Nat}{vs:List Zp}{dst:Option Nat}{f:FuncId}{ds:List V}{es:List (Nat×List (List V)×Nat)}{r:V}(h:Pb P G ops ex vs i s=some (dst,f,ds,es))(he:es=vs.map Zp.rI)
  (hc:aG P G f ds r) (hr:G0 r=true):A5 P G ops i s (MN ops i s ex) (Mf dst r):=by
 unfold Pb at h;split at h
 ·rename_i o f' cs hca;split at h
  rotate_left
  ·simp at h
  rename_i hw;obtain⟨ds',hm,h2⟩:=zF.1 h;simp only[zP] at h2;obtain⟨rfl,rfl,rfl,rfl⟩:=h2;have hv:=bC hw he;refine Ta 8 ?_ hc hr;simp only[viewAt,hca];rw[Wa hm λx hx y hy=>XF 8 x y hy λe he=>hv e (by grind)];rfl
 ·simp at h
end
def T9(P:Program)(G:zi)(ops:Array Oper)(p:Y5)(st0 s:St):Prop:=
 s=H4 p st0 p.length/\∀j,j < p.length->A5 P G ops j (H4 p st0 j) (p.rs j) (p.ws j)
theorem D8(p:Y5)(x:List Loc×List Wr)(st:St):∀n,n<=p.length->H4 (p++[x]) st n=H4 p st n
 | 0,_=>rfl
 | n+1,h=>by
  simp only[H4];rw[D8 p x st n (by omega)];grind [List.getElem?_append_left,Y5.ws]
theorem T9.push{P:Program}{G:zi}{ops:Array Oper}{p:Y5}{st0 s:St}(h:T9 P G ops p st0 s){R:List Loc}{ws:List Wr}(hs:A5 P G ops p.length s R ws):T9 P G ops (p++[(R,ws)]) st0 (s.app ws):=by
 obtain⟨h1,h2⟩:=h;have e:(p++[(R,ws)]).getD p.length ([],[])=(R,ws):=by grind
 refine⟨?_,λj hj=>?_⟩
 ·simp_all [wV,D8,zN,H4,Y5.ws]
 grind [List.length_append,List.length_singleton,D8,List.getElem?_append_left,Y5.rs,Y5.ws]
theorem JZ{ws:List Wr}{s:St}{b:Nat}(h:¬b∈MU ws):(s.app ws).b b=s.b b:=
 (O3 (l:=.b b) ws s λx hx e=>h (by
  unfold MU;refine List.mem_filterMap.2 ⟨x,hx,?_⟩;cases x with
  | t i c=>simp[Wr.loc] at e
  | b i k=>grind [Loc.b.injEq,Wr.loc])).1
theorem RL{ws:List Wr}{s:St}{t:Nat}(h:¬t∈iS ws):(s.app ws).t t=s.t t:=
 O3 (l:=.t t) ws s λx hx e=>h (by
  unfold iS;refine List.mem_filterMap.2 ⟨x,hx,?_⟩;cases x with
  | b i c=>simp[Wr.loc] at e
  | t i k=>grind [Loc.t.injEq,Wr.loc])
theorem Bs(a b:List Wr)(s:St):s.app (a++b)=(s.app a).app b:=by unfold St.app;grind
theorem aQ(ws:List Wr)(x:Wr)(s:St):s.app (ws++[x])=(s.app ws).wr x:=by
 unfold St.app;grind
theorem Dn{s:St}{b:Nat}{k:Qd}:∀(n:Nat) (ws:List Wr),ws.length=n->(s.app ws).b b=some k->b∈MU ws->Wr.b b (some k)∈ws
 | 0,ws,hn,_,hm=>by grind [List.length_eq_zero_iff,MU]
 | n+1,ws,hn,h,hm=>by
  obtain⟨ws',x,rfl⟩:∃ws' x,ws=ws'++[x]:=⟨ws.dropLast,ws.getLast (by grind),(List.dropLast_concat_getLast _).symm⟩;rw[aQ] at h;have hl:ws'.length=n:=by simpa using hn
  cases x with
  | t i c=>
   have hm':b∈MU ws':=by
    grind [MU]
   exact wY _ (Dn n ws' hl h hm')
  | b i q=>
   by_cases hi:b=i
   ·subst hi;cases q with
    | none=>simp[St.wr,St.QT] at h
    | some q=>
     simp_all [if_true,zD,St.wr,St.Qj]
   ·have h':(s.app ws').b b=some k:=by
     cases q with
     | none=>grind [St.wr,St.QT]
     | some q=>grind [St.wr,St.Qj]
    have hm':b∈MU ws':=by
     grind [MU]
    exact wY _ (Dn n ws' hl h' hm')
theorem Yr.step{sy:List Nat}{s:St}(h:Yr sy s){ws:List Wr}{told:List Nat}(ht:∀i k,Wr.b i (some k)∈ws->i∈told->J8 k.rows):Yr (YG sy ws told) (s.app ws):=by
 intro b hb k hk;unfold YG at hb;rcases wk.1 hb with hb|hb
 ·obtain⟨h1,h2⟩:=List.mem_filter.1 hb;exact ht b k (Dn _ ws rfl hk (by simpa using h2)) h1
 ·obtain⟨h1,h2⟩:=List.mem_filter.1 hb;rw[JZ (by simpa using h2)] at hk;exact h b h1 k hk
theorem WD.coe{P:Program}{G:zi}{f:FuncId}{es as:List V}{ins outs:zj}{E:Value->Ending}{res:V}(h:WD P G f (Ym (X1 8) es as) ins E res outs):WD P G f as ins E res outs:=λγ w vs hg ho ha hb=>
 h γ w vs hg ho ⟨by rw[UZ];exact ha.1,λi c v hc hv=>by
  obtain⟨c',k1,k2⟩:=Ju _ _ _ _ _ hc;rcases k2 with rfl|⟨e,rfl⟩
  ·exact ha.2 i _ v k1 hv
  ·exact WQ 8 e c' v (ha.2 i c' v k1 hv)⟩ hb
theorem Et.coe{P:Program}{G:zi}{f:FuncId}{es as:List V}{ins outs:zj}{v:List PanicEntry}(h:Et P G f (Ym (X1 8) es as) ins v outs):Et P G f as ins v outs:=WD.coe h
theorem QR.coe{P:Program}{G:zi}{f:FuncId}{es as:List V}{ins outs:zj}{res:V}(h:QR P G f (Ym (X1 8) es as) ins res outs):QR P G f as ins res outs:=λγ w vs hg ho ha hb=>
 h γ w vs hg ho ⟨by rw[UZ];exact ha.1,λi c v hc hv=>by
  obtain⟨c',k1,k2⟩:=Ju _ _ _ _ _ hc;rcases k2 with rfl|⟨e,rfl⟩
  ·exact ha.2 i _ v k1 hv
  ·exact WQ 8 e c' v (ha.2 i c' v k1 hv)⟩ hb
section
variable {P:Program} {G:zi} {id:Nat} {ops:Array Oper}
def RV(P:Program)(G:zi)(ops:Array Oper){ρ:Type}(F:YH ρ)(r:ρ)(st0:St)(n:Nat)(next:T P G ρ->St->Y5->List Nat->C):Prop:=
 ∃g' s' p' sy',next g' s' p' sy'=g'.expect F/\g'.run=some r/\T9 P G ops p' st0 s'/\Yr sy' s'/\p'.length=n
theorem EI{ρ:Type}{F:YH ρ}{a:Nat}{k:T P G ρ}{R:List Loc}{ws:List Wr}{s st0:St}{p:Y5}{sy:List Nat}{next:T P G ρ->St->Y5->List Nat->C}{r:ρ}
  (h:lA P G a k R ws s p sy next=k.expect F) (hr:k.run=some r) (hp:T9 P G ops p st0 s) (hsy:Yr sy s) (hs:A5 P G ops p.length s R ws) :
  ∃g' sy' p',next g' (s.app ws) p' sy'=g'.expect F/\g'.run=some r/\T9 P G ops p' st0 (s.app ws)/\Yr sy' (s.app ws)/\p'.length=p.length+1:=by
 have plain:next k (s.app ws) (p++[(R,ws)]) (YG sy ws [])=k.expect F->∃g' sy' p',next g' (s.app ws) p' sy'=g'.expect F/\g'.run=some r/\T9 P G ops p' st0 (s.app ws)/\Yr sy' (s.app ws)/\p'.length=p.length+1:=
  λh=>⟨k,_,_,h,hr,hp.push hs,hsy.step (by grind),by simp⟩
 cases k<;>try exact plain h
 case re a' w k'=>
  simp only[lA] at h;split at h
  ·simp only[T.expect,C.re.injEq] at h;obtain⟨h1,h2⟩:=h;have e:ws=w.b:=h1.trans w.h;rw[e];exact⟨k',_,_,h2,hr,hp.push (e▸hs),hsy.step w.JF,by simp⟩
  grind
theorem Bk{ρ:Type}{F:YH ρ}{g:T P G ρ}{s st0:St}{p:Y5}{sy:List Nat}{next:T P G ρ->St->Y5->List Nat->C}{r:ρ}(hns:∀j,C.stuck j≠g.expect F)
  (h:Xa P G ops p.length g s p sy next=g.expect F) (hr:g.run=some r) (hp:T9 P G ops p st0 s) (hsy:Yr sy s):RV P G ops F r st0 (p.length+1) next:=by
 unfold Xa at h;split at h
 ·rename_i R ws hrw;exact⟨g,_,_,_,h,hr,hp.push (Ji hrw),hsy.step (by grind),by simp⟩
 grind
theorem Z5{ρ:Type}(F:YH ρ)(g:T P G ρ)(j:Nat):C.stuck j≠g.expect F:=by
 induction g with
 | done r=>
  cases F with
  | GQ S E=>grind [T.expect,Wb]
  | rK rs res outs ex Zu=>grind [T.expect,Wb]
  | _=>simp[T.expect,Wb]
 | tt k ih=>grind [T.expect]
 | ff k ih=>grind [T.expect]
 | Hn a k ih=>grind [T.expect]
 | lp S body x=>cases F<;>simp[T.expect]
 | Ke a n vs k=>cases vs<;>simp[T.expect]
 | _=>simp[T.expect]
theorem BI{s:St}{sy sy':List Nat}{i:Nat}{Li Lo:List (Nat×Nat)}{dst dst':Option Nat}{f:FuncId}{as:List V}{ins:List (Nat×Qd)}
  {O:List (Nat×Qd)} {res:V} {dt:List Nat} (hc:JN P G ops Li Lo sy i s=some (dst',f,as,ins)) (hdt:∀q,q∈O->q.1∈dt->J8 q.2.rows)
  (x4:Yr sy' (s.app (R5 (Li++Lo) dt O dst res))):Yr (HO (Li++Lo) dt++sy') (s.app (R5 (Li++Lo) dt O dst res)):=by
 intro b hb q hq;rcases wk.1 hb with hb|hb
 ·unfold HO at hb;obtain⟨y,hy,rfl⟩:=zM.1 hb;obtain⟨y1,y2⟩:=List.mem_filter.1 hy;unfold JN at hc;split at hc
  ·split at hc
   ·rename_i hcond;simp only[zG] at hcond;have hids:=hcond.1;simp only[DD,zG,zJ,beq_iff_eq,zI,wn] at hids;have i1:=hids.1.1.1;have e0:(s.app (R5 (Li++Lo) dt O dst res)).b y.2=(Qm O y.1).map (MO dt y.1 (J7 (Li++Lo))):=by
     unfold R5;rw[Bs];have e1:∀s':St,(s'.app (Mf dst (W1 (J7 (Li++Lo)) res))).b y.2=s'.b y.2:=λs'=>JZ (by cases dst<;>simp[Mf,MU]);rw[e1];have:=(Eg ((Qm O y.1).map (MO dt y.1 (J7 (Li++Lo)))) ((Li++Lo).map λz=>(z.2,(Qm O z.1).map (MO dt z.1 (J7 (Li++Lo))))) s y.2 (by grind) ⟨_,zM.2 ⟨y,y1,rfl⟩,rfl⟩).1;rw[wW] at this;exact this
    rw[e0] at hq;cases hO:Qm O y.1 with
    | none=>grind
    | some k=>
     rw[hO] at hq;simp only[wI,zD] at hq;subst hq;have hd:=hdt (y.1,k) (P3 hO) (by simpa using y2);rw[WG (λ_=>hd),hd.Qs];exact hd
   ·simp at hc
  ·simp at hc
 ·exact x4 b hb q hq
theorem Kd{ρ:Type}{F:YH ρ}{a:Nat}{k:T P G ρ}{s st0:St}{p:Y5}{sy:List Nat}{next:T P G ρ->St->Y5->List Nat->C}{r:ρ}{Li Lo:List (Nat×Nat)}{dst:Option Nat}{f:FuncId}{as:List V}{ins:List (Nat×Qd)}
  {O:List (Nat×Qd)} {res:V} {dt:List Nat} (hp:T9 P G ops p st0 s) (hsy:Yr sy s) (hc:JN P G ops Li Lo sy p.length s=some (dst,f,as,ins)) (hdt:∀q,q∈O->q.1∈dt->J8 q.2.rows)
  (hok:QR P G f as (Qm ins) res (Qm O)) (hout:JM (Li++Lo) dt O res=true)
  (h5:lA P G a k (MN ops p.length s ((Li++Lo).map (·.2))) (R5 (Li++Lo) dt O dst res) s p sy (λg s p sy=>next g s p (HO (Li++Lo) dt++sy))=k.expect F) (hr:k.run=some r):RV P G ops F r st0 (p.length+1) next:=by
 have hs:=RJ hsy hc hdt hok hout;obtain⟨g',sy',p',x1,x2,x3,x4,x5⟩:=EI h5 hr hp hsy hs;exact⟨g',_,p',_,x1,x2,x3,BI hc hdt x4,x5⟩
theorem VX{ρ:Type}{F:YH ρ}{g:T P G ρ}{s st0:St}{p:Y5}{sy:List Nat}{next:T P G ρ->St->Y5->List Nat->C}{r:ρ}
  (h:qZ P G id ops p.length g s p sy next=g.expect F) (hr:g.run=some r) (hp:T9 P G ops p st0 s) (hsy:Yr sy s):RV P G ops F r st0 (p.length+1) next:=by
 have pl:Xa P G ops p.length g s p sy next=g.expect F->RV P G ops F r st0 (p.length+1) next:=(by grind [Bk,Z5])
 cases g<;>simp only[qZ] at h<;>try exact pl h
 case fail=>simp[T.run] at hr
 case Ql a c k=>
  split at h
  ·split at h
   ·rename_i c' ws hc;simp only[T.expect,C.Ql.injEq] at h;obtain⟨rfl,h2⟩:=h;simp only[T.run] at hr;cases c' with
    | false=>simp at hr
    | true=>
     obtain⟨g',sy',p',x1,x2,x3,x4,x5⟩:=EI h2 hr hp hsy (Ba hc rfl);exact⟨g',_,p',sy',x1,x2,x3,x4,x5⟩
   grind [Z5,absurd]
  ·exact pl h
 case re a w k=>
  split at h
  ·split at h
   ·rename_i R ws hrw;simp only[T.expect,C.re.injEq] at h;obtain⟨h1,h2⟩:=h;have e:ws=w.b:=h1.trans w.h;subst e;exact⟨k,_,_,_,h2,hr,hp.push (Ji hrw),hsy.step w.JF,by simp⟩
   grind [Z5,absurd]
  ·exact pl h
 case row α a ty l j c k=>
  split at h
  ·split at h
   ·rename_i rows j' c' f hro;simp only[T.expect,C.row.injEq,heq_eq_eq,true_and] at h;obtain⟨rfl,rfl,rfl,h4⟩:=h;simp only[T.run] at hr;cases c' with
    | false=>simp at hr
    | true=>
     simp only[cond_true] at hr;split at hr
     ·rename_i x hx;have h5:=congrFun h4 x;split at h5
      ·rename_i ws hws;have Wf:(l.map ty.c)[j']?=some (ty.c x):=by grind
       obtain⟨g',sy',p',x1,x2,x3,x4,x5⟩:=EI h5 hr hp hsy (Sd hro rfl Wf hws);exact⟨g',_,p',sy',x1,x2,x3,x4,x5⟩
      grind [Z5,absurd]
     ·simp at hr
   grind [Z5,absurd]
  ·exact pl h
 case app α a ty l x bytes fl hf k=>
  split at h
  ·split at h
   ·rename_i A hA;simp only[T.expect,C.app.injEq] at h;obtain⟨h1,h2,h3,h4,h5,h6⟩:=h;simp only[T.run] at hr;cases hc:decide ((l.length+x.length) * bytes<=140737488355328) with
    | false=>grind
    | true=>
     rw[hc] at hr;simp only[cond_true] at hr;have hb:(l.length+x.length) * A.bytes<=140737488355328:=by grind
     have hs:=Bc hA h1 h2 h3 (λe=>⟨aJ hA e,hf (by rw[<-h5];exact e)⟩) hb;refine⟨k,_,_,_,h6,hr,hp.push hs,hsy.step (λi k hm hi=>?_),by simp⟩;simp only[wG] at hi;subst hi;simp only[wk,zV,wa,or_false,Wr.b.injEq,zD,true_and,reduceCtorEq] at hm;rcases hm with hm|hm|hm
     ·unfold Gw at hm;grind
     ·unfold Gw at hm;grind
     ·subst hm;exact ty.data _
   grind [Z5,absurd]
  ·exact pl h
 case call α a sp Li Lo k=>
  split at h
  ·split at h
   ·rename_i dst f as ins hc;simp only[T.expect,C.call.injEq,heq_eq_eq,true_and] at h;obtain⟨rfl,h2,rfl,h4⟩:=h;simp only[T.run] at hr;split at hr
    ·rename_i x hx;have h5:=congrFun h4 x;split at h5
     ·rename_i hout;exact Kd hp hsy hc (sp.JF x) (by have:=sp.ok x hx;rw[<-h2] at this;exact this.coe) hout h5 hr
     ·exact absurd h5 (Z5 F _ _)
    ·simp at hr
   ·exact absurd h (Z5 F _ _)
  ·exact pl h
 case call2 α β a sp Li Lo k k2=>
  split at h
  ·split at h
   ·rename_i dst f as ins hc;simp only[T.expect,C.call2.injEq,heq_eq_eq,true_and] at h;obtain⟨rfl,h2,rfl,h4,h4b⟩:=h;simp only[T.run] at hr;split at hr
    ·rename_i x hx;have h5:=congrFun h4 x;split at h5
     ·rename_i hout;exact Kd hp hsy hc (sp.JF _) (by have:=sp.ok _ hx;rw[<-h2] at this;exact this.coe) hout h5 hr
     ·exact absurd h5 (Z5 F _ _)
    ·rename_i x hx;have h5:=congrFun h4b x;split at h5
     ·rename_i hout;exact Kd hp hsy hc (sp.JF _) (by have:=sp.ok _ hx;rw[<-h2] at this;exact this.coe) hout h5 hr
     ·exact absurd h5 (Z5 F _ _)
    ·simp at hr
   ·exact absurd h (Z5 F _ _)
  ·exact pl h
 case view α a sp vs k=>
  split at h
  ·split at h
   ·split at h
    ·rename_i dst f ds eqs hv;simp only[T.expect,C.view.injEq,heq_eq_eq,true_and] at h;obtain⟨rfl,h2,h3,h4⟩:=h;simp only[T.run] at hr;split at hr
     ·rename_i x hx;have h5:=congrFun h4 x;split at h5
      ·rename_i hfl;simp only[zG,List.isEmpty_iff] at hfl;obtain⟨f1,f2,f3⟩:=hfl;have hok:=sp.ok x hx;rw[f2,f3,<-h2] at hok;have hok:=hok.coe;have hs:=GR hv h3 hok f1;exact⟨_,_,_,_,h5,hr,hp.push hs,λb hb q hq=>hsy b hb q (by
        rw[<-hq];exact(JZ (by cases dst<;>simp[Mf,MU])).symm),by simp⟩
      ·exact absurd h5 (Z5 F _ _)
     ·simp at hr
    ·exact absurd h (Z5 F _ _)
   ·exact absurd h (Z5 F _ _)
  ·exact pl h
 case Qq β a R k=>
  split at h
  ·split at h
   ·rename_i o ho;split at h
    ·rename_i hfr;simp only[T.expect,C.Qqy.injEq,heq_eq_eq,true_and] at h;obtain⟨h1,h2,h3,h4,h5⟩:=h;simp only[T.run] at hr;split at hr
     ·rename_i x hx;have hs:A5 P G ops p.length s (MN ops p.length s (R.Zn.map (·.1))) (R.ws x):=ZP ⟨o,ho,λs2 hn ht hb hu=>R.ok x hx o s2 h1 h2
       (λq hq=>aB.of (List.map_inj_left.1 h3 q hq) ht)
       (λq hq=>by rw[(hb q.1 (List.mem_append_right _ (zM.2 ⟨q,hq,rfl⟩))).1];exact List.map_inj_left.1 h4 q hq)
       (λd hd=>by
        have hd':o.dst=some d:=h2.trans hd;rw[hd'] at hfr;simp only[zG,zI,wn] at hfr;rw[hn,(hu d hd').2];exact hfr)⟩
      exact⟨_,_,_,_,congrFun h5 x,hr,hp.push hs,hsy.step (R.JF x),by simp⟩
     ·simp at hr
    ·exact absurd h (Z5 F _ _)
   ·exact absurd h (Z5 F _ _)
  ·exact pl h
theorem Ru{i:Nat}{s:St}{d:Nat}{b:Bool}(h:SS ops i s=some (d,b)):s.QG d (.bool b)=s:=by
 unfold SS at h;split at h
 ·split at h
  ·split at h
   ·split at h
    ·rename_i b' hb;simp only[zD,zP] at h;obtain⟨rfl,rfl⟩:=h;unfold St.QG;cases s;simp only[St.mk.injEq,true_and,and_true];grind
    ·simp at h
   ·simp at h
  ·simp at h
 ·simp at h
theorem OW{s:St}{t:Nat}{c:V}(hb:s.t t=c):s.QG t c=s:=by
 unfold St.QG;cases s;simp only[St.mk.injEq,true_and,and_true];grind
theorem Vl{i:Nat}{s:St}{t:Nat}{k:IntKind}{m:Int}(h:Qy8 ops i s=some (t,k,m)):s.QG t (.int k m)=s:=by
 unfold Qy8 at h;split at h
 ·split at h
  ·split at h
   ·rename_i hb;simp only[zD,zP] at h;obtain⟨rfl,rfl,rfl⟩:=h;exact OW hb
   ·simp at h
  ·split at h
   ·rename_i hb;simp only[zD,zP] at h;obtain⟨rfl,rfl,rfl⟩:=h;exact OW hb
   ·simp at h
  ·simp at h
 ·simp at h
theorem La{m n:Int}{A B:Int->C}:∀(vs:List Int),vs.foldr (λv r=>C.br (m==v) (A v) r) C.fail=vs.foldr (λv r=>C.br (n==v) (B v) r) C.fail->vs.contains n=true->m=n/\A n=B n
 | [],_,h=>by simp at h
 | v :: vs,h,hc=>by
  simp only[List.foldr_cons,C.br.injEq] at h;obtain⟨h1,h2,h3⟩:=h;by_cases hn:n=v
  ·grind
  ·refine La vs h3 ?_;grind
def Tu(P:Program)(G:zi)(ops:Array Oper){ρ:Type}(F:YH ρ)(r:ρ)(st0:St)(n:Nat)(κp:List PanicEntry->T P G ρ->St->Y5->List Nat->C):Prop:=
 ∃v g' sy' p s R W,κp v g' (s.app W) (p++[(R,W)]) sy'=g'.expect F/\g'.run=some r/\T9 P G ops p st0 s/\Mb P G ops p.length s R (.panic v) W/\p.length < n/\Yr sy' (s.app W)
theorem Mp(p:Y5)(x:List Loc×List Wr)(st:St):H4 (p++[x]) st (p++[x]).length=(H4 p st p.length).app x.2:=by
 simp_all [wV,List.length_singleton,D8,zN,H4,Y5.ws]
theorem Ai{ρ:Type}{F:YH ρ}{r:ρ}{st0:St}{κ:T P G ρ->St->Y5->List Nat->C}{κp:List PanicEntry->T P G ρ->St->Y5->List Nat->C}:∀(m:Nat) (g:T P G ρ) (s:St) (p:Y5) (sy:List Nat),
  rg P G id ops (List.range' p.length m) g s p sy κ κp=g.expect F->g.run=some r->T9 P G ops p st0 s->Yr sy s->RV P G ops F r st0 (p.length+m) κ\/Tu P G ops F r st0 (p.length+m) κp
 | 0,g,s,p,sy,h,hr,hp,hsy=>.inl ⟨g,s,p,sy,h,hr,hp,hsy,rfl⟩
 | m+1,g,s,p,sy,h,hr,hp,hsy=>by
  rw[List.range'_succ] at h;have next:∀{g':T P G ρ} {s':St} {p':Y5} {sy':List Nat} (n1:Nat),n1=p.length+1->rg P G id ops (List.range' n1 m) g' s' p' sy' κ κp=g'.expect F->g'.run=some r->T9 P G ops p' st0 s'->Yr sy' s'->p'.length=p.length+1->
    RV P G ops F r st0 (p.length+(m+1)) κ\/Tu P G ops F r st0 (p.length+(m+1)) κp:=by
   intro g' s' p' sy' n1 hn1 x1 x2 x3 x4 x5;have:=Ai m g' s' p' sy' (by rw[x5,<-hn1];exact x1) x2 x3 x4;grind
  have step:∀(g:T P G ρ) (s:St),T9 P G ops p st0 s->Yr sy s->g.run=some r->∀n1,n1=p.length+1->
    qZ P G id ops p.length g s p sy (λg s p' sy=>rg P G id ops (List.range' n1 m) g s p' sy κ κp)=g.expect F->RV P G ops F r st0 (p.length+(m+1)) κ\/Tu P G ops F r st0 (p.length+(m+1)) κp:=by
   intro g s hp hsy hr n1 hn1 h;obtain⟨g',s',p',sy',x1,x2,x3,x4,x5⟩:=VX h hr hp hsy;grind
  have pl:qZ P G id ops p.length g s p sy (λg s p' sy=>rg P G id ops (List.range' (p.length+1) m) g s p' sy κ κp)=g.expect F->RV P G ops F r st0 (p.length+(m+1)) κ\/Tu P G ops F r st0 (p.length+(m+1)) κp:=step g s hp hsy hr _ rfl;cases g<;>try exact pl h
  case br a c x y=>
   simp only[rg] at h;split at h
   ·split at h
    ·rename_i d b hg;simp only[T.expect,C.br.injEq] at h;obtain⟨rfl,h1,h2⟩:=h;simp only[T.run] at hr;have e:=Ru hg;grind
    grind [Z5,absurd]
   ·exact pl h
  case Ke a n vs k=>
   simp only[rg] at h;split at h
   ·split at h
    ·rename_i t kd m' hg;simp only[T.expect] at h;simp only[T.run] at hr;cases hc:vs.contains n with
     | false=>grind
     | true=>
      rw[hc] at hr;obtain⟨rfl,h2⟩:=La vs h hc;have e:=Vl hg;grind
    grind [Z5,absurd]
   ·exact pl h
  case Qa α β a sp Li Lo k k2=>
   simp only[rg] at h;split at h
   ·split at h
    ·rename_i dst f as ins hc;simp only[T.expect,C.call2.injEq,heq_eq_eq,true_and] at h;obtain⟨rfl,h2,rfl,h4,h4b⟩:=h;simp only[T.run] at hr;split at hr
     ·rename_i x hx;have h5:=congrFun h4 x;split at h5
      ·rename_i hout;obtain⟨g',s',p',sy',x1,x2,x3,x4,x5⟩:=Kd hp hsy hc (sp.JF _) (by have:=sp.ok _ hx;rw[<-h2] at this;exact this.coe) hout (next:=λg s p' sy=>rg P G id ops (List.range' (p.length+1) m) g s p' sy κ κp) (F:=F) (k:=k x) (a:=a) h5 hr;grind
      grind [Z5,absurd]
     ·rename_i x hx;have h5:=congrFun h4b x;split at h5
      ·rename_i hout;have hok:Et P G sp.f as (Qm sp.ins) (sp.Hn x) (Qm (sp.Zu x)):=by have:=sp.okp _ hx;rw[<-h2] at this;exact this.coe
       have hs:=Gd hsy hc (sp.Qht _) hok hout;exact .inr ⟨_,_,_,p,s,_,_,h5,hr,hp,hs,by omega,BI hc (sp.Qht _) (hsy.step λ_ _ _ h=>by simp at h)⟩
      grind [Z5,absurd]
     ·simp at hr
    grind [Z5,absurd]
   ·exact pl h
  case Hn a k=>
   simp only[rg] at h;split at h
   ·split at h
    ·rename_i v hv;simp only[T.run] at hr;exact .inr ⟨_,k,sy,p,s,_,[],h,hr,hp,Sn hv,by omega,hsy⟩
    ·exact absurd h (Z5 F (T.Hn a k) _)
   ·exact pl h
theorem ML{ρ:Type}{F:YH ρ}{g:T P G ρ}{r:ρ}{st:St}{sy:List Nat}{κ:T P G ρ->St->Y5->List Nat->C}{κp:List PanicEntry->T P G ρ->St->Y5->List Nat->C}(h:rg P G id ops (List.range' 0 ops.size) g st [] sy κ κp=g.expect F)(hr:g.run=some r)(hsy:Yr sy st) :
  (∃g' s p sy',κ g' s p sy'=g'.expect F/\g'.run=some r/\Yr sy' s/\p.length=ops.size/\s=H4 p st ops.size/\∀i,i < ops.size->A5 P G ops i (H4 p st i) (p.rs i) (p.ws i))\/
  (∃v g' sy' p R W,κp v g' ((H4 p st p.length).app W) (p++[(R,W)]) sy'=g'.expect F/\g'.run=some r/\Yr sy' ((H4 p st p.length).app W)/\p.length < ops.size/\(∀i,i < p.length->A5 P G ops i (H4 p st i) (p.rs i) (p.ws i))/\Mb P G ops p.length (H4 p st p.length) R (.panic v) W):=by
 rcases Ai (st0:=st) ops.size g st [] sy h hr ⟨rfl,λj hj=>by simp at hj⟩ hsy with⟨g',s,p,sy',x1,x2,x3,x4,x5⟩|⟨v,g',sy',p,s,R,W,x1,x2,x3,x4,x5,x6⟩
 ·simp only[List.length_nil,zY] at x5;refine .inl ⟨g',s,p,sy',x1,x2,x4,x5,?_,λi hi=>?_⟩
  ·rw[<-x5];exact x3.1
  ·exact x3.2 i (by omega)
 ·simp only[List.length_nil,zY] at x5;rw[x3.1] at x1 x4 x6;exact .inr ⟨v,g',sy',p,R,W,x1,x2,x6,x5,x3.2,x4⟩
theorem U8.uI{Q:Exit->St->Prop}{p:Y5}{st:St}{m t:Nat}(h:∀i,i < m->A5 P G ops i (H4 p st i) (p.rs i) (p.ws i))(hq:U8 P G ops (List.range' m t) (H4 p st m) Q) :
  ∀n k,k+n=m->U8 P G ops (List.range' k (n+t)) (H4 p st k) Q
 | 0,k,hk=>by
  grind
 | n+1,k,hk=>by
  rw[show n+1+t=(n+t)+1 by omega,List.range'_succ];exact U8.cons (h k (by omega) _ rfl (λl _=>O2.refl _ l)) (U8.uI h hq n (k+1) (by omega))
theorem TV.Qhb{rid:Nat}{st s':St}{p:Y5}{n:Nat}{ex:Exit}{Q:Exit->St->Prop}(hn:n < ops.size)(hst:∀i,i < n->A5 P G ops i (H4 p st i) (p.rs i) (p.ws i))(hp:aI P G ops n (H4 p st n) ex s')(hq:Q ex s'):TV P G (.region rid ops false) st Q:=by
 refine TV.region ?_;have:=U8.uI (Q:=Q) (t:=ops.size - n) hst (by
  rw[show ops.size - n=(ops.size - n - 1)+1 by omega,List.range'_succ];exact U8.stop hp hq) n 0 (by omega)
 rw[List.range_eq_range'];rw[show n+(ops.size - n)=ops.size by omega] at this;exact this
theorem TV.TO{draw:Bool}{rid:Nat}{st s:St}{p:Y5}{Q:Exit->St->Prop}(hm:P.follows .mixedOrders=true)(hd:(!draw || Mg ops p)=true)(hs:s=H4 p st ops.size)
  (hst:∀i,i < ops.size->A5 P G ops i (H4 p st i) (p.rs i) (p.ws i)) (hq:Q .normal s):TV P G (.region rid ops draw) st Q:=by
 cases draw with
 | false=>
  refine TV.region ?_;have:=U8.TO (Q:=Q) hst (by rw[<-hs];exact hq) ops.size 0 (by omega);rw[List.range_eq_range'];exact this
 | true=>
  simp only[Bool.not_true,Bool.false_or,Mg,zG] at hd;refine TV.draw hm hd.1 hd.2 (λi hi=>?_) ?_
  ·rw[UI,show min i ops.size=i by omega];exact hst i hi
  grind [Ap]
end
mutual
theorem G8{u u':zl}(h:∀b,u b=true->u' b=true):∀(c:V),okV u c=true->okV u' c=true
 | .int _ _,_=>rfl
 | .bool _,_=>rfl
 | .str _,_=>rfl
 | .Za,_=>rfl
 | .Zd,_=>rfl
 | .QP _,_=>rfl
 | .Qu,_=>rfl
 | .Zh _,_=>rfl
 | .sl _ _ _,_=>rfl
 | .snap _,_=>rfl
 | .undef,_=>rfl
 | .ref b _ _,hc=>by grind [okV]
 | .ptr b _ _,hc=>by grind [okV]
 | .mp b,hc=>by grind [okV]
 | .fn _ a c,hc=>by
  simp only[okV,zG] at hc ⊢;exact⟨Wh h a hc.1,Wh h c hc.2⟩
 | .agg l,hc=>by simp only[okV] at hc ⊢;exact Wh h l hc
 | .Qc l,hc=>by simp only[okV] at hc ⊢;exact Wh h l hc
theorem Wh{u u':zl}(h:∀b,u b=true->u' b=true):∀(l:List V),Ma u l=true->Ma u' l=true
 | [],_=>rfl
 | c :: l,hc=>by
  simp only[Ma,zG] at hc ⊢;exact⟨G8 h c hc.1,Wh h l hc.2⟩
end
structure D.Ok(d:D):Prop where
 tmp:∀i,okV (ZT d.us) (d.st.t i)=true
 Zr:∀{b k},d.st.b b=some k->ZT d.us b=true/\∀r,r∈k.rows->∀c,c∈r->okV (ZT d.us) c=true
 sy:Yr d.sy d.st
theorem D.Ok.WC{s:St}{d:D}(f:N5 s d.st)(hsy:Yr d.sy d.st):d.Ok where
 tmp:=λi=>by
  rcases f.t i with e|⟨e,h⟩
  ·rw[e];rfl
  ·rw[e];exact h
 Zr:=λ{b k} hk=>by
  rcases f.b b with e|⟨e,h⟩
  ·grind
  ·rw[e] at hk;exact h k hk
 sy:=hsy
theorem P4{α:Type}{l:List (Nat×α)}{i:Nat}{p:Nat×α}(h:l.find? (λx=>x.1==i)=some p):p∈l/\p.1=i:=
 (by grind)
theorem O6{α:Type}{q:zl}{i:Nat}(hq:q i=true):∀l:List (Nat×α),(l.filter λx=>q x.1).find? (λx=>x.1==i)=l.find? (λx=>x.1==i)
 | []=>rfl
 | p :: l=>by
  grind
theorem LF{n:Nat}{ts:List (Nat×V)}{bs:List (Nat×Qd)}{us:List Nat}(i:Nat):(D0 n ts bs us).t i=(match ts.find? (λp=>p.1==i) with|some p=>p.2|none=>.undef):=rfl
theorem KT{n:Nat}{ts:List (Nat×V)}{bs:List (Nat×Qd)}{us:List Nat}(i:Nat):(D0 n ts bs us).b i=(match bs.find? (λp=>p.1==i) with|some p=>some p.2|none=>none):=rfl
theorem MR{us:List Nat}{b:Nat}(h:1000000<=b):ZT us b=true:=by simp[ZT,Qw,h]
theorem D.Qh7(d:D):d.st.u=ZT d.us:=rfl
theorem D.Ok.kP{d:D}(ht:∀p,p∈d.ts->okV (ZT d.us) p.2=true)(hb:∀p,p∈d.bs->ZT d.us p.1=true/\∀r,r∈p.2.rows->∀c,c∈r->okV (ZT d.us) c=true)(hsy:Yr d.sy d.st):d.Ok where
 tmp:=λi=>by
  unfold D.st;rw[LF];split
  ·grind
  ·rfl
 Zr:=λ{b k} hk=>by
  unfold D.st at hk;rw[KT] at hk;split at hk
  ·grind
  ·simp at hk
 sy:=hsy
theorem Ut:∀(l:List Nat) (x:Nat),x∈dedup l↔x∈l
 | [],x=>by simp[dedup]
 | y :: l,x=>by
  simp only[dedup];split
  ·rename_i hc;rw[Ut l x];grind
  ·simp only[zV,Ut l x]
theorem JR{p:Y5}{st:St}{t:Nat}(h:¬t∈p.Pn):∀n,(H4 p st n).t t=st.t t
 | 0=>rfl
 | n+1=>by
  simp only[H4];rw[RL,JR h n];intro hm;by_cases hn:n < p.length
  ·refine h (wJ.2 ⟨p[n],List.getElem_mem hn,?_⟩);grind [List.getElem?_eq_getElem,Y5.ws]
  grind [List.getElem?_eq_none,Y5.ws,iS]
theorem JP{p:Y5}{st:St}{b:Nat}(h:¬b∈p.DS):∀n,(H4 p st n).b b=st.b b
 | 0=>rfl
 | n+1=>by
  simp only[H4];rw[JZ,JP h n];intro hm;by_cases hn:n < p.length
  ·refine h (wJ.2 ⟨p[n],List.getElem_mem hn,?_⟩);grind [List.getElem?_eq_getElem,Y5.ws]
  grind [List.getElem?_eq_none,Y5.ws,MU]
theorem Gn{p:Y5}{st:St}:∀n,(H4 p st n).n=st.n
 | 0=>rfl
 | n+1=>by simp only[H4,Ln,Gn n]
theorem Wz{kp:List Nat}{d:D}{s:St}{p:Y5}{sy:List Nat}{next:D->C}{X:C}{m:Nat}(h:Ag kp d s p sy next=X)(hX:∀j,C.stuck j≠X)(hd:d.Ok)(hs:s=H4 p d.st m)(hsy:Yr sy s) :
  ∃d':D,next d'=X/\d'.Ok/\N5 s d'.st/\d'.n=d.n:=by
 unfold Ag at h;simp only[WV,UG] at h;split at h
 rotate_left
 ·grind
 rename_i hc;simp only[zG,zJ] at hc;obtain⟨hnt,hnb⟩:=hc;refine⟨_,h,?_⟩;have mu:∀b,ZT d.us b=true->ZT (dedup (p.DS++d.us)) b=true:=λb hb=>by
  simp only[ZT,zZ,wj,zI] at hb ⊢;grind [Ut,List.mem_append_right]
 have nbm:∀x,x∈OS p.DS s->x.1∈p.DS/\s.b x.1=some x.2:=(by grind [Option.some.injEq,Ut,OS])
 have nbOk:∀x,x∈OS p.DS s->ZT (dedup (p.DS++d.us)) x.1=true/\∀r,r∈x.2.rows->∀c,c∈r->okV (ZT (dedup (p.DS++d.us))) c=true:=λx hx=>by
  obtain⟨h1,h2⟩:=nbm x hx;refine⟨by simp_all [zZ,wj,zI,Ut,wY,ZT],λr hr c hc=>?_⟩;have:=hnb x hx;simp only[Mr,zZ,wj,zI,zJ] at this;rcases this with h3|h3
  ·exact N8 (hsy x.1 h3 _ h2 r hr c hc) _
  grind
 have F:N5 s (D0 d.n (Cf kp p.Pn s++d.ts.filter λx=>!p.Pn.contains x.1) (OS p.DS s++d.bs.filter λx=>!p.DS.contains x.1) (dedup (p.DS++d.us))):=by
  refine⟨?_,λi=>?_,λb=>?_,λb hb=>MR (Ja hb)⟩
  ·rw[hs,Gn];rfl
  ·rw[LF,List.find?_append];cases hf:(Cf kp p.Pn s).find? (λp=>p.1==i) with
   | some x=>
    obtain⟨h1,h2⟩:=P4 hf;have hx:=hnt x h1;unfold Cf at h1;obtain⟨j,_,rfl⟩:=zM.1 h1;simp only at h2;subst h2;exact .inr ⟨rfl,hx⟩
   | none=>
    simp only[Option.none_or];cases hw:p.Pn.contains i with
    | true=>grind
    | false=>
     rw[O6 (q:=λj=>!p.Pn.contains j) (by simp only[hw,Bool.not_false])];have e:s.t i=d.st.t i:=by grind [JR]
     refine .inr ⟨by rw[e];rfl,?_⟩;rw[e];exact G8 mu _ (hd.tmp i)
  ·rw[KT,List.find?_append];cases hf:(OS p.DS s).find? (λp=>p.1==b) with
   | some x=>
    obtain⟨h1,h2⟩:=P4 hf;obtain⟨_,h4⟩:=nbm x h1;have h5:=nbOk x h1;rw[h2] at h4 h5;refine .inr ⟨by grind,λk hk=>?_⟩;rw[h4] at hk;simp only[zD] at hk;subst hk;exact h5
   | none=>
    simp only[Option.none_or];cases hw:p.DS.contains b with
    | true=>grind
    | false=>
     rw[O6 (q:=λj=>!p.DS.contains j) (by simp only[hw,Bool.not_false])];have e:s.b b=d.st.b b:=by grind [JP]
     refine .inr ⟨by rw[e];rfl,λk hk=>?_⟩;rw[e] at hk;obtain⟨h1,h2⟩:=hd.Zr hk;exact⟨mu b h1,λr hr c hc=>G8 mu c (h2 r hr c hc)⟩
 refine⟨D.Ok.WC F λb hb k hk=>?_,F,rfl⟩;rcases F.b b with e|⟨e,_⟩
 ·have:(none:Option Qd)=some k:=e.symm.trans hk;simp at this
 ·exact hsy b hb k (e.symm.trans hk)
end Go.EV
