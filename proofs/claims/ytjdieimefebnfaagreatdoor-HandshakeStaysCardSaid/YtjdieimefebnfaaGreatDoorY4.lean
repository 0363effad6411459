/- Part Y4. -/
import Derived.Test.YtjdieimefebnfaaGreatDoorY3
set_option linter.unusedVariables false
set_option linter.unusedSimpArgs false
namespace Go.EV
open Go
structure D where
 n:Nat
 ts:List (Nat×V)
 bs:List (Nat×Qa)
 us:List Nat
 sy:List Nat
def D.st(d:D):St:=D2 d.n d.ts d.bs d.us
inductive Kf where
 | seq (y:Code)
 | block (id:Nat)
 | scope
 | lp (c:Code)
mutual
def nrm:Nat->V->(V->C)->C
 | 0,v,k=>k v
 | n+1,v,k=>match v with
  | .int a b=>k (.int a b)
  | .bool b=>k (.bool b)
  | .str s=>k (.str s)
  | .Zi=>k .Zi
  | .Zx=>k .Zx
  | .QB l=>k (.QB l)
  | .Qh=>k .Qh
  | .Zw x=>k (.Zw x)
  | .sl o z r=>k (.sl o z r)
  | .snap l=>FN n l λl=>k (.snap l)
  | .ref b o l=>k (.ref b o l)
  | .ptr b i o=>k (.ptr b i o)
  | .fn f a c=>FN n a λa=>FN n c λc=>k (.fn f a c)
  | .agg l=>FN n l λl=>k (.agg l)
  | .Qt l=>FN n l λl=>k (.Qt l)
  | .undef=>k .undef
  | .mp b=>k (.mp b)
def FN:Nat->List V->(List V->C)->C
 | 0,l,k=>k l
 | n+1,l,k=>match l with
  | []=>k []
  | v :: l=>nrm n v λv=>FN n l λl=>k (v :: l)
end
def nK:List (List V)->(List (List V)->C)->C
 | [],k=>k []
 | r :: rs,k=>FN 1000 r λr=>nK rs λrs=>k (r :: rs)
def Rw:List (Nat×V)->(List (Nat×V)->C)->C
 | [],k=>k []
 | (i,v) :: l,k=>nrm 1000 v λv=>Rw l λl=>k ((i,v) :: l)
def Oc(sy:List Nat):List (Nat×Qa)->(List (Nat×Qa)->C)->C
 | [],k=>k []
 | (i,b) :: l,k=>match sy.contains i with
  | true=>match b with|⟨z,x,r⟩=>Oc sy l λl=>k ((i,⟨z,x,r⟩) :: l)
  | false=>match b with|⟨z,x,r⟩=>nK r λr=>Oc sy l λl=>k ((i,⟨z,x,r⟩) :: l)
def oX(ws:List Wr):List Nat:=ws.filterMap fun|.t i _=>some i|_=>none
def MJ(ws:List Wr):List Nat:=ws.filterMap fun|.b i _=>some i|_=>none
def Y4.PX(p:Y4):List Nat:=p.flatMap λx=>oX x.2
def Y4.Xk(p:Y4):List Nat:=p.flatMap λx=>MJ x.2
def pK(op:BinOp)(k:IntKind)(a b:Int):Option (Bool×V):=
 match op with
 | .quo=>some (!(b==0),.int k (k.wrap (a.tdiv b)))
 | .rem=>some (!(b==0),.int k (a.tmod b))
 | .shl=>some (decide (0<=b),.int k (k.wrap (a * 2 ^ (min b.toNat k.bits))))
 | .shr=>some (decide (0<=b),.int k (a.fdiv (2 ^ (min b.toNat k.bits))))
 | _=>none
def loC(lo:Option V)(h:Nat):Option (Bool×Nat):=
 match lo with
 | none=>some (true,0)
 | some (.int _ l)=>some (decide (0<=l)&&decide (l<=h),l.toNat)
 | _=>none
def hiC(n:Nat)(hi mx:Option V):Option (Bool×Nat):=
 match hi,mx with
 | none,none=>some (true,n)
 | some (.int _ h),none=>some (decide (0<=h)&&decide (h<=n),h.toNat)
 | some (.int _ h),some (.int _ m)=>some (decide (0<=h)&&(decide (h<=m)&&decide (m<=n)),h.toNat)
 | _,_=>none
def xO(n:Nat)(lo hi mx:Option V):Option (Bool×Nat×Nat):=
 match hiC n hi mx with
 | some (c1,h)=>match loC lo h with
  | some (c2,l)=>some (match hi,mx,lo with|none,none,_=>c2|_,_,none=>c1|_,_,_=>c1&&c2,l,h)
  | none=>none
 | none=>none
def Sq(P:Program)(look:zj)(t:TypeId)(c:V)(lo hi mx:Option V):Option (Bool×V):=
 match P.underlying t with
 | some .string=>match c,mx with
  | .str s,none=>(xO s.size lo hi none).map λx=>(x.1,.str (s.extract x.2.1 x.2.2))
  | _,_=>none
 | some (.slice e)=>match P.info? e with
  | none=>none
  | some ei=>match c with
   | .sl _ size rows=>if size=ei.size then (xO rows.length lo hi mx).map λx=>(x.1,.sl false size ((rows.take x.2.2).drop x.2.1)) else none
   | .ref b off len=>match look b with
    | some k=>if k.size=ei.size/\mx.isNone=true then (xO len lo hi none).map λx=>(x.1,.ref b (match off with|0=>x.2.1|o+1=>o+1+x.2.1) (x.2.2 - x.2.1)) else none
    | none=>none
   | _=>none
 | _=>none
def hH(P:Program)(e:Operand->Option V)(look:zj)(op:Op):Option (Bool×V):=
 match op with
 | .binOp op _ x y _=>match e x,e y with
  | some (.int k a),some (.int k' b)=>match op with
   | .shl|.shr=>pK op k a b
   | _=>if k=k' then pK op k a b else none
  | some (.str a),some (.str b)=>match op with
   | .add=>some (decide (a.size+b.size<=9223372036854775807),.str (a++b))
   | _=>none
  | _,_=>none
 | .index t x i=>match P.underlying t,e x,e i with
  | some .string,some (.str s),some (.int _ i)=>some (decide (0<=i/\i < s.size),.int .u8 (s.data.getD i.toNat 0).toNat)
  | _,_,_=>none
 | .indexAddr t x i=>match P.underlying t,e x,e i with
  | some (.slice el),some (.ref b off len),some (.int _ n)=>match P.info? el with
   | some ei=>match look b with
    | some k=>if k.size=ei.size then some (decide (0<=n)&&decide (n < len),.ptr b (off+n.toNat) 0) else none
    | none=>none
   | none=>none
  | _,_,_=>none
 | .slice t x lo hi mx=>match e x,rV e lo,rV e hi,rV e mx with
  | some c,some l,some h,some m=>Sq P look t c l h m
  | _,_,_,_=>none
 | _=>none
def aQ(P:Program)(G:zi)(ops:Array Oper)(i:Nat)(s:St):Option (Bool×List Wr):=
 match Um ops i s with
 | some o=>if H9 s.n o.dst=true then (hH P (s.DC G o) (s.QF o []) o.op).map λx=>(x.1,Ml o.dst x.2) else none
 | none=>none
def uL(P:Program)(G:zi)(ops:Array Oper)(i:Nat)(s:St):Option (List (List V)×Nat×Bool×(List V->Option (List Wr))):=
 match Um ops i s with
 | some o=>match o.op,o.dst with
  | .indexAddr t x j,some d=>if d < s.n then match s.DC G o x,s.DC G o j with
    | some (.sl _ size rows),some (.int _ n)=>if XJ P t=some size then some (rows,n.toNat,decide (0<=n),λr=>some [.t d (.snap r)]) else none
    | _,_=>none
   else none
  | .load t x,some d=>if d < s.n then match s.DC G o x with
    | some (.ptr b r off)=>match s.QF o [] b with
     | some k=>some (k.rows,r,true,λrow=>(N3 P t (row.drop off)).map λc=>[.t d c])
     | none=>none
    | _=>none
   else none
  | .store t x y,none=>match s.DC G o x,s.DC G o y with
   | some (.ptr b r off),some c=>match s.QF o [] b with
    | some k=>if k.Ql=true then some (k.rows,r,true,λrow=>(WA P t k.size row off c).map λr'=>[.b b (some ⟨k.size,true,k.rows.set r (Ym (X3 8) row r')⟩)]) else none
    | none=>none
   | _,_=>none
  | _,_=>none
 | none=>none
structure pR where
 d:Nat
 b:Option Nat
 rows:List (List V)
 len:Nat
 Ql:Bool
 sb:Option Nat
 ZP:List (List V)
 size:Nat
 bytes:Nat
 fl:Bool
def aR(look:zj)(size:Nat)(c:V):Option (Option Nat×List (List V)×Nat×Bool):=
 match c with
 | .Qh=>some (none,[],0,true)
 | .ref b 0 len=>match look b with
  | some k=>if k.size=size then some (some b,k.rows,len,k.Ql) else none
  | none=>none
 | _=>none
def BL(look:zj)(size:Nat)(dst:Option Nat)(c:V):Option (Option Nat×List (List V)×Bool):=
 match c with
 | .Qh=>some (none,[],false)
 | .sl _ z rows=>if z=size then some (none,rows,true) else none
 | .ref b 0 len=>match look b with
  | some k=>if k.size=size/\len=k.rows.length/\¬dst=some b then some (some b,k.rows,false) else none
  | none=>none
 | _=>none
def LW(P:Program)(G:zi)(ops:Array Oper)(ex:List Nat)(i:Nat)(s:St):Option pR:=
  match Um ops i s with
  | some o=>match o.op,o.dst with
    | .call { callee:=.builtin .append,args:=as,argTypes:=ts },some d=>if d < s.n/\s.u d=false then match as.toList,ts.toList with
        | [x,y],[t,t2]=>match s.DC G o x,s.DC G o y,P.underlying t,P.underlying t2 with
          | some cx,some cy,some (.slice e),some (.slice _)=>match P.info? e with
            | some ei=>if 0 < ei.bytes/\(zeroV P e).map List.length=some ei.size then match aR (s.QF o ex) ei.size cx with
                | some (b,rows,len,Ql)=>match BL (s.QF o ex) ei.size b cy with
                  | some (sb,ZP,fl)=>some ⟨d,b,rows,len,Ql,sb,ZP,ei.size,ei.bytes,fl⟩
                  | none=>none
                | none=>none
              else none
            | none=>none
          | _,_,_,_=>none
        | _,_=>none
      else none
    | _,_=>none
  | none=>none
def Qxx(P:Program)(G:zi)(ops:Array Oper)(col i:Nat)(s:St):Option (List (List V)×Nat×(List V->Option (List Wr))):=
  match Um ops i s with
  | some o=>match o.op,o.dst with
    | .load t x,some d=>if d < s.n/\s.u d=false then match s.DC G o x with
        | some (.ptr b r off)=>match s.QF o [] b with
          | some k=>match Qym P t with
            | false=>some (k.rows,r,λrow=>match row[off]? with
              | some (.sl true z rs)=>if z < Y8 then some [.b b (some ⟨k.size,k.Ql,k.rows.set r (row.set off (.sl false z rs))⟩),.b d (some ⟨z,false,rs.map (·.map V.strip)⟩),.t d (.ref d 0 rs.length)] else none
              | _=>none)
            | true=>match P.info? t with
              | some ti=>some (k.rows,r,λrow=>match row[col]? with
                | some (.sl true z rs)=>if off<=col/\off+ti.size<=row.length/\(P.underlying t).isSome=true/\z < Y8 then
                    some [.b b (some ⟨k.size,k.Ql,k.rows.set r (row.set col (.sl false z rs))⟩),.b d (some ⟨z,false,rs.map (·.map V.strip)⟩),.t d (.agg (((row.set col (.ref d 0 rs.length)).drop off).take ti.size))]
                  else none
                | _=>none)
              | none=>none
          | none=>none
        | _=>none
      else none
    | _,_=>none
  | none=>none
def Qop(P:Program)(G:zi)(ops:Array Oper)(hole:List V)(fin:List (List V))(col i:Nat)(s:St):Option (Nat×Qa×Nat×Nat×Qa×Nat×Nat×List V):=
  match Um ops i s with
  | some o=>match o.op,o.dst with
    | .store t x y,none=>match s.DC G o x,s.DC G o y with
      | some (.ptr b r off),some c=>match s.QF o [] b with
        | some k=>if k.Ql=true then match WA P t k.size hole off c with
            | some r'=>match r'[col]? with
              | some (.ref d2 off2 len)=>match s.QF o [] d2 with
                | some kd=>if b=d2\/Y8<=k.size then none else some (b,k,r,d2,kd,off2,len,r'.set col (.sl true kd.size fin))
                | none=>none
              | _=>none
            | none=>none
          else none
        | none=>none
      | _,_=>none
    | _,_=>none
  | none=>none
def MF(sy:List Nat)(b:Nat)(f:Nat->Nat)(k:Qa):Qa:=match sy.contains b with
 | true=>k
 | false=>k.Qb f
def Qol(L:List (Nat×Nat))(b:Nat):Bool:=L.any λx=>x.2==b
def pX(L:List (Nat×Nat))(b:Nat):Bool:=L.any λx=>x.1==b
def JG(P:Program)(G:zi)(ops:Array Oper)(Li Lo:List (Nat×Nat))(sy:List Nat)(i:Nat)(s:St):Option (Option Nat×FuncId×List V×List (Nat×Qa)):=
 match Eg P G ops ((Li++Lo).map (·.2)) Li Lo [] i s with
 | some (dst,f,as,bl,_)=>
  if (DS Li Lo []&&bl.all λx=>sy.contains (J7 (Li++Lo) x.1) || (E8 x.2.rows.flatten).all (Qol Li))=true then
   some (dst,f,as,bl.map λx=>(x.1,MF sy (J7 (Li++Lo) x.1) (J5 (Li++Lo)) x.2))
  else none
 | none=>none
def JM(L:List (Nat×Nat))(dt:List Nat)(O:List (Nat×Qa))(res:V):Bool:=
 (O.all λx=>pX L x.1&&(dt.contains x.1 || (E8 x.2.rows.flatten).all (pX L)))&&(W5 res).all (pX L)
def R5(L:List (Nat×Nat))(dt:List Nat)(O:List (Nat×Qa))(dst:Option Nat)(res:V):List Wr:=
 (L.map λx=>Wr.b x.2 ((Qe O x.1).map (MF dt x.1 (J7 L))))++Ml dst (W0 (J7 L) res)
def HL(L:List (Nat×Nat))(dt:List Nat):List Nat:=(L.filter λx=>dt.contains x.1).map (·.2)
def Kc(look:zj)(vs:List Zs):Nat->V->Option V
 | 0,_=>none
 | n+1,c=>match c with
  | .ref b off len=>match vs.find? (λv=>v.b==b) with
   | some v=>match off with
    | 0=>match n with
     | 0=>none
     | _+1=>(look b).map λk=>.sl false k.size (v.l.map v.ty.d)
    | _+1=>none
   | none=>D4 look (n+1) (.ref b off len)
  | .ptr b i off=>match look b with
   | some k=>match k.rows[i]? with
    | some r=>(M1 (λc=>O2 (Kc look vs n c)) (r.drop off)).map .snap
    | none=>none
   | none=>none
  | .fn f a c=>match M1 (Kc look vs n) a,M1 (Kc look vs n) c with
   | some a',some c'=>some (.fn f a' c')
   | _,_=>none
  | .agg l=>(M1 (Kc look vs n) l).map .agg
  | .Qt l=>(M1 (Kc look vs n) l).map .Qt
  | c=>D4 look (n+1) c
def B9(look:zj)(vs:List Zs):Nat->V->List (Nat×List (List V)×Nat)
 | 0,_=>[]
 | n+1,c=>match c with
  | .ref b _ len=>match vs.find? (λv=>v.b==b) with
   | some _=>match look b with
    | some k=>[(b,k.rows,len)]
    | none=>[]
   | none=>[]
  | .ptr b i off=>match look b with
   | some k=>match k.rows[i]? with
    | some r=>(r.drop off).flatMap (B9 look vs n)
    | none=>[]
   | none=>[]
  | .fn _ a c=>a.flatMap (B9 look vs n)++c.flatMap (B9 look vs n)
  | .agg l=>l.flatMap (B9 look vs n)
  | .Qt l=>l.flatMap (B9 look vs n)
  | _=>[]
def PO(P:Program)(G:zi)(ops:Array Oper)(ex:List Nat)(vs:List Zs)(i:Nat)(s:St):Option (Option Nat×FuncId×List V×List (Nat×List (List V)×Nat)):=
 match IG P G ops i s with
 | some (o,f,cs)=>match Qh8 vs with
  | true=>(M1 (Kc (s.QF o ex) vs 8) cs).map λds=>(o.dst,f,ds,cs.flatMap (B9 (s.QF o ex) vs 8))
  | false=>none
 | none=>none
def reach(look:zj):Nat->List Nat->List Nat
 | 0,bs=>bs
 | n+1,bs=>bs++reach look n (bs.flatMap λb=>match look b with|some k=>E8 (k.rows.headD [])|none=>[])
def HJ:List (List V)->List (List V)->List (List V)
 | e :: es,c :: cs=>Ym (X3 8) e c :: HJ es cs
 | _,cs=>cs
def Gt(sy:List Nat)(sb:Option Nat)(e rows:List (List V)):List (List V):=match sb with
 | some b=>match sy.contains b with
  | true=>rows
  | false=>HJ e rows
 | none=>rows
def YN(sy:List Nat)(ws:List Wr)(told:List Nat):List Nat:=(told.filter λb=>(MJ ws).contains b)++sy.filter λb=>!(MJ ws).contains b
section
variable (P:Program) (G:zi)
def lC(a:Nat){ρ:Type}(k:T P G ρ)(R:List Loc)(ws:List Wr)(s:St)(p:Y4)(sy:List Nat)(next:T P G ρ->St->Y4->List Nat->C):C:=
 match k with
 | .re a' w k'=>match a'==a with
  | true=>.re ws (next k' (s.app w.b) (p++[(R,w.b)]) (YN sy w.b w.dt))
  | false=>next k (s.app ws) (p++[(R,ws)]) (YN sy ws [])
 | k=>next k (s.app ws) (p++[(R,ws)]) (YN sy ws [])
def Xt(ops:Array Oper)(i:Nat){ρ:Type}(g:T P G ρ)(s:St)(p:Y4)(sy:List Nat)(next:T P G ρ->St->Y4->List Nat->C):C:=
 match HG P G ops i s with
 | some (R,ws)=>next g (s.app ws) (p++[(R,ws)]) (YN sy ws [])
 | none=>.stuck (1000+i)
def qB(id:Nat)(ops:Array Oper)(i:Nat){ρ:Type}(g:T P G ρ)(s:St)(p:Y4)(sy:List Nat)(next:T P G ρ->St->Y4->List Nat->C):C:=
 match g with
 | .fail=>.fail
 | .Qf a c k=>match a==id * 1000+i+1 with
  | true=>match aQ P G ops i s with
   | some (c',ws)=>.Qf c' (lC P G a k (MS ops i s []) ws s p sy next)
   | none=>.stuck 1
  | false=>Xt P G ops i (.Qf a c k) s p sy next
 | .re a w k=>match a==id * 1000+i+1 with
  | true=>match HG P G ops i s with
   | some (R,ws)=>.re ws (next k (s.app w.b) (p++[(R,w.b)]) (YN sy w.b w.dt))
   | none=>.stuck 2
  | false=>Xt P G ops i (.re a w k) s p sy next
 | .row a ty l j c k=>match a==id * 1000+i+1 with
  | true=>match uL P G ops i s with
   | some (rows,j',c',f)=>.row rows j' c' λx=>match f (ty.c x) with
    | some ws=>lC P G a (k x) (MS ops i s []) ws s p sy next
    | none=>.stuck 4
   | none=>.stuck 3
  | false=>Xt P G ops i (.row a ty l j c k) s p sy next
 | .app a ty l x bytes fl hf k=>match a==id * 1000+i+1 with
  | true=>match LW P G ops [] i s with
   | some A=>.app A.rows A.len (Gt sy A.sb (x.map ty.c) A.ZP) A.bytes A.fl (
     let ws:=Gs A.b++(Gs A.sb++[.b A.d (some ⟨A.size,A.Ql,(l++x).map ty.c⟩),.t A.d (.ref A.d 0 (l++x).length)])
     next k (s.app ws) (p++[(MS ops i s [],ws)]) (YN sy ws [A.d]))
   | none=>.stuck 5
  | false=>Xt P G ops i (.app a ty l x bytes fl hf k) s p sy next
 | .call a sp Li Lo k=>match a==id * 1000+i+1 with
  | true=>match JG P G ops Li Lo sy i s with
   | some (dst,f,as,ins)=>.call f (Ym (X3 8) sp.args as) ins λr=>match JM (Li++Lo) sp.dt (sp.outs r) (sp.res r) with
    | true=>lC P G a (k r) (MS ops i s ((Li++Lo).map (·.2))) (R5 (Li++Lo) sp.dt (sp.outs r) dst (sp.res r)) s p sy λg s p sy=>next g s p (HL (Li++Lo) sp.dt++sy)
    | false=>.stuck 7
   | none=>.stuck 6
  | false=>Xt P G ops i (.call a sp Li Lo k) s p sy next
 | .call2 a sp Li Lo k k2=>match a==id * 1000+i+1 with
  | true=>match JG P G ops Li Lo sy i s with
   | some (dst,f,as,ins)=>.call2 f (Ym (X3 8) sp.args as) ins (λr=>match JM (Li++Lo) sp.dt (sp.outs (.inl r)) (sp.res (.inl r)) with
    | true=>lC P G a (k r) (MS ops i s ((Li++Lo).map (·.2))) (R5 (Li++Lo) sp.dt (sp.outs (.inl r)) dst (sp.res (.inl r))) s p sy λg s p sy=>next g s p (HL (Li++Lo) sp.dt++sy)
    | false=>.stuck 7) λr=>match JM (Li++Lo) sp.dt (sp.outs (.inr r)) (sp.res (.inr r)) with
    | true=>lC P G a (k2 r) (MS ops i s ((Li++Lo).map (·.2))) (R5 (Li++Lo) sp.dt (sp.outs (.inr r)) dst (sp.res (.inr r))) s p sy λg s p sy=>next g s p (HL (Li++Lo) sp.dt++sy)
    | false=>.stuck 7
   | none=>.stuck 6
  | false=>Xt P G ops i (.call2 a sp Li Lo k k2) s p sy next
 | .view a sp vs k=>match a==id * 1000+i+1 with
  | true=>match ops[i]? with
   | some o=>
    let ex:=reach (λb=>match sy.contains b with|true=>none|false=>s.b b) 3 (Ob s o)
    match PO P G ops ex vs i s with
    | some (dst,f,ds,eqs)=>.view f (Ym (X3 8) sp.args ds) eqs λr=>match G4 (sp.res r)&&(sp.ins.isEmpty&&(sp.outs r).isEmpty) with
     | true=>next (k r) (s.app (Ml dst (sp.res r))) (p++[(MS ops i s ex,Ml dst (sp.res r))]) sy
     | false=>.stuck 10
    | none=>.stuck 9
   | none=>.stuck 8
  | false=>Xt P G ops i (.view a sp vs k) s p sy next
 | .Qz a R k=>match a==id * 1000+i+1 with
  | true=>match Um ops i s with
   | some o=>match (match o.dst with|some d=>decide (d < s.n)&&!(s.u d)|none=>true) with
    | true=>.Qqi o.op o.dst (R.ZF.map λp=>s.DC G o p.1) (R.Zr.map λp=>s.b p.1) λr=>
      next (k r) (s.app (R.ws r)) (p++[(MS ops i s (R.Zr.map (·.1)),R.ws r)]) (YN sy (R.ws r) R.dt)
    | false=>.stuck 15
   | none=>.stuck 14
  | false=>Xt P G ops i (.Qz a R k) s p sy next
 | g=>Xt P G ops i g s p sy next
def Bi(ops:Array Oper)(i:Nat)(s:St):Option (Nat×Bool):=
 match ops[i]? with
 | some o=>match o.guard with
  | some (j,_)=>match (ops[j]?).bind (·.dst) with
   | some d=>match s.t d with
    | .bool b=>some (d,b)
    | _=>none
   | none=>none
  | none=>none
 | none=>none
def Qye(ops:Array Oper)(i:Nat)(s:St):Option (Nat×IntKind×Int):=
 match ops[i]? with
 | some o=>match o.op with
  | .indexAddr _ _ (.tmp t)=>match s.t t with
   | .int k m=>some (t,k,m)
   | _=>none
  | .index _ _ (.tmp t)=>match s.t t with
   | .int k m=>some (t,k,m)
   | _=>none
  | _=>none
 | none=>none
def kU(P:Program)(G:zi)(ops:Array Oper)(i:Nat)(s:St):Option Value:=
 match Um ops i s with
 | some o=>match o.op with
  | .panic x=>match s.DC G o x with
   | some (.Zw v)=>match v with
    | .iface t y=>some (.iface t y)
    | _=>none
   | _=>none
  | _=>none
 | none=>none
def rg(id:Nat)(ops:Array Oper):List Nat->{ρ:Type}->T P G ρ->St->Y4->List Nat->(T P G ρ->St->Y4->List Nat->C)->(List PanicEntry->T P G ρ->St->Y4->List Nat->C)->C
 | [],_,g,s,p,sy,κ,_=>κ g s p sy
 | i :: l,_,g,s,p,sy,κ,κp=>match g with
  | .br a c x y=>match a==id * 1000+i+1 with
   | true=>match Bi ops i s with
    | some (d,b)=>.br b (qB P G id ops i x (s.QR d (.bool true)) p sy λg s p sy=>rg id ops l g s p sy κ κp) (qB P G id ops i y (s.QR d (.bool false)) p sy λg s p sy=>rg id ops l g s p sy κ κp)
    | none=>.stuck 20
   | false=>qB P G id ops i (.br a c x y) s p sy λg s p sy=>rg id ops l g s p sy κ κp
  | .HU a n vs k=>match a==id * 1000+i+1 with
   | true=>match Qye ops i s with
    | some (t,kd,m)=>vs.foldr (λv r=>.br (m==v) (qB P G id ops i (k v) (s.QR t (.int kd v)) p sy λg s p sy=>rg id ops l g s p sy κ κp) r) .fail
    | none=>.stuck 21
   | false=>qB P G id ops i (.HU a n vs k) s p sy λg s p sy=>rg id ops l g s p sy κ κp
  | .Qi a sp Li Lo k k2=>match a==id * 1000+i+1 with
   | true=>match JG P G ops Li Lo sy i s with
    | some (dst,f,as,ins)=>.call2 f (Ym (X3 8) sp.args as) ins (λr=>match JM (Li++Lo) sp.dt (sp.outs r) (sp.res r) with
     | true=>lC P G a (k r) (MS ops i s ((Li++Lo).map (·.2))) (R5 (Li++Lo) sp.dt (sp.outs r) dst (sp.res r)) s p sy λg s p sy=>rg id ops l g s p (HL (Li++Lo) sp.dt++sy) κ κp
     | false=>.stuck 7) λr=>match JM (Li++Lo) sp.dt (sp.Zh r) .undef with
     | true=>κp (sp.Hn r) (k2 r) (s.app (R5 (Li++Lo) sp.dt (sp.Zh r) none .undef)) (p++[(MS ops i s ((Li++Lo).map (·.2)),R5 (Li++Lo) sp.dt (sp.Zh r) none .undef)]) (HL (Li++Lo) sp.dt++YN sy (R5 (Li++Lo) sp.dt (sp.Zh r) none .undef) [])
     | false=>.stuck 7
    | none=>.stuck 6
   | false=>qB P G id ops i (.Qi a sp Li Lo k k2) s p sy λg s p sy=>rg id ops l g s p sy κ κp
  | .Hn a k=>match a==id * 1000+i+1 with
   | true=>match kU P G ops i s with
    | some v=>κp (K2 v) k s (p++[(MS ops i s [],[])]) sy
    | none=>.stuck 22
   | false=>qB P G id ops i (.Hn a k) s p sy λg s p sy=>rg id ops l g s p sy κ κp
  | g=>qB P G id ops i g s p sy λg s p sy=>rg id ops l g s p sy κ κp
end
def ZC(us:List Nat)(i:Nat):Bool:=us.contains i || Qk i
def Mn(us sy:List Nat)(p:Nat×Qa):Bool:=sy.contains p.1 || p.2.rows.all λr=>r.all (okV (ZC us))
def CD(kp wt:List Nat)(s:St):List (Nat×V):=(kp.filter λi=>wt.contains i).map λi=>(i,s.t i)
def dedup:List Nat->List Nat
 | []=>[]
 | x :: l=>match l.contains x with
  | true=>dedup l
  | false=>x :: dedup l
def Lm(wb:List Nat)(s:St):List (Nat×Qa):=(dedup wb).filterMap λb=>match s.b b with
 | some k=>some (b,k)
 | none=>none
def AH(kp:List Nat)(d:D)(s:St)(p:Y4)(sy:List Nat)(next:D->C):C:=
 let wt:=p.PX
 let wb:=p.Xk
 let us:=dedup (wb++d.us)
 Rw (CD kp wt s) λnt=>Oc sy (Lm wb s) λnb=>
  match nt.all (λx=>okV (ZC us) x.2)&&nb.all (Mn us sy) with
  | true=>next ⟨d.n,nt++d.ts.filter (λx=>!wt.contains x.1),nb++d.bs.filter (λx=>!wb.contains x.1),us,sy⟩
  | false=>.stuck 30
def SH(P:Program)(G:zi)(ops:Array Oper)(draw:Bool)(ts:List Nat)(d:D){ρ:Type}(g:T P G ρ)(s:St)(p:Y4):C:=
 match g with
 | .done _=>match (!draw || Mf ops p)&&((p.Xk.all λb=>!(d.bs.any λx=>x.1==b))&&(p.PX.all λt=>(ops.toList.filterMap (·.dst)).contains t)) with
  | true=>.Qjl (ts.map s.t)
  | false=>.stuck 31
 | .fail=>.fail
 | _=>.stuck 32
def BU(ops:Array Oper)(ts:List Nat)(d:D)(vs:List V):D:=
 { d with ts:=ts.zip vs++d.ts.filter λx=>!(ops.toList.filterMap (·.dst)).contains x.1&&!ts.contains x.1 }
def Ext.us(x:Ext):List Nat:=x.bs.map (·.1)
def Ext.D(n:Nat)(x:Ext):D:=⟨n,x.ts,x.bs,x.us,x.dt⟩
def Ext.ok(x:Ext):Bool:=x.ts.all (λp=>okV (ZC x.us) p.2)&&x.bs.all (Mn x.us x.dt)
def I5:Exit->Bool
 | .normal=>true
 | _=>false
def xP(dt:List Nat)(id:Nat)(e:Qa)(act:Option Qa):Option Qa:=match dt.contains id with
 | true=>act
 | false=>act.map λk=>⟨k.size,k.Ql,HJ e.rows k.rows⟩
def KM(x:Ext)(st:St):List (Nat×V):=x.ts.map λp=>(p.1,X3 8 p.2 (st.t p.1))
def KE(x:Ext)(st:St):List (Nat×Option Qa):=x.bs.map λp=>(p.1,xP x.dt p.1 p.2 (st.b p.1))
def Iv(e:Exit)(x:Ext)(d:D):C:=.fin none (some e) (KM x d.st) (KE x d.st)
def fin(P:Program)(G:zi){ρ:Type}(F:YH ρ)(g:T P G ρ)(e:Exit)(d:D):C:=
 match g with
 | .done r=>match F with
  | .fn rs res outs=>match e with
   | .normal|.ret=>.fin ((F3 P d.st rs).map (X3 8 (res r))) none [] ((outs r).map λp=>(p.1,d.st.b p.1))
   | _=>.stuck 41
  | .FT E=>Iv e (E r) d
  | .Pv S E=>match r with
   | .inl y=>match I5 e with
    | true=>Iv e (S y) d
    | false=>.stuck 42
   | .inr z=>match I5 e with
    | true=>.stuck 43
    | false=>Iv e (E z) d
  | .reg _ _=>.stuck 44
  | .rR rs res outs _ Zh=>match r with
   | .inl r=>match e with
    | .normal|.ret=>.fin ((F3 P d.st rs).map (X3 8 (res r))) none [] ((outs r).map λp=>(p.1,d.st.b p.1))
    | _=>.stuck 41
   | .inr z=>.fin none (some e) [] ((Zh z).map λp=>(p.1,d.st.b p.1))
 | _=>.stuck 40
def IV(b z:Nat)(rows:List (List V)):Nat->V->V
 | 0,_=>.undef
 | n+1,c=>match c with
  | .ref b' off len=>match b'==b with
   | true=>match off with
    | 0=>.sl false z rows
    | o+1=>.ref b' (o+1) len
   | false=>.ref b' off len
  | .fn f x y=>.fn f (x.map (IV b z rows n)) (y.map (IV b z rows n))
  | .agg l=>.agg (l.map (IV b z rows n))
  | .Qt l=>.Qt (l.map (IV b z rows n))
  | c=>c
def XW(b:Nat)(rows:List (List V)):Nat->V->List (Nat×List (List V)×Nat)
 | 0,_=>[]
 | n+1,c=>match c with
  | .ref b' off len=>match b'==b with
   | true=>match off with
    | 0=>[(b,rows,len)]
    | _+1=>[]
   | false=>[]
  | .fn _ x y=>x.flatMap (XW b rows n)++y.flatMap (XW b rows n)
  | .agg l=>l.flatMap (XW b rows n)
  | .Qt l=>l.flatMap (XW b rows n)
  | _=>[]
def oQ(b m:Nat):Nat->V->V
 | 0,c=>c
 | n+1,c=>match c with
  | .ref b' off len=>match b'==b with
   | true=>match off with
    | 0=>.ref b' 0 m
    | o+1=>.ref b' (o+1) len
   | false=>.ref b' off len
  | .fn f x y=>.fn f (x.map (oQ b m n)) (y.map (oQ b m n))
  | .agg l=>.agg (l.map (oQ b m n))
  | .Qt l=>.Qt (l.map (oQ b m n))
  | c=>c
def lnB(sy:List Nat)(b m:Nat)(p:Nat×Qa):Nat×Qa:=match sy.contains p.1 with
 | true=>p
 | false=>(p.1,⟨p.2.size,p.2.Ql,p.2.rows.map (·.map (oQ b m 6))⟩)
def Qy8(sy:List Nat)(b:Nat)(p:Nat×Qa):List (Nat×List (List V)×Nat):=match sy.contains p.1 with
 | true=>[]
 | false=>p.2.rows.flatMap λr=>r.flatMap (XW b [] 6)
def ghE(w:cQ)(d:D):List (Nat×List (List V)×Nat):=
 match w with
 | .share v _=>match d.st.b v.b with
  | some k=>(d.ts.flatMap λp=>XW v.b k.rows 6 p.2)++d.bs.flatMap λp=>match p.1==v.b || d.sy.contains p.1 with
   | true=>[]
   | false=>p.2.rows.flatMap λr=>r.flatMap (XW v.b k.rows 6)
  | none=>[]
 | .len b _ _ _=>(d.ts.flatMap λp=>XW b [] 6 p.2)++d.bs.flatMap (Qy8 d.sy b)
 | _=>[]
def Fh(d:D)(v:Zs)(k:Qa):List (Nat×Qa):=(d.bs.filter λp=>!(p.1==v.b)).map λp=>(p.1,match d.sy.contains p.1 with
 | true=>p.2
 | false=>⟨p.2.size,p.2.Ql,p.2.rows.map (·.map (IV v.b k.size (v.l.map v.ty.d) 6))⟩)
def PV(s:St)(b:Nat):Bool:=match s.b b with
 | some k=>decide (k.size < Y8)
 | none=>false
theorem Np{s:St}{b:Nat}{k:Qa}(h:PV s b=true)(hk:s.b b=some k):k.size < Y8:=by
 grind [PV]
def setCell(k:Qa)(j:Nat)(c:V):Qa:=⟨k.size,k.Ql,match k.rows with|r :: rs=>r.set j c :: rs|[]=>[]⟩
def Hs(sy:List Nat)(b k:Nat)(p:Nat×Qa):Nat×Qa:=match sy.contains p.1 with
 | true=>p
 | false=>(p.1,⟨p.2.size,p.2.Ql,p.2.rows.map (·.map (R4 b k 6))⟩)
def Qu5(d:D)(b:Nat)(kb:Qa)(rows:List (List V))(k:Nat)(next:D->C):C:=
 Rw (d.ts.map λp=>(p.1,R4 b k 6 p.2)) λts=>Oc (b :: d.sy) ((b,⟨kb.size,kb.Ql,rows⟩) :: (d.bs.filter λp=>!(p.1==b)).map (Hs d.sy b k)) λbs=>
  next ⟨d.n,ts,bs,d.us,b :: d.sy⟩
def PZ(w:cQ)(d:D)(next:D->C):C:=
 match w with
 | .Az b t size=>match d.st.t t,ZC d.us b || !decide (size < Y8) with
  | .Qh,false=>next { d with ts:=(t,.ref b 0 0) :: d.ts.filter (λx=>!(x.1==t)),bs:=(b,⟨size,true,[]⟩) :: d.bs,us:=b :: d.us }
  | _,_=>.stuck 50
 | .Kb b x j size=>match d.st.b x,ZC d.us b || !decide (size < Y8),d.sy.contains x with
  | some k,false,false=>match k.rows with
   | r :: _=>match r[j]? with
    | some .Qh=>next { d with bs:=(b,⟨size,true,[]⟩) :: (x,setCell k j (.ref b 0 0)) :: d.bs.filter (λp=>!(p.1==x)),us:=b :: d.us }
    | _=>.stuck 52
   | []=>.stuck 52
  | _,_,_=>.stuck 53
 | .Qb a b=>match ZC d.us b,a==b with
  | false,false=>Rw (d.ts.map λp=>(p.1,W0 (K7 a b) p.2)) λts=>Oc ((d.sy.filter λx=>!(x==b)).map (K7 a b)) (d.bs.map λp=>(K7 a b p.1,MF d.sy p.1 (K7 a b) p.2)) λbs=>
    next ⟨d.n,ts,bs,b :: d.us,(d.sy.filter λx=>!(x==b)).map (K7 a b)⟩
  | _,_=>.stuck 54
 | .drop l=>
  let us:=d.us.filter λb=>!l.contains b
  match (d.bs.filter λp=>!l.contains p.1).all λp=>ZC us p.1&&Mn us d.sy p with
  | true=>next ⟨d.n,d.ts.filter (λp=>okV (ZC us) (d.st.t p.1)),d.bs.filter (λp=>!l.contains p.1),us,d.sy⟩
  | false=>.stuck 55
 | .len b m _ _=>Rw (d.ts.map λp=>(p.1,oQ b m 6 p.2)) λts=>Oc d.sy (d.bs.map (lnB d.sy b m)) λbs=>next ⟨d.n,ts,bs,d.us,d.sy⟩
 | .tell b es=>match d.st.b b,d.sy.contains b with
  | some k,false=>Oc d.sy ((b,⟨k.size,k.Ql,HJ es k.rows⟩) :: d.bs.filter λp=>!(p.1==b)) λbs=>next { d with bs:=bs }
  | _,_=>.stuck 58
 | .share v _=>match d.st.b v.b with
  | some k=>match d.sy.contains v.b || k.rows.all λr=>r.all H2 with
   | true=>Rw (d.ts.map λp=>(p.1,IV v.b k.size (v.l.map v.ty.d) 6 p.2)) λts=>
     Oc d.sy (Fh d v k) λbs=>
     next ⟨d.n,ts,bs,v.b :: d.us,d.sy⟩
   | false=>.stuck 56
  | none=>.stuck 57
def CB(c:Code):Bool:=match c with
 | .region _ ops _=>ops.toList.any λo=>match o.op with
  | .range _ _=>true
  | _=>false
 | _=>false
abbrev Rec(P:Program)(G:zi):=(ρ:Type)->YH ρ->T P G ρ->Code⊕Exit->List Kf->D->C
section
variable {P:Program} {G:zi} (kp:List Nat) (rec:Rec P G) {ρ:Type} (F:YH ρ)
def sxE(g:T P G ρ)(e:Exit)(K:List Kf)(d:D):C:=
 match K with
 | []=>fin P G F g e d
 | .seq y :: K=>match I5 e with
  | true=>rec ρ F g (.inl y) K d
  | false=>rec ρ F g (.inr e) K d
 | .block id :: K=>match e with
  | .exit id'=>match id'==id with
   | true=>rec ρ F g (.inr .normal) K d
   | false=>rec ρ F g (.inr (.exit id')) K d
  | e=>rec ρ F g (.inr e) K d
 | .scope :: K=>match e with
  | .goto _=>.stuck 60
  | e=>rec ρ F g (.inr e) K d
 | .lp c :: K=>match I5 e with
  | true=>rec ρ F g (.inl c) (.lp c :: K) d
  | false=>rec ρ F g (.inr e) K d
def AU(P:Program)(G:zi)(ops:Array Oper)(ip:Nat):List Nat->St->Y4->Option Y4
 | [],_,p=>some p
 | i :: l,s,p=>match ((Jp ops.toList).getD i 0).testBit ip with
  | true=>AU P G ops ip l s (p++[([],[])])
  | false=>match HG P G ops i s with
   | some (R,ws)=>AU P G ops ip l (s.app ws) (p++[(R,ws)])
   | none=>none
def KD(d:D)(p:Y4):D:=⟨d.n,d.ts.filter λx=>!p.PX.contains x.1,d.bs.filter λx=>!p.Xk.contains x.1,p.Xk++d.us,d.sy⟩
def cG(id:Nat)(ops:Array Oper)(draw:Bool)(g:T P G ρ)(K:List Kf)(d:D):C:=
 rg P G id ops (List.range' 0 ops.size) g d.st [] d.sy (λg s p sy=>match !draw || Mf ops p with
  | true=>AH kp d s p sy λd'=>rec ρ F g (.inr .normal) K d'
  | false=>.stuck 63) λv g s p sy=>match draw with
  | false=>AH kp d s p sy λd'=>rec ρ F g (.inr (.panic v)) K d'
  | true=>match AU P G ops (p.length - 1) (List.range' p.length (ops.size - p.length)) s p with
   | some p'=>match Mf ops p' with
    | true=>rec ρ F g (.inr (.panic v)) K (KD d p')
    | false=>.stuck 77
   | none=>.stuck 77
def sxR(id:Nat)(ops:Array Oper)(draw:Bool)(g:T P G ρ)(K:List Kf)(d:D):C:=
 match g with
 | .QV id' ts first E k=>match id'==id with
  | true=>.bind (rg P G id ops (List.range' 0 ops.size) first d.st [] d.sy (λg s p _=>SH P G ops draw ts d g s p) λ_ _ _ _ _=>.stuck 78) λe=>match (E e).all (okV (ZC d.us))&&(E e).length==ts.length with
   | true=>rec ρ F (k e) (.inr .normal) K (BU ops ts d (E e))
   | false=>.stuck 61
  | false=>cG kp rec F id ops draw (.QV id' ts first E k) K d
 | g=>cG kp rec F id ops draw g K d
def sxN(g:T P G ρ)(c:Code)(K:List Kf)(d:D):C:=
 match c with
 | .cond o x y=>match g with
  | .br _ _ a b=>match d.st.ev G o with
   | some (.bool c)=>.br c (rec ρ F a (.inl x) K d) (rec ρ F b (.inl y) K d)
   | _=>.stuck 65
  | .tt k=>match d.st.ev G o with
   | some (.bool c)=>match c with
    | true=>rec ρ F k (.inl x) K d
    | false=>.stuck 66
   | _=>.stuck 66
  | .ff k=>match d.st.ev G o with
   | some (.bool c)=>match c with
    | false=>rec ρ F k (.inl y) K d
    | true=>.stuck 67
   | _=>.stuck 67
  | _=>.stuck 68
 | .block id x=>rec ρ F g (.inl x) (.block id :: K) d
 | .scope x=>rec ρ F g (.inl x) (.scope :: K) d
 | .loop x=>match g with
  | .lp S body x0=>match F with
   | .FT E=>match K with
    | []=>.loop (KM (S x0) d.st) (KE (S x0) d.st) λy=>match (S y).ok&&I5 (S y).ex with
     | true=>rec _ (.Pv S E) (body y) (.inl x) [] ((S y).D d.n)
     | false=>.stuck 69
    | _ :: _=>.stuck 73
   | _=>.stuck 74
  | g=>rec ρ F g (.inl x) (.lp x :: K) d
 | .rangeFunc o ps as bd=>match g with
  | .sub S k=>match S.x.ok with
   | true=>.sub (.rangeFunc o ps as bd) d.n (KM S.x d.st) (KE S.x d.st) λe=>match (S.E e).ok with
    | true=>rec ρ F (k e) (.inr (S.E e).ex) K ((S.E e).D d.n)
    | false=>.stuck 64
   | false=>.stuck 76
  | .EA S k k2=>match S.x.ok with
   | true=>.EA (.rangeFunc o ps as bd) d.n (KM S.x d.st) (KE S.x d.st) (λe=>match (S.E (.inl e)).ok with
    | true=>rec ρ F (k e) (.inr (S.E (.inl e)).ex) K ((S.E (.inl e)).D d.n)
    | false=>.stuck 64) λe=>match (S.E (.inr e)).ok with
    | true=>rec ρ F (k2 e) (.inr (S.E (.inr e)).ex) K ((S.E (.inr e)).D d.n)
    | false=>.stuck 64
   | false=>.stuck 76
  | _=>.stuck 75
 | _=>.stuck 71
def sxB(g:T P G ρ)(c:Code)(K:List Kf)(d:D):C:=
 match g with
 | .bind 0 first E k=>.bind (rec _ (.FT E) first (.inl c) [] d) λe=>match (E e).ok with
  | true=>rec ρ F (k e) (.inr (E e).ex) K ((E e).D d.n)
  | false=>.stuck 64
 | .QA 0 first E E2 k k2=>.QA (rec _ (.FT (Sum.elim E E2)) first (.inl c) [] d)
  (λe=>match (E e).ok with
   | true=>rec ρ F (k e) (.inr (E e).ex) K ((E e).D d.n)
   | false=>.stuck 64) λe=>match (E2 e).ok with
   | true=>rec ρ F (k2 e) (.inr (E2 e).ex) K ((E2 e).D d.n)
   | false=>.stuck 64
 | .QA (j+1) first E E2 k k2=>match c with
  | .block id x=>rec ρ F (.QA j first E E2 k k2) (.inl x) (.block id :: K) d
  | .scope x=>rec ρ F (.QA j first E E2 k k2) (.inl x) (.scope :: K) d
  | .loop x=>rec ρ F (.QA j first E E2 k k2) (.inl x) (.lp x :: K) d
  | _=>.stuck 72
 | .bind (j+1) first E k=>match c with
  | .block id x=>rec ρ F (.bind j first E k) (.inl x) (.block id :: K) d
  | .scope x=>rec ρ F (.bind j first E k) (.inl x) (.scope :: K) d
  | .loop x=>rec ρ F (.bind j first E k) (.inl x) (.lp x :: K) d
  | _=>.stuck 72
 | g=>sxN rec F g c K d
def Cm(g:T P G ρ)(c:Code)(K:List Kf)(d:D):C:=
 match g with
 | .sub S k=>match S.x.ok with
  | true=>.sub c d.n (KM S.x d.st) (KE S.x d.st) λe=>match (S.E e).ok with
   | true=>rec ρ F (k e) (.inr (S.E e).ex) K ((S.E e).D d.n)
   | false=>.stuck 64
  | false=>.stuck 76
 | .EA S k k2=>match S.x.ok with
  | true=>.EA c d.n (KM S.x d.st) (KE S.x d.st) (λe=>match (S.E (.inl e)).ok with
   | true=>rec ρ F (k e) (.inr (S.E (.inl e)).ex) K ((S.E (.inl e)).D d.n)
   | false=>.stuck 64) λe=>match (S.E (.inr e)).ok with
   | true=>rec ρ F (k2 e) (.inr (S.E (.inr e)).ex) K ((S.E (.inr e)).D d.n)
   | false=>.stuck 64
  | false=>.stuck 76
 | _=>.stuck 75
def sxC(g:T P G ρ)(c:Code)(K:List Kf)(d:D):C:=
 match c with
 | .skip=>rec ρ F g (.inr .normal) K d
 | .label _=>rec ρ F g (.inr .normal) K d
 | .exit id=>rec ρ F g (.inr (.exit id)) K d
 | .ret=>rec ρ F g (.inr .ret) K d
 | .seq x y=>match CB x with
  | true=>Cm rec F g (.seq x y) K d
  | false=>rec ρ F g (.inl x) (.seq y :: K) d
 | .region id ops draw=>sxR kp rec F id ops draw g K d
 | c=>sxB rec F g c K d
def Qkz(a:Nat)(cur:Code⊕Exit)(K:List Kf):Bool:=
 match cur with
 | .inr _=>K.isEmpty&&a==0
 | .inl (.loop _)=>a==1
 | .inl (.rangeFunc _ _ _ _)=>a==1
 | .inl (.seq x _)=>a==1&&CB x
 | .inl (.region id _ _)=>a==id+2
 | _=>false
def cN(g:T P G ρ)(cur:Code⊕Exit)(K:List Kf)(d:D):C:=
 match cur with
 | .inr e=>sxE rec F g e K d
 | .inl c=>sxC kp rec F g c K d
def sxS(g:T P G ρ)(cur:Code⊕Exit)(K:List Kf)(d:D):C:=
 match g with
 | .fail=>.fail
 | .fact p _ k=>.fact p λh=>rec ρ F (k h) cur K d
 | .br a c x y=>match a==999999 with
  | true=>.br c (rec ρ F x cur K d) (rec ρ F y cur K d)
  | false=>match cur with
   | .inl (.region id ops draw)=>match a==990000+id with
    | true=>.br c (Cm rec F x (.region id ops draw) K d) (rec ρ F y (.inl (.region id ops draw)) K d)
    | false=>cN kp rec F (.br a c x y) (.inl (.region id ops draw)) K d
   | cur=>cN kp rec F (.br a c x y) cur K d
 | .gh a w k=>match Qkz a cur K with
  | true=>.gh (ghE w d) (PZ w d λd'=>rec ρ F k cur K d')
  | false=>cN kp rec F (.gh a w k) cur K d
 | .IM a b ty l n hs k=>match Qkz a cur K with
  | true=>match d.st.b b,decide (b < 1000000)&&PV d.st b with
   | some kb,true=>.Wl kb.rows n (Qu5 d b kb ((l.drop n).map ty.c) n λd'=>rec ρ F k cur K d')
   | _,_=>.stuck 59
  | false=>cN kp rec F (.IM a b ty l n hs k) cur K d
 | g=>cN kp rec F g cur K d
end
def sx(P:Program)(G:zi)(kp:List Nat)(n:Nat):Rec P G:=
 Nat.rec (λ_ _ _ _ _ _=>.stuck 99) (λ_ ih ρ F g cur K d=>sxS kp ih (ρ:=ρ) F g cur K d) n
end Go.EV
namespace Go.EV
open Go
theorem UZ(f:V->V->V):∀(es cs:List V),(Ym f es cs).length=cs.length
 | [],cs=>by cases cs<;>rfl
 | _ :: _,[]=>rfl
 | e :: es,c :: cs=>by simp[Ym,UZ f es cs]
theorem Jj(f:V->V->V):∀(es cs:List V) (i:Nat) (d:V),(Ym f es cs)[i]?=some d->∃c,cs[i]?=some c/\(d=c\/∃e,d=f e c)
 | [],cs,i,d,h=>by cases cs<;>exact⟨d,h,.inl rfl⟩
 | _ :: _,[],i,d,h=>by simp[Ym] at h
 | e :: es,c :: cs,i,d,h=>by
  cases i with
  | zero=>simp[Ym] at h;grind
  | succ i=>
   simp only[Ym,List.getElem?_cons_succ] at h;obtain⟨c',h1,h2⟩:=Jj f es cs i d h;grind
theorem Wv{γ:Gh}{w:World}{bs:zj}{u:zl}:∀(n:Nat) (e c:V) (v:Value),Qy γ w bs u c v->Qy γ w bs u (X3 n e c) v
 | 0,_,_,_,h=>h
 | n+1,e,c,v,h=>by
  have ih:=Wv (γ:=γ) (w:=w) (bs:=bs) (u:=u) n;cases c<;>simp only[X3]<;>try exact h
  case Qh=>
   split
   ·have:=h.QL;subst this;exact .data (.Zb _ _)
   ·exact h
  case sl o z r=>
   split
   ·exact h.strip
   ·exact h
  case agg cs=>
   split
   ·rename_i es;obtain⟨vs,rfl,h1,h2⟩:=h.QX;refine .agg _ vs (by rw[UZ];exact h1) λi c v hc hv=>?_;obtain⟨c',k1,k2⟩:=Jj _ _ _ _ _ hc;grind
   ·exact h
  case Qt cs=>
   split
   ·rename_i es;obtain⟨vs,rfl,h1,h2⟩:=h.WX;refine .Qt _ vs (by rw[UZ];exact h1) λi c v hc hv=>?_;obtain⟨c',k1,k2⟩:=Jj _ _ _ _ _ hc;grind
   ·exact h
theorem xR:∀(n:Nat) (e c:V),(X3 n e c).QM=true->X3 n e c=c\/c=.Qh
 | 0,_,_,_=>.inl rfl
 | n+1,e,c,h=>by
  cases c
  case Qh=>exact .inr rfl
  case sl o z r=>
   simp only[X3] at h ⊢;cases e with
   | sl o' z' r'=>grind [V.QM]
   | _=>exact .inl rfl
  case agg cs=>simp only[X3] at h;grind [V.QM]
  case Qt cs=>simp only[X3] at h;grind [V.QM]
  all_goals exact .inl rfl
theorem Tx{bs:zj}{u:zl}(n:Nat)(e c:V):Wk bs u c (X3 n e c):=λ_ _ v h=>Wv n e c v h
theorem WQ{bs:zj}{u:zl}:∀(es cs:List (List V)),W2 (λc c'=>Wk bs u c c'/\(c'.QM=true->c'=c\/c=.Qh)) cs (HJ es cs)
 | [],cs=>by
  cases cs<;>exact⟨rfl,λi r' h=>⟨r',h,rfl,λj c' hc=>⟨c',hc,Wk.refl _,λ_=>.inl rfl⟩⟩⟩
 | _ :: _,[]=>⟨rfl,(by grind [HJ])⟩
 | e :: es,c :: cs=>by
  obtain⟨h1,h2⟩:=WQ (bs:=bs) (u:=u) es cs;refine⟨by simp[HJ,h1],λi r' h=>?_⟩;cases i with
  | zero=>
   simp only[HJ,qb,zD] at h;subst h;refine⟨c,rfl,UZ _ _ _,λj c' hc=>?_⟩;obtain⟨c0,k1,k2⟩:=Jj _ _ _ _ _ hc;refine⟨c0,k1,?_⟩;rcases k2 with rfl|⟨e0,rfl⟩
   ·exact⟨Wk.refl _,λ_=>.inl rfl⟩
   grind [Tx,xR]
  | succ i=>
   grind [List.getElem?_cons_succ,HJ]
theorem W2.same{R:V->V->Prop}(h:∀c,R c c)(l:List (List V)):W2 R l l:=⟨rfl,(by grind)⟩
theorem W2.append{R:V->V->Prop}{l l' m m':List (List V)}(h:W2 R l l')(k:W2 R m m'):W2 R (l++m) (l'++m'):=
  ⟨by simp[h.1,k.1],λi r' hr=>by
    by_cases hi:i < l'.length
    · rw[wq hi] at hr
      rw[wq (by rw[<-h.1];exact hi)];exact h.2 i r' hr
    · rw[wz (by omega)] at hr
      rw[wz (by rw[<-h.1];omega),<-h.1];exact k.2 _ r' hr⟩
theorem W2.set{R:V->V->Prop}(h:∀c,R c c)(l:List (List V))(j:Nat){r r':List V}(k:W2 R [r] [r']):W2 R (l.set j r) (l.set j r'):=
  ⟨by simp,λi q hq=>by
    by_cases hi:j=i
    · subst hi
      have hl:j < l.length:=by
        grind
      rw[List.getElem?_set_self hl] at hq ⊢;simp only[zD] at hq;subst hq;obtain⟨r0,h1,h2⟩:=k.2 0 r' rfl;grind
    grind⟩
def EJ(bs:zj)(u:zl)(c c':V):Prop:=Wk bs u c c'/\(c'.QM=true->c'=c\/c=.Qh)
theorem EJ.same{bs:zj}{u:zl}(c:V):EJ bs u c c:=⟨Wk.refl _,λ_=>.inl rfl⟩
theorem QH.sO{G:zi}(s:St)(d:Nat)(z:Nat)(x:Bool){rows rows':List (List V)}(h:∀bs u,W2 (EJ bs u) rows rows')(t:List (Nat×V)) :
  QH G ((s.Qu d ⟨z,x,rows⟩).app (t.map λp=>.t p.1 p.2)) ((s.Qu d ⟨z,x,rows'⟩).app (t.map λp=>.t p.1 p.2)):=by
 have key:∀(t:List (Nat×V)) (s s':St),s'.n=s.n->s'.u=s.u->s'.t=s.t->(s'.app (t.map λp=>.t p.1 p.2)).n=(s.app (t.map λp=>.t p.1 p.2)).n/\(s'.app (t.map λp=>.t p.1 p.2)).u=(s.app (t.map λp=>.t p.1 p.2)).u/\(s'.app (t.map λp=>.t p.1 p.2)).t=(s.app (t.map λp=>.t p.1 p.2)).t/\(s'.app (t.map λp=>.t p.1 p.2)).b=s'.b/\(s.app (t.map λp=>.t p.1 p.2)).b=s.b:=by
  intro t;induction t with
  | nil=>intro s s' h1 h2 h3;exact⟨h1,h2,h3,rfl,rfl⟩
  | cons p t ih=>
   intro s s' h1 h2 h3;exact ih (s.QR p.1 p.2) (s'.QR p.1 p.2) h1 h2 (by simp[St.QR,h3])
 obtain⟨h1,h2,h3,h4,h5⟩:=key t (s.Qu d ⟨z,x,rows⟩) (s.Qu d ⟨z,x,rows'⟩) rfl rfl rfl;refine QH.cells h1 h2 (by grind [Wk.refl]) λb=>?_;rw[h4,h5];simp only[St.Qu];by_cases hb:b=d
 ·subst hb;exact .inr ⟨_,_,if_pos rfl,if_pos rfl,rfl,rfl,h _ _⟩
 ·rw[if_neg hb,if_neg hb];cases hs:s.b b with
  | none=>grind
  | some k=>exact .inr ⟨k,k,rfl,rfl,rfl,rfl,W2.same (λc=>EJ.same c) _⟩
theorem xB{bs:zj}{u:zl}(e c:List V):W2 (EJ bs u) [c] [Ym (X3 8) e c]:=WQ [e] [c]
mutual
theorem mI:∀(n:Nat) (v:V) (k:V->C),nrm n v k=k v
 | 0,_,_=>rfl
 | n+1,v,k=>by
  cases v<;>simp only[nrm]<;>simp only[FG n]
theorem FG:∀(n:Nat) (l:List V) (k:List V->C),FN n l k=k l
 | 0,_,_=>rfl
 | n+1,l,k=>by
  cases l with
  | nil=>rfl
  | cons v l=>simp only[FN,mI n,FG n]
end
theorem CM:∀(l:List (List V)) (k:List (List V)->C),nK l k=k l
 | [],_=>rfl
 | r :: l,k=>by simp only[nK,FG,CM l]
theorem WC:∀(l:List (Nat×V)) (k:List (Nat×V)->C),Rw l k=k l
 | [],_=>rfl
 | (i,v) :: l,k=>by simp only[Rw,mI,WC l]
theorem UR(sy:List Nat):∀(l:List (Nat×Qa)) (k:List (Nat×Qa)->C),Oc sy l k=k l
 | [],_=>rfl
 | (i,b) :: l,k=>by
  cases h:sy.contains i<;>simp only[Oc,h,CM,UR sy l]
theorem DY{op:BinOp}{k:IntKind}{a b:Int}{c:Bool}{v:V}(h:pK op k a b=some (c,v))(hc:c=true):OY op k a b=some v\/Mq op k a b=some v:=by
 subst hc;cases op<;>simp only[pK,zD,zO,reduceCtorEq] at h
 case quo=>obtain⟨h1,rfl⟩:=h;left;simp only[wo,beq_eq_false_iff_ne,ne_eq] at h1;simp[OY,h1]
 case rem=>obtain⟨h1,rfl⟩:=h;left;simp only[wo,beq_eq_false_iff_ne,ne_eq] at h1;simp[OY,h1]
 case shl=>obtain⟨h1,rfl⟩:=h;right;simp only[zI] at h1;simp[Mq,show ¬b < 0 by omega]
 case shr=>obtain⟨h1,rfl⟩:=h;right;simp only[zI] at h1;simp[Mq,show ¬b < 0 by omega]
theorem Ia{lo:Option V}{h:Nat}{c:Bool}{l:Nat}(e:loC lo h=some (c,l))(hc:c=true):iV lo h=some l:=by
 unfold loC at e;unfold iV;grind
theorem Ip{n:Nat}{hi mx:Option V}{c:Bool}{h:Nat}(e:hiC n hi mx=some (c,h))(hc:c=true):VE n hi mx=some h:=by
 unfold hiC at e;unfold VE;grind
theorem Dr{n:Nat}{lo hi mx:Option V}{c:Bool}{l h:Nat}(e:xO n lo hi mx=some (c,l,h))(hc:c=true):VE n hi mx=some h/\iV lo h=some l:=by
 unfold xO at e;split at e
 ·rename_i c1 h' e1;split at e
  ·rename_i c2 l' e2;simp only[zD,zO] at e;obtain⟨e3,rfl,rfl⟩:=e;subst hc;split at e3
   ·subst e3;have:c1=true:=by simp[hiC] at e1;exact e1.1.symm▸rfl
    exact⟨Ip e1 this,Ia e2 rfl⟩
   ·subst e3;have:c2=true:=by simp[loC] at e2;exact e2.1.symm▸rfl
    exact⟨Ip e1 rfl,Ia e2 this⟩
   ·simp only[zF] at e3;grind [Ip,Ia]
  ·simp at e
 ·simp at e
theorem Nb{P:Program}{look:zj}{t:TypeId}{c d:V}{lo hi mx:Option V}{b:Bool}(e:Sq P look t c lo hi mx=some (b,d))(hb:b=true):HR P look t c lo hi mx=some d:=by
 unfold Sq at e;unfold HR;split at e
 ·rename_i hu;rw[hu];split at e
  ·obtain⟨⟨c1,l,h⟩,e1,e2⟩:=zG.1 e;simp only[zO] at e2;obtain⟨rfl,rfl⟩:=e2;obtain⟨k1,k2⟩:=Dr e1 hb;simp[k1,k2]
  ·simp at e
 ·rename_i el hu;rw[hu];simp only;split at e
  ·simp at e
  ·rename_i ei he;rw[he];simp only;split at e
   ·split at e
    ·rename_i hs;obtain⟨⟨c1,l,h⟩,e1,e2⟩:=zG.1 e;simp only[zO] at e2;obtain⟨rfl,rfl⟩:=e2;obtain⟨k1,k2⟩:=Dr e1 hb;grind
    ·simp at e
   ·rename_i b' off len';split at e
    ·rename_i k hk;split at e
     ·rename_i hs;obtain⟨⟨c1,l,h⟩,e1,e2⟩:=zG.1 e;simp only[zO] at e2;obtain⟨rfl,rfl⟩:=e2;obtain⟨k1,k2⟩:=Dr e1 hb;obtain⟨hs,hmx⟩:=hs;have hmx:=Option.isNone_iff_eq_none.1 hmx;subst hmx;have k1:=Qya (N:=k.rows.length - off) k1;grind
     ·simp at e
    ·simp at e
   ·simp at e
 ·simp at e
theorem SW{P:Program}{e:Operand->Option V}{look:zj}{op:Op}{c:Bool}{v:V}(h:hH P e look op=some (c,v))(hc:c=true):Jl P e look op=some v:=by
 unfold hH at h;unfold Jl;split at h
 ·rename_i op t x y _;split at h
  ·rename_i k a k' b hx hy;simp only[hx,hy,Pz];split at h
   ·rcases DY h hc with h|h
    ·simp[OY] at h
    ·exact h
   ·rcases DY h hc with h|h
    ·simp[OY] at h
    ·exact h
   ·rename_i n1 n2;split at h
    ·rename_i hk;rcases DY h hc with h|h
     ·grind
     ·cases op<;>first|exact absurd rfl n1|exact absurd rfl n2|(simp[Mq] at h)
    ·simp at h
  ·rename_i a b hx hy;simp only[hx,hy,Pz];split at h
   ·simp only[zD,zO] at h;obtain⟨h1,rfl⟩:=h;subst hc;simp only[zI] at h1;simp only[oP,h1,if_true]
   ·simp at h
  ·simp at h
 ·rename_i t x i;split at h
  ·rename_i s n hu hx hi;simp only[zD,zO] at h;obtain⟨h1,rfl⟩:=h;simp_all [zI,and_self,if_true,Gm]
  ·simp at h
 ·rename_i t x i;split at h
  ·rename_i el b off len kk n hu hx hi;split at h
   ·rename_i ei he;split at h
    ·rename_i k hk;split at h
     ·rename_i hs;simp only[zD,zO] at h;obtain⟨h1,rfl⟩:=h;subst hc;simp only[zF,zI] at h1;simp only[hx,hi,N4,hu,he,hk,hs];simp[h1]
     ·simp at h
    ·simp at h
   ·simp at h
  ·simp at h
 ·grind [Nb]
 ·simp at h
section
variable {P:Program} {G:zi} {ops:Array Oper} {i:Nat} {s:St}
theorem BH{c:Bool}{ws:List Wr}(h:aQ P G ops i s=some (c,ws))(hc:c=true):A7 P G ops i s (MS ops i s []) ws:=by
 unfold aQ at h;split at h
 ·rename_i o ho;split at h
  ·rename_i hd;obtain⟨⟨c',v⟩,h1,h2⟩:=zG.1 h;simp only[zO] at h2;obtain⟨rfl,rfl⟩:=h2;grind [ZR,Dg,SW]
  ·simp at h
 ·simp at h
theorem I9.ghost{o:Oper}{st st1 st2:St}(h:I9 P G o st st1)(g:QH G st1 st2):I9 P G o st st2:=λfx γ a w hs hd next Q hn=>
 h fx γ a w hs hd next Q λa' w' γ' k1 k2 k3 k4=>by
  obtain⟨γ2,g1,g2,g3⟩:=g γ' a'.tmps w' k1;exact hn a' w' γ2 g1 (k2.trans g2) (k3.trans g3) k4
theorem SU{rows:List (List V)}{j:Nat}{c:Bool}{f:List V->Option (List Wr)}{r:List V}{ws:List Wr}(h:uL P G ops i s=some (rows,j,c,f))(hc:c=true)(hr:rows[j]?=some r)(hf:f r=some ws) :
  A7 P G ops i s (MS ops i s []) ws:=by
 subst hc;unfold uL at h;split at h
 ·rename_i o ho;split at h
  ·rename_i t x jj d hop hdst;split at h
   ·rename_i hd;split at h
    ·rename_i ow size rows' kk n hx hj;split at h
     ·rename_i hsz;simp only[zD,zO] at h;obtain⟨rfl,rfl,h3,rfl⟩:=h;simp only[zD] at hf;subst hf;refine PF (n:=n) (rows:=rows') (d:=d) ?_ (by simpa using h3) hr;simp_all [if_true,eF]
     ·simp at h
    ·simp at h
   ·simp at h
  ·rename_i t x d hop hdst;split at h
   ·rename_i hd;split at h
    ·rename_i b r' off hx;split at h
     ·rename_i k hk;simp only[zD,zO,true_and] at h;obtain⟨rfl,rfl,rfl⟩:=h;obtain⟨v,h1,rfl⟩:=zG.1 hf;refine LV (t:=t) (rows:=k.rows) (j:=r') (off:=off) (d:=d) ?_ hr h1;simp_all [if_true,Gq]
     ·simp at h
    ·simp at h
   ·simp at h
  ·rename_i t x y hop hdst;split at h
   ·rename_i b r' off cv hx hy;split at h
    ·rename_i k hk;split at h
     ·rename_i hex;simp only[zD,zO,true_and] at h;obtain⟨rfl,rfl,rfl⟩:=h;obtain⟨v,h1,rfl⟩:=zG.1 hf;obtain⟨oo,ho',hE⟩:=Ak (P:=P) (G:=G) (ops:=ops) (i:=i) (s:=s) (ex:=[]) (t:=t) (rows:=k.rows) (j:=r') (off:=off) (b:=b) (size:=k.size) (c:=cv) (by simp_all [if_true,Ad]) hr h1;exact ZR ⟨oo,ho',λs2 hn ht hbm hu=>(hE s2 hn ht hbm hu).ghost (QH.sO s2 b k.size true (by grind [W2.set,EJ.same,xB]) [])⟩
     ·simp at h
    ·simp at h
   ·simp at h
  ·simp at h
 ·simp at h
theorem Nf{α:Type}(ty:Ty α)(x:List α):(x.map ty.d).map (·.map V.strip)=x.map ty.d:=by
 rw[wX];exact wE λa _=>ty.st a
theorem aP{ex:List Nat}{A:pR}(h:LW P G ops ex i s=some A)(hlen:A.len=A.rows.length)(hf:A.fl=true->A.ZP.map (·.map V.strip)=A.ZP) :
  ∃off,Tn P G ops ex i s=some (A.d,⟨A.b,0,A.size,A.Ql,A.rows⟩,⟨A.sb,off,A.size,true,A.ZP⟩,A.size,A.bytes,true):=by
 unfold LW at h;split at h
 ·rename_i o ho;split at h
  ·rename_i as ts d hop hdst;split at h
   ·rename_i hd;split at h
    ·rename_i x' y' t t2 hxs hts;split at h
     ·rename_i cx cy e e2 hx hy ht ht2;split at h
      ·rename_i ei hi;split at h
       ·rename_i hz;split at h
        ·rename_i b rows len Ql hds;split at h
         ·rename_i sb ZP fl hss;simp only[zD] at h;subst h;simp only at hlen hf ⊢;subst hlen;have k1:qY (s.QF o ex) ei.size cx=some (⟨b,0,ei.size,Ql,rows⟩,true):=by
           unfold aR at hds;unfold qY;split at hds
           ·grind
           ·grind
           ·simp at hds
          have k2:∃off,TL (s.QF o ex) ei.size b cy=some (⟨sb,off,ei.size,true,ZP⟩,true):=by
           unfold BL at hss;unfold TL;split at hss
           ·simp_all
           ·simp_all
           ·rename_i b' len';split at hss
            ·rename_i k hk;split at hss
             ·simp_all
             ·simp at hss
            ·simp at hss
           ·simp at hss
          obtain⟨off,k2⟩:=k2;simp_all [and_self,if_true,Tn]
         ·simp at h
        ·simp at h
       ·simp at h
      ·simp at h
     ·simp at h
    ·simp at h
   ·simp at h
  ·simp at h
 ·simp at h
theorem aN{ex:List Nat}{A:pR}(h:LW P G ops ex i s=some A)(e:A.fl=true):A.sb=none:=by
 unfold LW at h;split at h
 ·split at h
  ·split at h
   ·split at h
    ·split at h
     ·split at h
      ·split at h
       ·split at h
        ·split at h
         ·rename_i hss;simp only[zD] at h;subst h;simp only at e ⊢;subst e;unfold BL at hss;split at hss
          ·simp at hss
          ·grind
          ·grind
          ·simp at hss
         ·simp at h
        ·simp at h
       ·simp at h
      ·simp at h
     ·simp at h
    ·simp at h
   ·simp at h
  ·simp at h
 ·simp at h
theorem IA{bs:zj}{u:zl}(sy:List Nat)(sb:Option Nat)(e rows:List (List V)):W2 (EJ bs u) rows (Gt sy sb e rows):=by
 unfold Gt;split
 ·split
  ·grind [W2.same,EJ.same]
  ·exact WQ _ _
 grind [W2.same,EJ.same]
theorem BF{A:pR}(h:LW P G ops [] i s=some A){α:Type}{ty:Ty α}{l x:List α}{sy:List Nat}(hr:A.rows=l.map ty.c)(hlen:A.len=l.length)(hs:Gt sy A.sb (x.map ty.c) A.ZP=x.map ty.c)(hf:A.fl=true->A.sb=none/\∀y,ty.c y=ty.d y)
  (hb:(l.length+x.length) * A.bytes<=140737488355328) :
  A7 P G ops i s (MS ops i s []) (Gs A.b++(Gs A.sb++[.b A.d (some ⟨A.size,A.Ql,(l++x).map ty.c⟩),.t A.d (.ref A.d 0 (l++x).length)])):=by
 have hlx:A.ZP.length=x.length:=by
  have:=(IA (bs:=λ_=>none) (u:=λ_=>false) sy A.sb (x.map ty.c) A.ZP).1;grind
 obtain⟨off,hat⟩:=aP h (by grind) (λe=>by
  obtain⟨e0,e2⟩:=hf e;have e1:x.map ty.c=x.map ty.d:=wE λa _=>e2 a;rw[e0] at hs;have hs':A.ZP=x.map ty.c:=hs;rw[hs',e1,Nf])
 obtain⟨oo,ho,hE⟩:=Fq (ds:=⟨A.b,0,A.size,A.Ql,A.rows⟩) (ss:=⟨A.sb,off,A.size,true,A.ZP⟩) (rows:=l.map ty.c++A.ZP) (m:=(l++x).length) hat rfl (by grind) (by simp[hr]) (by simp[hr,hlx]);refine ZR ⟨oo,ho,λs2 hn ht hbm hu=>(hE s2 hn ht hbm hu).ghost ?_⟩;simp only;rw[UH,UH,UH,UH];have:=QH.sO (G:=G) ((s2.QU A.b).QU A.sb) A.d A.size A.Ql (rows:=l.map ty.c++A.ZP) (rows':=(l++x).map ty.c) (λbs u=>by
  rw[wP];refine W2.append (W2.same (λc=>EJ.same c) _) ?_;have:=IA (bs:=bs) (u:=u) sy A.sb (x.map ty.c) A.ZP;rw[hs] at this;exact this) [(A.d,.ref A.d 0 (l++x).length)]
 exact this
theorem iX.of{o:Oper}{s s2:St}{x:Operand}{c:V}(hx:s.DC G o x=some c)(ht:∀t,t∈Y2 o->s2.t t=s.t t):iX G s2 x c:=λ_ _ _ hs=>
 (hs.Zz (Y2 o)).ev (by rw[ZD ht];exact hx)
theorem qW{c:V}(h:H2 c=true)(f:Nat->Nat):W0 f c=c:=by
 cases c<;>simp_all [H2,W0];obtain⟨rfl,rfl⟩:=h;simp[P8]
theorem BZ{c:V}(h:H2 c=true):W5 c=[]:=by
 cases c<;>simp_all [H2,W5];obtain⟨rfl,rfl⟩:=h;simp[E8]
theorem N9{c:V}(h:H2 c=true)(u:zl):okV u c=true:=by
 cases c<;>simp_all [H2,okV];obtain⟨rfl,rfl⟩:=h;simp[Md]
theorem J8.Qb{k:Qa}(h:J8 k.rows)(f:Nat->Nat):k.Qb f=k:=by
 unfold Qa.Qb;have:k.rows.map (P8 f)=k.rows:=by
  have:∀l:List (List V),J8 l->l.map (P8 f)=l:=by
   intro l hl;induction l with
   | nil=>rfl
   | cons r l ih=>
    rw[wu,ih λr' hr'=>hl r' (by simp[hr'])];congr 1;rw[WO]
    conv=>rhs;rw[<-List.map_id r]
    exact wE λc hc=>qW (hl r (by simp) c hc) f
  exact this _ h
 rw[this]
theorem J8.refs{rows:List (List V)}(h:J8 rows):E8 rows.flatten=[]:=by
 have:∀l:List V,(∀c,c∈l->H2 c=true)->E8 l=[]:=by
  intro l hl;induction l with
  | nil=>rfl
  | cons c l ih=>grind [BZ,E8]
 refine this _ λc hc=>?_;obtain⟨r,h1,h2⟩:=wN.1 hc;exact h r h1 c h2
def Yp(sy:List Nat)(s:St):Prop:=∀b,b∈sy->∀k,s.b b=some k->J8 k.rows
theorem WL{dt:List Nat}{b:Nat}{f:Nat->Nat}{k:Qa}(h:b∈dt->J8 k.rows):MF dt b f k=k.Qb f:=by
 unfold MF;split
 ·rename_i hc;exact((h (by simpa using hc)).Qb f).symm
 ·rfl
theorem RP{Li Lo:List (Nat×Nat)}{sy:List Nat}{dst:Option Nat}{f:FuncId}{as:List V}{I:List (Nat×Qa)}(hsy:Yp sy s)(h:JG P G ops Li Lo sy i s=some (dst,f,as,I)){O:List (Nat×Qa)}{res:V}
  {dt:List Nat} (hdt:∀p,p∈O->p.1∈dt->J8 p.2.rows) (hc:QS P G f as (Qe I) res (Qe O)) (ho:JM (Li++Lo) dt O res=true) :
  A7 P G ops i s (MS ops i s ((Li++Lo).map (·.2))) (R5 (Li++Lo) dt O dst res):=by
 unfold JG at h;split at h
 ·rename_i dst' f' as' bl shl hcg;split at h
  ·rename_i hcond;simp only[zD,zO] at h;obtain⟨rfl,rfl,rfl,rfl⟩:=h;simp only[zF,zJ,zY] at hcond;obtain⟨hids,hbl⟩:=hcond;have hids':=hids;simp only[DS,zF,zJ,beq_iff_eq,zI,wo] at hids';obtain⟨⟨⟨i1,i2⟩,i3⟩,i4⟩:=hids';have hblk:∀x,x∈bl->sy.contains (J7 (Li++Lo) x.1)=true->J8 x.2.rows:=by
    intro x hx hs;simp only[Eg] at hcg;split at hcg
    ·rename_i o ff cs hca;split at hcg
     ·rename_i shl' bl' hsh hb';split at hcg
      ·simp only[zD,zO] at hcg;obtain⟨-,-,-,rfl,-⟩:=hcg;obtain⟨n,hn⟩:=wV.1 hx;obtain⟨y,y1,y2⟩:=F5 hb' n x hn;obtain⟨k,k1,rfl⟩:=zG.1 y2;have hy:=zV y1;have e:J7 (Li++Lo) y.1=y.2:=(by grind);simp only[e] at hs;exact hsy y.2 (by simpa using hs) k (YU _ _ _ _ k1)
      ·simp at hcg
     ·simp at hcg
    ·simp at hcg
   have eI:(bl.map λx=>(x.1,MF sy (J7 (Li++Lo) x.1) (J5 (Li++Lo)) x.2))=bl.map λx=>(x.1,x.2.Qb (J5 (Li++Lo))):=
    (by grind [List.map_congr_left,WL])
   simp only[JM,zF,zJ,zY] at ho;have hshl:shl=[]:=by
    grind [Option.some.injEq,Prod.mk.injEq,Eg,M1]
   subst hshl;refine TM Li Lo [] hids hcg hc eI.symm (by simp) (λx hx b hb=>?_) (λx hx=>⟨(ho.1 x hx).1,λb hb=>?_⟩) (by grind [pX]) ?_
   ·rcases hbl x hx with h1|h1
    ·rw[(hblk x hx h1).refs] at hb;simp at hb
    ·exact h1 b hb
   ·rcases(ho.1 x hx).2 with h1|h1
    ·rw[(hdt x hx (by simpa using h1)).refs] at hb;simp at hb
    ·exact h1 b hb
   ·unfold R5 Og;simp only[List.map_nil,wL,wX];congr 1;refine wE λx hx=>?_;simp only[Function.comp];grind [WL,P3,Qe]
  ·simp at h
 ·simp at h
theorem SD{v:Value}(h:kU P G ops i s=some v):Ms P G ops i s (MS ops i s []) (.panic (K2 v)) []:=by
 unfold kU at h;split at h
 ·rename_i o ho;obtain⟨h3,h4⟩:=EB ho;split at h
  ·rename_i x hop;split at h
   ·rename_i u hu;split at h
    ·rename_i t y;simp only[zD] at h;subst h;intro s2 hn hag;obtain⟨k1,k2,_,_⟩:=ES h3 h4 hn hag;refine⟨o,h3,(by grind),k1,λfx γ a w hs had next Q hq=>?_⟩;have hv:a.eval x=.iface t y:=by
      exact(iX.of hu k2 γ a w hs).US
     have hrun:(execOp a.eval o).run P w=.halt (.panic (.iface t y)) w:=by
      unfold execOp;rw[hop];simp only[hv];rfl
     show o.upon P a next Q _
     rw[hrun];exact hq a w γ hs (.refl γ w) (.refl hs.u) had
    ·simp at h
   ·simp at h
  ·simp at h
 ·simp at h
theorem Gv{Li Lo:List (Nat×Nat)}{sy:List Nat}{dst:Option Nat}{f:FuncId}{as:List V}{I:List (Nat×Qa)}(hsy:Yp sy s)(h:JG P G ops Li Lo sy i s=some (dst,f,as,I)){O:List (Nat×Qa)}{v:List PanicEntry}
  {dt:List Nat} (hdt:∀p,p∈O->p.1∈dt->J8 p.2.rows) (hc:EU P G f as (Qe I) v (Qe O)) (ho:JM (Li++Lo) dt O .undef=true) :
  Ms P G ops i s (MS ops i s ((Li++Lo).map (·.2))) (.panic v) (R5 (Li++Lo) dt O none .undef):=by
 unfold JG at h;split at h
 ·rename_i dst' f' as' bl shl hcg;split at h
  ·rename_i hcond;simp only[zD,zO] at h;obtain⟨rfl,rfl,rfl,rfl⟩:=h;simp only[zF,zJ,zY] at hcond;obtain⟨hids,hbl⟩:=hcond;have hids':=hids;simp only[DS,zF,zJ,beq_iff_eq,zI,wo] at hids';obtain⟨⟨⟨i1,i2⟩,i3⟩,i4⟩:=hids';have hblk:∀x,x∈bl->sy.contains (J7 (Li++Lo) x.1)=true->J8 x.2.rows:=by
    intro x hx hs;simp only[Eg] at hcg;split at hcg
    ·rename_i o ff cs hca;split at hcg
     ·rename_i shl' bl' hsh hb';split at hcg
      ·simp only[zD,zO] at hcg;obtain⟨-,-,-,rfl,-⟩:=hcg;obtain⟨n,hn⟩:=wV.1 hx;obtain⟨y,y1,y2⟩:=F5 hb' n x hn;obtain⟨k,k1,rfl⟩:=zG.1 y2;have hy:=zV y1;have e:J7 (Li++Lo) y.1=y.2:=(by grind);simp only[e] at hs;exact hsy y.2 (by simpa using hs) k (YU _ _ _ _ k1)
      ·simp at hcg
     ·simp at hcg
    ·simp at hcg
   have eI:(bl.map λx=>(x.1,MF sy (J7 (Li++Lo) x.1) (J5 (Li++Lo)) x.2))=bl.map λx=>(x.1,x.2.Qb (J5 (Li++Lo))):=
    (by grind [List.map_congr_left,WL])
   simp only[JM,zF,zJ,zY] at ho;have hshl:shl=[]:=by
    grind [Option.some.injEq,Prod.mk.injEq,Eg,M1]
   subst hshl;refine PG Li Lo [] hids hcg hc eI.symm (by simp) (λx hx b hb=>?_) (λx hx=>⟨(ho.1 x hx).1,λb hb=>?_⟩) ?_
   ·rcases hbl x hx with h1|h1
    ·rw[(hblk x hx h1).refs] at hb;simp at hb
    ·exact h1 b hb
   ·rcases(ho.1 x hx).2 with h1|h1
    ·rw[(hdt x hx (by simpa using h1)).refs] at hb;simp at hb
    ·exact h1 b hb
   ·unfold R5 Og;simp only[List.map_nil,wL,wX,Ml];refine wE λx hx=>?_;simp only[Function.comp];grind [WL,P3,Qe]
  ·simp at h
 ·simp at h
end
end Go.EV
namespace Go.EV
open Go
theorem Wx{α β:Type}{f g:α->Option β}:∀{l:List α} {r:List β},M1 f l=some r->(∀x,x∈l->∀y,f x=some y->g x=some y)->M1 g l=some r
 | [],r,h,_=>h
 | x :: l,r,h,hg=>by
  simp only[M1] at h ⊢;split at h
  ·rename_i y r' h1 h2;rw[hg x (by simp) y h1,Wx h2 (by grind)];exact h
  ·simp at h
theorem Nw{look:zj}{c:V}(h:H2 c=true)(n:Nat):D4 look (n+1) c=D4 look 1 c:=by
 cases c<;>simp_all [H2,D4];obtain⟨rfl,rfl⟩:=h;simp[M1]
theorem Ty.view{α:Type}(ty:Ty α)(look:zj)(n:Nat)(x:α):M1 (λv=>O2 (D4 look (n+1) v)) (ty.c x)=some (ty.d x):=
 Wx (ty.vw look x) λc hc y hy=>by
  rw[Nw (zJ.1 (ty.cd x) c hc)];exact hy
theorem Ty.views{α:Type}(ty:Ty α)(look:zj)(n:Nat):∀l:List α,M1 (M1 λv=>O2 (D4 look (n+1) v)) (l.map ty.c)=some (l.map ty.d)
 | []=>rfl
 | x :: l=>by simp only[wu,M1,ty.view look n x,ty.views look n l]
theorem Au{look:zj}{vs:List Zs}:∀(n:Nat) (c:V) (e:Nat×List (List V)×Nat),e∈B9 look vs n c->∃k,look e.1=some k/\e.2.1=k.rows
 | 0,_,_,h=>by simp[B9] at h
 | n+1,c,e,h=>by
  have fl:∀l:List V,e∈l.flatMap (B9 look vs n)->∃k,look e.1=some k/\e.2.1=k.rows:=λl hl=>by
   obtain⟨x,_,hx⟩:=wK.1 hl;exact Au n x e hx
  cases c<;>simp only[B9,zZ] at h
  case ref b off len=>
   grind
  case ptr b i off=>
   grind
  case fn f a c=>
   grind
  case agg l=>exact fl _ h
  grind
def VOk(vs:List Zs)(es:List (Nat×List (List V)×Nat)):Prop:=
 ∀e,e∈es->∀v,vs.find? (λv=>v.b==e.1)=some v->e.2.1.take e.2.2=v.l.map v.ty.c
theorem Aj{look:zj}{vs:List Zs}:∀(n:Nat) (c d:V),Kc look vs n c=some d->VOk vs (B9 look vs n c)->D4 look n c=some d
 | 0,_,_,h,_=>by simp[Kc] at h
 | n+1,c,d,h,hv=>by
  have ih:=Aj (look:=look) (vs:=vs) n
  have sub:∀(l:List V) (r:List V),M1 (Kc look vs n) l=some r->VOk vs (l.flatMap (B9 look vs n))->M1 (D4 look n) l=some r:=λl r hm hl=>
   Wx hm λx hx y hy=>ih x y hy λe he=>hl e (by grind)
  cases c<;>simp only[Kc] at h<;>try exact h
  case ref b off len=>
   split at h
   ·rename_i v hf;split at h
    ·split at h
     ·simp at h
     ·rename_i n0;obtain⟨k,hk,rfl⟩:=zG.1 h;have:=hv (b,k.rows,len) (by grind [B9]);have e:(k.rows.drop 0).take len=v.l.map v.ty.c:=by grind
      simp only[D4,hk];rw[e,v.ty.views];rfl
    ·simp at h
   ·exact h
  case ptr b i off=>
   split at h
   ·rename_i k hk;split at h
    ·rename_i r hr;obtain⟨l,h1,rfl⟩:=zG.1 h;simp only[B9,hk,hr] at hv;simp only[D4,hk,hr];rw[Wx h1 λx hx y hy=>?_]
     ·rfl
     ·obtain⟨a1,a2⟩:=ZO hy;have:=ih x y a1 λe he=>hv e (by grind);grind
    ·simp at h
   ·simp at h
  case fn f a c=>
   split at h
   ·rename_i a' c' h1 h2;simp only[B9] at hv;simp only[D4];rw[sub a a' h1 λe he=>hv e (wZ _ he),sub c c' h2 λe he=>hv e (by grind)];exact h
   ·simp at h
  case agg l=>
   obtain⟨r,h1,rfl⟩:=zG.1 h;simp only[D4];rw[sub l r h1 hv];rfl
  case Qt l=>
   obtain⟨r,h1,rfl⟩:=zG.1 h;simp only[D4];rw[sub l r h1 hv];rfl
theorem cE{look:zj}{vs:List Zs}{n:Nat}{cs:List V}(hw:Qh8 vs=true)(h:cs.flatMap (B9 look vs n)=vs.map Zs.pQ):VOk vs (cs.flatMap (B9 look vs n)):=by
 have rows:∀e,e∈cs.flatMap (B9 look vs n)->∃k,look e.1=some k/\e.2.1=k.rows:=(by grind [Au]);intro e he v hv;obtain⟨k,k1,k2⟩:=rows e he
 have hm:=qe hv
 have hb:v.b=e.1:=by grind
 have:v.pQ∈cs.flatMap (B9 look vs n):=by grind
 obtain⟨k',k3,k4⟩:=rows _ this;simp only[Zs.pQ] at k3 k4;rw[hb,k1] at k3;simp only[zD] at k3;subst k3;obtain⟨v',hm',he'⟩:=zM.1 (h▸he);subst he';simp only[Zs.pQ] at k1 k2 hb ⊢;have one:∀x,x∈vs->∀y,y∈vs->y.b=x.b->x.w=false->x=y:=λx hx y hy hxy hw0=>by
  have:=zJ.1 hw x hx;rw[hw0] at this;simp only[Bool.false_or,beq_iff_eq] at this;obtain⟨z,hz⟩:=List.length_eq_one_iff.1 this
  have hx':x∈vs.filter λq=>q.b==x.b:=(by grind)
  have hy':y∈vs.filter λq=>q.b==x.b:=(by grind);grind
 cases hwv:v.w with
 | false=>rw[<-one v hm v' hm' hb.symm hwv];exact v.h
 | true=>
  cases hwv':v'.w with
  | false=>grind
  | true=>rw[v'.hw hwv',show v'.rows.length=v.n by rw[v.hw hwv,k2,k4],k2,<-k4];exact v.h
section
variable {P:Program} {G:zi} {ops:Array Oper} {i:Nat} {s:St}
theorem Nk{ex:List Nat}{vs:List Zs}{dst:Option Nat}{f:FuncId}{ds:List V}{es:List (Nat×List (List V)×Nat)}{r:V}(h:PO P G ops ex vs i s=some (dst,f,ds,es))(he:es=vs.map Zs.pQ)
  (hc:iK P G f ds r) (hr:G4 r=true):A7 P G ops i s (MS ops i s ex) (Ml dst r):=by
 unfold PO at h;split at h
 ·rename_i o f' cs hca;split at h
  rotate_left
  ·simp at h
  rename_i hw;obtain⟨ds',hm,h2⟩:=zG.1 h;simp only[zO] at h2;obtain⟨rfl,rfl,rfl,rfl⟩:=h2;have hv:=cE hw he;refine TK 8 ?_ hc hr;simp only[viewAt,hca];rw[Wx hm λx hx y hy=>Aj 8 x y hy λe he=>hv e (by grind)];rfl
 ·simp at h
end
def T7(P:Program)(G:zi)(ops:Array Oper)(p:Y4)(st0 s:St):Prop:=
 s=H5 p st0 p.length/\∀j,j < p.length->A7 P G ops j (H5 p st0 j) (p.rs j) (p.ws j)
theorem X0(p:Y4)(x:List Loc×List Wr)(st:St):∀n,n<=p.length->H5 (p++[x]) st n=H5 p st n
 | 0,_=>rfl
 | n+1,h=>by
  simp only[H5];rw[X0 p x st n (by omega)];grind [List.getElem?_append_left,Y4.ws]
theorem T7.push{P:Program}{G:zi}{ops:Array Oper}{p:Y4}{st0 s:St}(h:T7 P G ops p st0 s){R:List Loc}{ws:List Wr}(hs:A7 P G ops p.length s R ws):T7 P G ops (p++[(R,ws)]) st0 (s.app ws):=by
 obtain⟨h1,h2⟩:=h;have e:(p++[(R,ws)]).getD p.length ([],[])=(R,ws):=by grind
 refine⟨?_,λj hj=>?_⟩
 ·simp_all [wW,X0,zN,H5,Y4.ws]
 grind [List.length_append,List.length_singleton,X0,List.getElem?_append_left,Y4.rs,Y4.ws]
theorem JZ{ws:List Wr}{s:St}{b:Nat}(h:¬b∈MJ ws):(s.app ws).b b=s.b b:=
 (O5 (l:=.b b) ws s λx hx e=>h (by
  unfold MJ;refine List.mem_filterMap.2 ⟨x,hx,?_⟩;cases x with
  | t i c=>simp[Wr.loc] at e
  | b i k=>grind [Loc.b.injEq,Wr.loc])).1
theorem Pk{ws:List Wr}{s:St}{t:Nat}(h:¬t∈oX ws):(s.app ws).t t=s.t t:=
 O5 (l:=.t t) ws s λx hx e=>h (by
  unfold oX;refine List.mem_filterMap.2 ⟨x,hx,?_⟩;cases x with
  | b i c=>simp[Wr.loc] at e
  | t i k=>grind [Loc.t.injEq,Wr.loc])
theorem BO(a b:List Wr)(s:St):s.app (a++b)=(s.app a).app b:=by unfold St.app;grind
theorem aO(ws:List Wr)(x:Wr)(s:St):s.app (ws++[x])=(s.app ws).wr x:=by
 unfold St.app;grind
theorem DH{s:St}{b:Nat}{k:Qa}:∀(n:Nat) (ws:List Wr),ws.length=n->(s.app ws).b b=some k->b∈MJ ws->Wr.b b (some k)∈ws
 | 0,ws,hn,_,hm=>by grind [List.length_eq_zero_iff,MJ]
 | n+1,ws,hn,h,hm=>by
  obtain⟨ws',x,rfl⟩:∃ws' x,ws=ws'++[x]:=⟨ws.dropLast,ws.getLast (by grind),(List.dropLast_concat_getLast _).symm⟩;rw[aO] at h;have hl:ws'.length=n:=by simpa using hn
  cases x with
  | t i c=>
   have hm':b∈MJ ws':=by
    grind [MJ]
   exact wZ _ (DH n ws' hl h hm')
  | b i q=>
   by_cases hi:b=i
   ·subst hi;cases q with
    | none=>simp[St.wr,St.Zq] at h
    | some q=>
     simp_all [if_true,zD,St.wr,St.Qu]
   ·have h':(s.app ws').b b=some k:=by
     cases q with
     | none=>grind [St.wr,St.Zq]
     | some q=>grind [St.wr,St.Qu]
    have hm':b∈MJ ws':=by
     grind [MJ]
    exact wZ _ (DH n ws' hl h' hm')
theorem Yp.step{sy:List Nat}{s:St}(h:Yp sy s){ws:List Wr}{told:List Nat}(ht:∀i k,Wr.b i (some k)∈ws->i∈told->J8 k.rows):Yp (YN sy ws told) (s.app ws):=by
 intro b hb k hk;unfold YN at hb;rcases wk.1 hb with hb|hb
 ·obtain⟨h1,h2⟩:=List.mem_filter.1 hb;exact ht b k (DH _ ws rfl hk (by simpa using h2)) h1
 ·obtain⟨h1,h2⟩:=List.mem_filter.1 hb;rw[JZ (by simpa using h2)] at hk;exact h b h1 k hk
theorem WE.coe{P:Program}{G:zi}{f:FuncId}{es as:List V}{ins outs:zj}{E:Value->Ending}{res:V}(h:WE P G f (Ym (X3 8) es as) ins E res outs):WE P G f as ins E res outs:=λγ w vs hg ho ha hb=>
 h γ w vs hg ho ⟨by rw[UZ];exact ha.1,λi c v hc hv=>by
  obtain⟨c',k1,k2⟩:=Jj _ _ _ _ _ hc;rcases k2 with rfl|⟨e,rfl⟩
  ·exact ha.2 i _ v k1 hv
  ·exact Wv 8 e c' v (ha.2 i c' v k1 hv)⟩ hb
theorem EU.coe{P:Program}{G:zi}{f:FuncId}{es as:List V}{ins outs:zj}{v:List PanicEntry}(h:EU P G f (Ym (X3 8) es as) ins v outs):EU P G f as ins v outs:=WE.coe h
theorem QS.coe{P:Program}{G:zi}{f:FuncId}{es as:List V}{ins outs:zj}{res:V}(h:QS P G f (Ym (X3 8) es as) ins res outs):QS P G f as ins res outs:=λγ w vs hg ho ha hb=>
 h γ w vs hg ho ⟨by rw[UZ];exact ha.1,λi c v hc hv=>by
  obtain⟨c',k1,k2⟩:=Jj _ _ _ _ _ hc;rcases k2 with rfl|⟨e,rfl⟩
  ·exact ha.2 i _ v k1 hv
  ·exact Wv 8 e c' v (ha.2 i c' v k1 hv)⟩ hb
section
variable {P:Program} {G:zi} {id:Nat} {ops:Array Oper}
def Pf(P:Program)(G:zi)(ops:Array Oper){ρ:Type}(F:YH ρ)(r:ρ)(st0:St)(n:Nat)(next:T P G ρ->St->Y4->List Nat->C):Prop:=
 ∃g' s' p' sy',next g' s' p' sy'=g'.expect F/\g'.run=some r/\T7 P G ops p' st0 s'/\Yp sy' s'/\p'.length=n
theorem EN{ρ:Type}{F:YH ρ}{a:Nat}{k:T P G ρ}{R:List Loc}{ws:List Wr}{s st0:St}{p:Y4}{sy:List Nat}{next:T P G ρ->St->Y4->List Nat->C}{r:ρ}
  (h:lC P G a k R ws s p sy next=k.expect F) (hr:k.run=some r) (hp:T7 P G ops p st0 s) (hsy:Yp sy s) (hs:A7 P G ops p.length s R ws) :
  ∃g' sy' p',next g' (s.app ws) p' sy'=g'.expect F/\g'.run=some r/\T7 P G ops p' st0 (s.app ws)/\Yp sy' (s.app ws)/\p'.length=p.length+1:=by
 have plain:next k (s.app ws) (p++[(R,ws)]) (YN sy ws [])=k.expect F->∃g' sy' p',next g' (s.app ws) p' sy'=g'.expect F/\g'.run=some r/\T7 P G ops p' st0 (s.app ws)/\Yp sy' (s.app ws)/\p'.length=p.length+1:=
  λh=>⟨k,_,_,h,hr,hp.push hs,hsy.step (by grind),by simp⟩
 cases k<;>try exact plain h
 case re a' w k'=>
  simp only[lC] at h;split at h
  ·simp only[T.expect,C.re.injEq] at h;obtain⟨h1,h2⟩:=h;have e:ws=w.b:=h1.trans w.h;rw[e];exact⟨k',_,_,h2,hr,hp.push (e▸hs),hsy.step w.JL,by simp⟩
  grind
theorem BQ{ρ:Type}{F:YH ρ}{g:T P G ρ}{s st0:St}{p:Y4}{sy:List Nat}{next:T P G ρ->St->Y4->List Nat->C}{r:ρ}(hns:∀j,C.stuck j≠g.expect F)
  (h:Xt P G ops p.length g s p sy next=g.expect F) (hr:g.run=some r) (hp:T7 P G ops p st0 s) (hsy:Yp sy s):Pf P G ops F r st0 (p.length+1) next:=by
 unfold Xt at h;split at h
 ·rename_i R ws hrw;exact⟨g,_,_,_,h,hr,hp.push (Ji hrw),hsy.step (by grind),by simp⟩
 grind
theorem Z4{ρ:Type}(F:YH ρ)(g:T P G ρ)(j:Nat):C.stuck j≠g.expect F:=by
 induction g with
 | done r=>
  cases F with
  | Pv S E=>grind [T.expect,Ws]
  | rR rs res outs ex Zh=>grind [T.expect,Ws]
  | _=>simp[T.expect,Ws]
 | tt k ih=>grind [T.expect]
 | ff k ih=>grind [T.expect]
 | Hn a k ih=>grind [T.expect]
 | lp S body x=>cases F<;>simp[T.expect]
 | HU a n vs k=>cases vs<;>simp[T.expect]
 | _=>simp[T.expect]
theorem Ck{s:St}{sy sy':List Nat}{i:Nat}{Li Lo:List (Nat×Nat)}{dst dst':Option Nat}{f:FuncId}{as:List V}{ins:List (Nat×Qa)}
  {O:List (Nat×Qa)} {res:V} {dt:List Nat} (hc:JG P G ops Li Lo sy i s=some (dst',f,as,ins)) (hdt:∀q,q∈O->q.1∈dt->J8 q.2.rows)
  (x4:Yp sy' (s.app (R5 (Li++Lo) dt O dst res))):Yp (HL (Li++Lo) dt++sy') (s.app (R5 (Li++Lo) dt O dst res)):=by
 intro b hb q hq;rcases wk.1 hb with hb|hb
 ·unfold HL at hb;obtain⟨y,hy,rfl⟩:=zM.1 hb;obtain⟨y1,y2⟩:=List.mem_filter.1 hy;unfold JG at hc;split at hc
  ·split at hc
   ·rename_i hcond;simp only[zF] at hcond;have hids:=hcond.1;simp only[DS,zF,zJ,beq_iff_eq,zI,wo] at hids;have i1:=hids.1.1.1;have e0:(s.app (R5 (Li++Lo) dt O dst res)).b y.2=(Qe O y.1).map (MF dt y.1 (J7 (Li++Lo))):=by
     unfold R5;rw[BO];have e1:∀s':St,(s'.app (Ml dst (W0 (J7 (Li++Lo)) res))).b y.2=s'.b y.2:=λs'=>JZ (by cases dst<;>simp[Ml,MJ]);rw[e1];have:=(Ep ((Qe O y.1).map (MF dt y.1 (J7 (Li++Lo)))) ((Li++Lo).map λz=>(z.2,(Qe O z.1).map (MF dt z.1 (J7 (Li++Lo))))) s y.2 (by grind) ⟨_,zM.2 ⟨y,y1,rfl⟩,rfl⟩).1;rw[wX] at this;exact this
    rw[e0] at hq;cases hO:Qe O y.1 with
    | none=>grind
    | some k=>
     rw[hO] at hq;simp only[wJ,zD] at hq;subst hq;have hd:=hdt (y.1,k) (P3 hO) (by simpa using y2);rw[WL (λ_=>hd),hd.Qb];exact hd
   ·simp at hc
  ·simp at hc
 ·exact x4 b hb q hq
theorem Kk{ρ:Type}{F:YH ρ}{a:Nat}{k:T P G ρ}{s st0:St}{p:Y4}{sy:List Nat}{next:T P G ρ->St->Y4->List Nat->C}{r:ρ}{Li Lo:List (Nat×Nat)}{dst:Option Nat}{f:FuncId}{as:List V}{ins:List (Nat×Qa)}
  {O:List (Nat×Qa)} {res:V} {dt:List Nat} (hp:T7 P G ops p st0 s) (hsy:Yp sy s) (hc:JG P G ops Li Lo sy p.length s=some (dst,f,as,ins)) (hdt:∀q,q∈O->q.1∈dt->J8 q.2.rows)
  (hok:QS P G f as (Qe ins) res (Qe O)) (hout:JM (Li++Lo) dt O res=true)
  (h5:lC P G a k (MS ops p.length s ((Li++Lo).map (·.2))) (R5 (Li++Lo) dt O dst res) s p sy (λg s p sy=>next g s p (HL (Li++Lo) dt++sy))=k.expect F) (hr:k.run=some r):Pf P G ops F r st0 (p.length+1) next:=by
 have hs:=RP hsy hc hdt hok hout;obtain⟨g',sy',p',x1,x2,x3,x4,x5⟩:=EN h5 hr hp hsy hs;exact⟨g',_,p',_,x1,x2,x3,Ck hc hdt x4,x5⟩
theorem qU{ρ:Type}{F:YH ρ}{g:T P G ρ}{s st0:St}{p:Y4}{sy:List Nat}{next:T P G ρ->St->Y4->List Nat->C}{r:ρ}
  (h:qB P G id ops p.length g s p sy next=g.expect F) (hr:g.run=some r) (hp:T7 P G ops p st0 s) (hsy:Yp sy s):Pf P G ops F r st0 (p.length+1) next:=by
 have pl:Xt P G ops p.length g s p sy next=g.expect F->Pf P G ops F r st0 (p.length+1) next:=(by grind [BQ,Z4])
 cases g<;>simp only[qB] at h<;>try exact pl h
 case fail=>simp[T.run] at hr
 case Qf a c k=>
  split at h
  ·split at h
   ·rename_i c' ws hc;simp only[T.expect,C.Qf.injEq] at h;obtain⟨rfl,h2⟩:=h;simp only[T.run] at hr;cases c' with
    | false=>simp at hr
    | true=>
     obtain⟨g',sy',p',x1,x2,x3,x4,x5⟩:=EN h2 hr hp hsy (BH hc rfl);exact⟨g',_,p',sy',x1,x2,x3,x4,x5⟩
   grind [Z4,absurd]
  ·exact pl h
 case re a w k=>
  split at h
  ·split at h
   ·rename_i R ws hrw;simp only[T.expect,C.re.injEq] at h;obtain⟨h1,h2⟩:=h;have e:ws=w.b:=h1.trans w.h;subst e;exact⟨k,_,_,_,h2,hr,hp.push (Ji hrw),hsy.step w.JL,by simp⟩
   grind [Z4,absurd]
  ·exact pl h
 case row α a ty l j c k=>
  split at h
  ·split at h
   ·rename_i rows j' c' f hro;simp only[T.expect,C.row.injEq,heq_eq_eq,true_and] at h;obtain⟨rfl,rfl,rfl,h4⟩:=h;simp only[T.run] at hr;cases c' with
    | false=>simp at hr
    | true=>
     simp only[cond_true] at hr;split at hr
     ·rename_i x hx;have h5:=congrFun h4 x;split at h5
      ·rename_i ws hws;have Wl:(l.map ty.c)[j']?=some (ty.c x):=by grind
       obtain⟨g',sy',p',x1,x2,x3,x4,x5⟩:=EN h5 hr hp hsy (SU hro rfl Wl hws);exact⟨g',_,p',sy',x1,x2,x3,x4,x5⟩
      grind [Z4,absurd]
     ·simp at hr
   grind [Z4,absurd]
  ·exact pl h
 case app α a ty l x bytes fl hf k=>
  split at h
  ·split at h
   ·rename_i A hA;simp only[T.expect,C.app.injEq] at h;obtain⟨h1,h2,h3,h4,h5,h6⟩:=h;simp only[T.run] at hr;cases hc:decide ((l.length+x.length) * bytes<=140737488355328) with
    | false=>grind
    | true=>
     rw[hc] at hr;simp only[cond_true] at hr;have hb:(l.length+x.length) * A.bytes<=140737488355328:=by grind
     have hs:=BF hA h1 h2 h3 (λe=>⟨aN hA e,hf (by rw[<-h5];exact e)⟩) hb;refine⟨k,_,_,_,h6,hr,hp.push hs,hsy.step (λi k hm hi=>?_),by simp⟩;simp only[wH] at hi;subst hi;simp only[wk,zR,zZ,or_false,Wr.b.injEq,zD,true_and,reduceCtorEq] at hm;rcases hm with hm|hm|hm
     ·unfold Gs at hm;grind
     ·unfold Gs at hm;grind
     ·subst hm;exact ty.data _
   grind [Z4,absurd]
  ·exact pl h
 case call α a sp Li Lo k=>
  split at h
  ·split at h
   ·rename_i dst f as ins hc;simp only[T.expect,C.call.injEq,heq_eq_eq,true_and] at h;obtain⟨rfl,h2,rfl,h4⟩:=h;simp only[T.run] at hr;split at hr
    ·rename_i x hx;have h5:=congrFun h4 x;split at h5
     ·rename_i hout;exact Kk hp hsy hc (sp.JL x) (by have:=sp.ok x hx;rw[<-h2] at this;exact this.coe) hout h5 hr
     ·exact absurd h5 (Z4 F _ _)
    ·simp at hr
   ·exact absurd h (Z4 F _ _)
  ·exact pl h
 case call2 α β a sp Li Lo k k2=>
  split at h
  ·split at h
   ·rename_i dst f as ins hc;simp only[T.expect,C.call2.injEq,heq_eq_eq,true_and] at h;obtain⟨rfl,h2,rfl,h4,h4b⟩:=h;simp only[T.run] at hr;split at hr
    ·rename_i x hx;have h5:=congrFun h4 x;split at h5
     ·rename_i hout;exact Kk hp hsy hc (sp.JL _) (by have:=sp.ok _ hx;rw[<-h2] at this;exact this.coe) hout h5 hr
     ·exact absurd h5 (Z4 F _ _)
    ·rename_i x hx;have h5:=congrFun h4b x;split at h5
     ·rename_i hout;exact Kk hp hsy hc (sp.JL _) (by have:=sp.ok _ hx;rw[<-h2] at this;exact this.coe) hout h5 hr
     ·exact absurd h5 (Z4 F _ _)
    ·simp at hr
   ·exact absurd h (Z4 F _ _)
  ·exact pl h
 case view α a sp vs k=>
  split at h
  ·split at h
   ·split at h
    ·rename_i dst f ds eqs hv;simp only[T.expect,C.view.injEq,heq_eq_eq,true_and] at h;obtain⟨rfl,h2,h3,h4⟩:=h;simp only[T.run] at hr;split at hr
     ·rename_i x hx;have h5:=congrFun h4 x;split at h5
      ·rename_i hfl;simp only[zF,List.isEmpty_iff] at hfl;obtain⟨f1,f2,f3⟩:=hfl;have hok:=sp.ok x hx;rw[f2,f3,<-h2] at hok;have hok:=hok.coe;have hs:=Nk hv h3 hok f1;exact⟨_,_,_,_,h5,hr,hp.push hs,λb hb q hq=>hsy b hb q (by
        rw[<-hq];exact(JZ (by cases dst<;>simp[Ml,MJ])).symm),by simp⟩
      ·exact absurd h5 (Z4 F _ _)
     ·simp at hr
    ·exact absurd h (Z4 F _ _)
   ·exact absurd h (Z4 F _ _)
  ·exact pl h
 case Qz β a R k=>
  split at h
  ·split at h
   ·rename_i o ho;split at h
    ·rename_i hfr;simp only[T.expect,C.Qqi.injEq,heq_eq_eq,true_and] at h;obtain⟨h1,h2,h3,h4,h5⟩:=h;simp only[T.run] at hr;split at hr
     ·rename_i x hx;have hs:A7 P G ops p.length s (MS ops p.length s (R.Zr.map (·.1))) (R.ws x):=ZR ⟨o,ho,λs2 hn ht hb hu=>R.ok x hx o s2 h1 h2
       (λq hq=>iX.of (List.map_inj_left.1 h3 q hq) ht)
       (λq hq=>by rw[(hb q.1 (List.mem_append_right _ (zM.2 ⟨q,hq,rfl⟩))).1];exact List.map_inj_left.1 h4 q hq)
       (λd hd=>by
        have hd':o.dst=some d:=h2.trans hd;rw[hd'] at hfr;simp only[zF,zI,wo] at hfr;rw[hn,(hu d hd').2];exact hfr)⟩
      exact⟨_,_,_,_,congrFun h5 x,hr,hp.push hs,hsy.step (R.JL x),by simp⟩
     ·simp at hr
    ·exact absurd h (Z4 F _ _)
   ·exact absurd h (Z4 F _ _)
  ·exact pl h
theorem Rc{i:Nat}{s:St}{d:Nat}{b:Bool}(h:Bi ops i s=some (d,b)):s.QR d (.bool b)=s:=by
 unfold Bi at h;split at h
 ·split at h
  ·split at h
   ·split at h
    ·rename_i b' hb;simp only[zD,zO] at h;obtain⟨rfl,rfl⟩:=h;unfold St.QR;cases s;simp only[St.mk.injEq,true_and,and_true];grind
    ·simp at h
   ·simp at h
  ·simp at h
 ·simp at h
theorem OS{s:St}{t:Nat}{c:V}(hb:s.t t=c):s.QR t c=s:=by
 unfold St.QR;cases s;simp only[St.mk.injEq,true_and,and_true];grind
theorem VM{i:Nat}{s:St}{t:Nat}{k:IntKind}{m:Int}(h:Qye ops i s=some (t,k,m)):s.QR t (.int k m)=s:=by
 unfold Qye at h;split at h
 ·split at h
  ·split at h
   ·rename_i hb;simp only[zD,zO] at h;obtain⟨rfl,rfl,rfl⟩:=h;exact OS hb
   ·simp at h
  ·split at h
   ·rename_i hb;simp only[zD,zO] at h;obtain⟨rfl,rfl,rfl⟩:=h;exact OS hb
   ·simp at h
  ·simp at h
 ·simp at h
theorem LQ{m n:Int}{A B:Int->C}:∀(vs:List Int),vs.foldr (λv r=>C.br (m==v) (A v) r) C.fail=vs.foldr (λv r=>C.br (n==v) (B v) r) C.fail->vs.contains n=true->m=n/\A n=B n
 | [],_,h=>by simp at h
 | v :: vs,h,hc=>by
  simp only[List.foldr_cons,C.br.injEq] at h;obtain⟨h1,h2,h3⟩:=h;by_cases hn:n=v
  ·grind
  ·refine LQ vs h3 ?_;grind
def Tv(P:Program)(G:zi)(ops:Array Oper){ρ:Type}(F:YH ρ)(r:ρ)(st0:St)(n:Nat)(κp:List PanicEntry->T P G ρ->St->Y4->List Nat->C):Prop:=
 ∃v g' sy' p s R W,κp v g' (s.app W) (p++[(R,W)]) sy'=g'.expect F/\g'.run=some r/\T7 P G ops p st0 s/\Ms P G ops p.length s R (.panic v) W/\p.length < n/\Yp sy' (s.app W)
theorem Mr(p:Y4)(x:List Loc×List Wr)(st:St):H5 (p++[x]) st (p++[x]).length=(H5 p st p.length).app x.2:=by
 simp_all [wW,List.length_singleton,X0,zN,H5,Y4.ws]
theorem AZ{ρ:Type}{F:YH ρ}{r:ρ}{st0:St}{κ:T P G ρ->St->Y4->List Nat->C}{κp:List PanicEntry->T P G ρ->St->Y4->List Nat->C}:∀(m:Nat) (g:T P G ρ) (s:St) (p:Y4) (sy:List Nat),
  rg P G id ops (List.range' p.length m) g s p sy κ κp=g.expect F->g.run=some r->T7 P G ops p st0 s->Yp sy s->Pf P G ops F r st0 (p.length+m) κ\/Tv P G ops F r st0 (p.length+m) κp
 | 0,g,s,p,sy,h,hr,hp,hsy=>.inl ⟨g,s,p,sy,h,hr,hp,hsy,rfl⟩
 | m+1,g,s,p,sy,h,hr,hp,hsy=>by
  rw[List.range'_succ] at h;have next:∀{g':T P G ρ} {s':St} {p':Y4} {sy':List Nat} (n1:Nat),n1=p.length+1->rg P G id ops (List.range' n1 m) g' s' p' sy' κ κp=g'.expect F->g'.run=some r->T7 P G ops p' st0 s'->Yp sy' s'->p'.length=p.length+1->
    Pf P G ops F r st0 (p.length+(m+1)) κ\/Tv P G ops F r st0 (p.length+(m+1)) κp:=by
   intro g' s' p' sy' n1 hn1 x1 x2 x3 x4 x5;have:=AZ m g' s' p' sy' (by rw[x5,<-hn1];exact x1) x2 x3 x4;grind
  have step:∀(g:T P G ρ) (s:St),T7 P G ops p st0 s->Yp sy s->g.run=some r->∀n1,n1=p.length+1->
    qB P G id ops p.length g s p sy (λg s p' sy=>rg P G id ops (List.range' n1 m) g s p' sy κ κp)=g.expect F->Pf P G ops F r st0 (p.length+(m+1)) κ\/Tv P G ops F r st0 (p.length+(m+1)) κp:=by
   intro g s hp hsy hr n1 hn1 h;obtain⟨g',s',p',sy',x1,x2,x3,x4,x5⟩:=qU h hr hp hsy;grind
  have pl:qB P G id ops p.length g s p sy (λg s p' sy=>rg P G id ops (List.range' (p.length+1) m) g s p' sy κ κp)=g.expect F->Pf P G ops F r st0 (p.length+(m+1)) κ\/Tv P G ops F r st0 (p.length+(m+1)) κp:=step g s hp hsy hr _ rfl;cases g<;>try exact pl h
  case br a c x y=>
   simp only[rg] at h;split at h
   ·split at h
    ·rename_i d b hg;simp only[T.expect,C.br.injEq] at h;obtain⟨rfl,h1,h2⟩:=h;simp only[T.run] at hr;have e:=Rc hg;grind
    grind [Z4,absurd]
   ·exact pl h
  case HU a n vs k=>
   simp only[rg] at h;split at h
   ·split at h
    ·rename_i t kd m' hg;simp only[T.expect] at h;simp only[T.run] at hr;cases hc:vs.contains n with
     | false=>grind
     | true=>
      rw[hc] at hr;obtain⟨rfl,h2⟩:=LQ vs h hc;have e:=VM hg;grind
    grind [Z4,absurd]
   ·exact pl h
  case Qi α β a sp Li Lo k k2=>
   simp only[rg] at h;split at h
   ·split at h
    ·rename_i dst f as ins hc;simp only[T.expect,C.call2.injEq,heq_eq_eq,true_and] at h;obtain⟨rfl,h2,rfl,h4,h4b⟩:=h;simp only[T.run] at hr;split at hr
     ·rename_i x hx;have h5:=congrFun h4 x;split at h5
      ·rename_i hout;obtain⟨g',s',p',sy',x1,x2,x3,x4,x5⟩:=Kk hp hsy hc (sp.JL _) (by have:=sp.ok _ hx;rw[<-h2] at this;exact this.coe) hout (next:=λg s p' sy=>rg P G id ops (List.range' (p.length+1) m) g s p' sy κ κp) (F:=F) (k:=k x) (a:=a) h5 hr;grind
      grind [Z4,absurd]
     ·rename_i x hx;have h5:=congrFun h4b x;split at h5
      ·rename_i hout;have hok:EU P G sp.f as (Qe sp.ins) (sp.Hn x) (Qe (sp.Zh x)):=by have:=sp.okp _ hx;rw[<-h2] at this;exact this.coe
       have hs:=Gv hsy hc (sp.Qwy _) hok hout;exact .inr ⟨_,_,_,p,s,_,_,h5,hr,hp,hs,by omega,Ck hc (sp.Qwy _) (hsy.step λ_ _ _ h=>by simp at h)⟩
      grind [Z4,absurd]
     ·simp at hr
    grind [Z4,absurd]
   ·exact pl h
  case Hn a k=>
   simp only[rg] at h;split at h
   ·split at h
    ·rename_i v hv;simp only[T.run] at hr;exact .inr ⟨_,k,sy,p,s,_,[],h,hr,hp,SD hv,by omega,hsy⟩
    ·exact absurd h (Z4 F (T.Hn a k) _)
   ·exact pl h
theorem MG{ρ:Type}{F:YH ρ}{g:T P G ρ}{r:ρ}{st:St}{sy:List Nat}{κ:T P G ρ->St->Y4->List Nat->C}{κp:List PanicEntry->T P G ρ->St->Y4->List Nat->C}(h:rg P G id ops (List.range' 0 ops.size) g st [] sy κ κp=g.expect F)(hr:g.run=some r)(hsy:Yp sy st) :
  (∃g' s p sy',κ g' s p sy'=g'.expect F/\g'.run=some r/\Yp sy' s/\p.length=ops.size/\s=H5 p st ops.size/\∀i,i < ops.size->A7 P G ops i (H5 p st i) (p.rs i) (p.ws i))\/
  (∃v g' sy' p R W,κp v g' ((H5 p st p.length).app W) (p++[(R,W)]) sy'=g'.expect F/\g'.run=some r/\Yp sy' ((H5 p st p.length).app W)/\p.length < ops.size/\(∀i,i < p.length->A7 P G ops i (H5 p st i) (p.rs i) (p.ws i))/\Ms P G ops p.length (H5 p st p.length) R (.panic v) W):=by
 rcases AZ (st0:=st) ops.size g st [] sy h hr ⟨rfl,λj hj=>by simp at hj⟩ hsy with⟨g',s,p,sy',x1,x2,x3,x4,x5⟩|⟨v,g',sy',p,s,R,W,x1,x2,x3,x4,x5,x6⟩
 ·simp only[List.length_nil,zW] at x5;refine .inl ⟨g',s,p,sy',x1,x2,x4,x5,?_,λi hi=>?_⟩
  ·rw[<-x5];exact x3.1
  ·exact x3.2 i (by omega)
 ·simp only[List.length_nil,zW] at x5;rw[x3.1] at x1 x4 x6;exact .inr ⟨v,g',sy',p,R,W,x1,x2,x6,x5,x3.2,x4⟩
theorem U8.kQ{Q:Exit->St->Prop}{p:Y4}{st:St}{m t:Nat}(h:∀i,i < m->A7 P G ops i (H5 p st i) (p.rs i) (p.ws i))(hq:U8 P G ops (List.range' m t) (H5 p st m) Q) :
  ∀n k,k+n=m->U8 P G ops (List.range' k (n+t)) (H5 p st k) Q
 | 0,k,hk=>by
  grind
 | n+1,k,hk=>by
  rw[show n+1+t=(n+t)+1 by omega,List.range'_succ];exact U8.cons (h k (by omega) _ rfl (λl _=>O4.refl _ l)) (U8.kQ h hq n (k+1) (by omega))
theorem TV.Qwq{rid:Nat}{st s':St}{p:Y4}{n:Nat}{ex:Exit}{Q:Exit->St->Prop}(hn:n < ops.size)(hst:∀i,i < n->A7 P G ops i (H5 p st i) (p.rs i) (p.ws i))(hp:iU P G ops n (H5 p st n) ex s')(hq:Q ex s'):TV P G (.region rid ops false) st Q:=by
 refine TV.region ?_;have:=U8.kQ (Q:=Q) (t:=ops.size - n) hst (by
  rw[show ops.size - n=(ops.size - n - 1)+1 by omega,List.range'_succ];exact U8.stop hp hq) n 0 (by omega)
 rw[List.range_eq_range'];rw[show n+(ops.size - n)=ops.size by omega] at this;exact this
theorem TV.Ve{draw:Bool}{rid:Nat}{st s:St}{p:Y4}{Q:Exit->St->Prop}(hm:P.follows .mixedOrders=true)(hd:(!draw || Mf ops p)=true)(hs:s=H5 p st ops.size)
  (hst:∀i,i < ops.size->A7 P G ops i (H5 p st i) (p.rs i) (p.ws i)) (hq:Q .normal s):TV P G (.region rid ops draw) st Q:=by
 cases draw with
 | false=>
  refine TV.region ?_;have:=U8.Ve (Q:=Q) hst (by rw[<-hs];exact hq) ops.size 0 (by omega);rw[List.range_eq_range'];exact this
 | true=>
  simp only[Bool.not_true,Bool.false_or,Mf,zF] at hd;refine TV.draw hm hd.1 hd.2 (λi hi=>?_) ?_
  ·rw[UL,show min i ops.size=i by omega];exact hst i hi
  grind [AM]
end
mutual
theorem N0{u u':zl}(h:∀b,u b=true->u' b=true):∀(c:V),okV u c=true->okV u' c=true
 | .int _ _,_=>rfl
 | .bool _,_=>rfl
 | .str _,_=>rfl
 | .Zi,_=>rfl
 | .Zx,_=>rfl
 | .QB _,_=>rfl
 | .Qh,_=>rfl
 | .Zw _,_=>rfl
 | .sl _ _ _,_=>rfl
 | .snap _,_=>rfl
 | .undef,_=>rfl
 | .ref b _ _,hc=>by grind [okV]
 | .ptr b _ _,hc=>by grind [okV]
 | .mp b,hc=>by grind [okV]
 | .fn _ a c,hc=>by
  simp only[okV,zF] at hc ⊢;exact⟨Wh h a hc.1,Wh h c hc.2⟩
 | .agg l,hc=>by simp only[okV] at hc ⊢;exact Wh h l hc
 | .Qt l,hc=>by simp only[okV] at hc ⊢;exact Wh h l hc
theorem Wh{u u':zl}(h:∀b,u b=true->u' b=true):∀(l:List V),Md u l=true->Md u' l=true
 | [],_=>rfl
 | c :: l,hc=>by
  simp only[Md,zF] at hc ⊢;exact⟨N0 h c hc.1,Wh h l hc.2⟩
end
structure D.Ok(d:D):Prop where
 tmp:∀i,okV (ZC d.us) (d.st.t i)=true
 Zp:∀{b k},d.st.b b=some k->ZC d.us b=true/\∀r,r∈k.rows->∀c,c∈r->okV (ZC d.us) c=true
 sy:Yp d.sy d.st
theorem D.Ok.WS{s:St}{d:D}(f:N5 s d.st)(hsy:Yp d.sy d.st):d.Ok where
 tmp:=λi=>by
  rcases f.t i with e|⟨e,h⟩
  ·rw[e];rfl
  ·rw[e];exact h
 Zp:=λ{b k} hk=>by
  rcases f.b b with e|⟨e,h⟩
  ·grind
  ·rw[e] at hk;exact h k hk
 sy:=hsy
theorem P4{α:Type}{l:List (Nat×α)}{i:Nat}{p:Nat×α}(h:l.find? (λx=>x.1==i)=some p):p∈l/\p.1=i:=
 (by grind)
theorem O9{α:Type}{q:zl}{i:Nat}(hq:q i=true):∀l:List (Nat×α),(l.filter λx=>q x.1).find? (λx=>x.1==i)=l.find? (λx=>x.1==i)
 | []=>rfl
 | p :: l=>by
  grind
theorem Fy{n:Nat}{ts:List (Nat×V)}{bs:List (Nat×Qa)}{us:List Nat}(i:Nat):(D2 n ts bs us).t i=(match ts.find? (λp=>p.1==i) with|some p=>p.2|none=>.undef):=rfl
theorem KC{n:Nat}{ts:List (Nat×V)}{bs:List (Nat×Qa)}{us:List Nat}(i:Nat):(D2 n ts bs us).b i=(match bs.find? (λp=>p.1==i) with|some p=>some p.2|none=>none):=rfl
theorem MB{us:List Nat}{b:Nat}(h:1000000<=b):ZC us b=true:=by simp[ZC,Qk,h]
theorem D.Qhe(d:D):d.st.u=ZC d.us:=rfl
theorem D.Ok.mD{d:D}(ht:∀p,p∈d.ts->okV (ZC d.us) p.2=true)(hb:∀p,p∈d.bs->ZC d.us p.1=true/\∀r,r∈p.2.rows->∀c,c∈r->okV (ZC d.us) c=true)(hsy:Yp d.sy d.st):d.Ok where
 tmp:=λi=>by
  unfold D.st;rw[Fy];split
  ·grind
  ·rfl
 Zp:=λ{b k} hk=>by
  unfold D.st at hk;rw[KC] at hk;split at hk
  ·grind
  ·simp at hk
 sy:=hsy
theorem Uc:∀(l:List Nat) (x:Nat),x∈dedup l↔x∈l
 | [],x=>by simp[dedup]
 | y :: l,x=>by
  simp only[dedup];split
  ·rename_i hc;rw[Uc l x];grind
  ·simp only[zR,Uc l x]
theorem JN{p:Y4}{st:St}{t:Nat}(h:¬t∈p.PX):∀n,(H5 p st n).t t=st.t t
 | 0=>rfl
 | n+1=>by
  simp only[H5];rw[Pk,JN h n];intro hm;by_cases hn:n < p.length
  ·refine h (wK.2 ⟨p[n],List.getElem_mem hn,?_⟩);grind [List.getElem?_eq_getElem,Y4.ws]
  grind [List.getElem?_eq_none,Y4.ws,oX]
theorem JR{p:Y4}{st:St}{b:Nat}(h:¬b∈p.Xk):∀n,(H5 p st n).b b=st.b b
 | 0=>rfl
 | n+1=>by
  simp only[H5];rw[JZ,JR h n];intro hm;by_cases hn:n < p.length
  ·refine h (wK.2 ⟨p[n],List.getElem_mem hn,?_⟩);grind [List.getElem?_eq_getElem,Y4.ws]
  grind [List.getElem?_eq_none,Y4.ws,MJ]
theorem GW{p:Y4}{st:St}:∀n,(H5 p st n).n=st.n
 | 0=>rfl
 | n+1=>by simp only[H5,LU,GW n]
theorem Wz{kp:List Nat}{d:D}{s:St}{p:Y4}{sy:List Nat}{next:D->C}{X:C}{m:Nat}(h:AH kp d s p sy next=X)(hX:∀j,C.stuck j≠X)(hd:d.Ok)(hs:s=H5 p d.st m)(hsy:Yp sy s) :
  ∃d':D,next d'=X/\d'.Ok/\N5 s d'.st/\d'.n=d.n:=by
 unfold AH at h;simp only[WC,UR] at h;split at h
 rotate_left
 ·grind
 rename_i hc;simp only[zF,zJ] at hc;obtain⟨hnt,hnb⟩:=hc;refine⟨_,h,?_⟩;have mu:∀b,ZC d.us b=true->ZC (dedup (p.Xk++d.us)) b=true:=λb hb=>by
  simp only[ZC,zY,wj,zI] at hb ⊢;grind [Uc,List.mem_append_right]
 have nbm:∀x,x∈Lm p.Xk s->x.1∈p.Xk/\s.b x.1=some x.2:=(by grind [Option.some.injEq,Uc,Lm])
 have nbOk:∀x,x∈Lm p.Xk s->ZC (dedup (p.Xk++d.us)) x.1=true/\∀r,r∈x.2.rows->∀c,c∈r->okV (ZC (dedup (p.Xk++d.us))) c=true:=λx hx=>by
  obtain⟨h1,h2⟩:=nbm x hx;refine⟨by simp_all [zY,wj,zI,Uc,wZ,ZC],λr hr c hc=>?_⟩;have:=hnb x hx;simp only[Mn,zY,wj,zI,zJ] at this;rcases this with h3|h3
  ·exact N9 (hsy x.1 h3 _ h2 r hr c hc) _
  grind
 have F:N5 s (D2 d.n (CD kp p.PX s++d.ts.filter λx=>!p.PX.contains x.1) (Lm p.Xk s++d.bs.filter λx=>!p.Xk.contains x.1) (dedup (p.Xk++d.us))):=by
  refine⟨?_,λi=>?_,λb=>?_,λb hb=>MB (Ja hb)⟩
  ·rw[hs,GW];rfl
  ·rw[Fy,List.find?_append];cases hf:(CD kp p.PX s).find? (λp=>p.1==i) with
   | some x=>
    obtain⟨h1,h2⟩:=P4 hf;have hx:=hnt x h1;unfold CD at h1;obtain⟨j,_,rfl⟩:=zM.1 h1;simp only at h2;subst h2;exact .inr ⟨rfl,hx⟩
   | none=>
    simp only[Option.none_or];cases hw:p.PX.contains i with
    | true=>grind
    | false=>
     rw[O9 (q:=λj=>!p.PX.contains j) (by simp only[hw,Bool.not_false])];have e:s.t i=d.st.t i:=by grind [JN]
     refine .inr ⟨by rw[e];rfl,?_⟩;rw[e];exact N0 mu _ (hd.tmp i)
  ·rw[KC,List.find?_append];cases hf:(Lm p.Xk s).find? (λp=>p.1==b) with
   | some x=>
    obtain⟨h1,h2⟩:=P4 hf;obtain⟨_,h4⟩:=nbm x h1;have h5:=nbOk x h1;rw[h2] at h4 h5;refine .inr ⟨by grind,λk hk=>?_⟩;rw[h4] at hk;simp only[zD] at hk;subst hk;exact h5
   | none=>
    simp only[Option.none_or];cases hw:p.Xk.contains b with
    | true=>grind
    | false=>
     rw[O9 (q:=λj=>!p.Xk.contains j) (by simp only[hw,Bool.not_false])];have e:s.b b=d.st.b b:=by grind [JR]
     refine .inr ⟨by rw[e];rfl,λk hk=>?_⟩;rw[e] at hk;obtain⟨h1,h2⟩:=hd.Zp hk;exact⟨mu b h1,λr hr c hc=>N0 mu c (h2 r hr c hc)⟩
 refine⟨D.Ok.WS F λb hb k hk=>?_,F,rfl⟩;rcases F.b b with e|⟨e,_⟩
 ·have:(none:Option Qa)=some k:=e.symm.trans hk;simp at this
 ·exact hsy b hb k (e.symm.trans hk)
end Go.EV
