/- Guided execution: the executor, which goes through a function's body by its guide and says what is to be checked. Definitions; no conditions. Guided ..; no conditions. -/
import Derived.Test.YtjdieimefebnfaaGreatDoorK3
import Derived.KernelRfl
set_option linter.unusedVariables false
set_option linter.unusedSimpArgs false
namespace Go.EV
open Go
structure D where
 n:Nat
 ts:List (Nat×V)
 bs:List (Nat×Qi)
 us:List Nat
 sy:List Nat
def D.st(d:D):St:=E6 d.n d.ts d.bs d.us
inductive Kf where
 | seq (y:Code)
 | block (id:Nat)
 | scope
 | lp (c:Code)
mutual
def nrm:Nat->V->(V->C)->C
 | 0,v,k=>k v
 | n+1,v,k=>match v with
  | .int a b=>k (.int a b)
  | .bool b=>k (.bool b)
  | .str s=>k (.str s)
  | .Zf=>k .Zf
  | .Zd=>k .Zd
  | .QP l=>k (.QP l)
  | .Qj=>k .Qj
  | .Zw x=>k (.Zw x)
  | .sl o z r=>k (.sl o z r)
  | .snap l=>LJ n l λl=>k (.snap l)
  | .ref b o l=>k (.ref b o l)
  | .ptr b i o=>k (.ptr b i o)
  | .fn f a c=>LJ n a λa=>LJ n c λc=>k (.fn f a c)
  | .agg l=>LJ n l λl=>k (.agg l)
  | .Qt l=>LJ n l λl=>k (.Qt l)
  | .undef=>k .undef
  | .mp b=>k (.mp b)
def LJ:Nat->List V->(List V->C)->C
 | 0,l,k=>k l
 | n+1,l,k=>match l with
  | []=>k []
  | v :: l=>nrm n v λv=>LJ n l λl=>k (v :: l)
end
def aE:List (List V)->(List (List V)->C)->C
 | [],k=>k []
 | r :: rs,k=>LJ 1000 r λr=>aE rs λrs=>k (r :: rs)
def Pr:List (Nat×V)->(List (Nat×V)->C)->C
 | [],k=>k []
 | (i,v) :: l,k=>nrm 1000 v λv=>Pr l λl=>k ((i,v) :: l)
def LU(sy:List Nat):List (Nat×Qi)->(List (Nat×Qi)->C)->C
 | [],k=>k []
 | (i,b) :: l,k=>match sy.contains i with
  | true=>match b with|⟨z,x,r⟩=>LU sy l λl=>k ((i,⟨z,x,r⟩) :: l)
  | false=>match b with|⟨z,x,r⟩=>aE r λr=>LU sy l λl=>k ((i,⟨z,x,r⟩) :: l)
def eZ(ws:List Wr):List Nat:=ws.filterMap fun|.t i _=>some i|_=>none
def KN(ws:List Wr):List Nat:=ws.filterMap fun|.b i _=>some i|_=>none
def Y4.Rm(p:Y4):List Nat:=p.flatMap λx=>eZ x.2
def Y4.Dx(p:Y4):List Nat:=p.flatMap λx=>KN x.2
def iB(op:BinOp)(k:IntKind)(a b:Int):Option (Bool×V):=
 match op with
 | .quo=>some (!(b==0),.int k (k.wrap (a.tdiv b)))
 | .rem=>some (!(b==0),.int k (a.tmod b))
 | .shl=>some (decide (0<=b),.int k (k.wrap (a * 2 ^ (min b.toNat k.bits))))
 | .shr=>some (decide (0<=b),.int k (a.fdiv (2 ^ (min b.toNat k.bits))))
 | _=>none
def loC(lo:Option V)(h:Nat):Option (Bool×Nat):=
 match lo with
 | none=>some (true,0)
 | some (.int _ l)=>some (decide (0<=l)&&decide (l<=h),l.toNat)
 | _=>none
def hiC(n:Nat)(hi mx:Option V):Option (Bool×Nat):=
 match hi,mx with
 | none,none=>some (true,n)
 | some (.int _ h),none=>some (decide (0<=h)&&decide (h<=n),h.toNat)
 | some (.int _ h),some (.int _ m)=>some (decide (0<=h)&&(decide (h<=m)&&decide (m<=n)),h.toNat)
 | _,_=>none
def uN(n:Nat)(lo hi mx:Option V):Option (Bool×Nat×Nat):=
 match hiC n hi mx with
 | some (c1,h)=>match loC lo h with
  | some (c2,l)=>some (match hi,mx,lo with|none,none,_=>c2|_,_,none=>c1|_,_,_=>c1&&c2,l,h)
  | none=>none
 | none=>none
def Rt(P:Program)(look:zg)(t:TypeId)(c:V)(lo hi mx:Option V):Option (Bool×V):=
 match P.underlying t with
 | some .string=>match c,mx with
  | .str s,none=>(uN s.size lo hi none).map λx=>(x.1,.str (s.extract x.2.1 x.2.2))
  | _,_=>none
 | some (.slice e)=>match P.info? e with
  | none=>none
  | some ei=>match c with
   | .sl _ size rows=>if size=ei.size then (uN rows.length lo hi mx).map λx=>(x.1,.sl false size ((rows.take x.2.2).drop x.2.1)) else none
   | .ref b off len=>match look b with
    | some k=>if k.size=ei.size/\mx.isNone=true then (uN len lo hi none).map λx=>(x.1,.ref b (match off with|0=>x.2.1|o+1=>o+1+x.2.1) (x.2.2 - x.2.1)) else none
    | none=>none
   | _=>none
 | _=>none
def qZ(P:Program)(e:Operand->Option V)(look:zg)(op:Op):Option (Bool×V):=
 match op with
 | .binOp op _ x y _=>match e x,e y with
  | some (.int k a),some (.int k' b)=>match op with
   | .shl|.shr=>iB op k a b
   | _=>if k=k' then iB op k a b else none
  | some (.str a),some (.str b)=>match op with
   | .add=>some (decide (a.size+b.size<=9223372036854775807),.str (a++b))
   | _=>none
  | _,_=>none
 | .index t x i=>match P.underlying t,e x,e i with
  | some .string,some (.str s),some (.int _ i)=>some (decide (0<=i/\i < s.size),.int .u8 (s.data.getD i.toNat 0).toNat)
  | _,_,_=>none
 | .indexAddr t x i=>match P.underlying t,e x,e i with
  | some (.slice el),some (.ref b off len),some (.int _ n)=>match P.info? el with
   | some ei=>match look b with
    | some k=>if k.size=ei.size then some (decide (0<=n)&&decide (n < len),.ptr b (off+n.toNat) 0) else none
    | none=>none
   | none=>none
  | _,_,_=>none
 | .slice t x lo hi mx=>match e x,iF e lo,iF e hi,iF e mx with
  | some c,some l,some h,some m=>Rt P look t c l h m
  | _,_,_,_=>none
 | _=>none
def uV(P:Program)(G:ze)(ops:Array Oper)(i:Nat)(s:St):Option (Bool×List Wr):=
 match JK ops i s with
 | some o=>if H7 s.n o.dst=true then (qZ P (s.Dy G o) (s.QO o []) o.op).map λx=>(x.1,KW o.dst x.2) else none
 | none=>none
def VF(P:Program)(G:ze)(ops:Array Oper)(i:Nat)(s:St):Option (List (List V)×Nat×Bool×(List V->Option (List Wr))):=
 match JK ops i s with
 | some o=>match o.op,o.dst with
  | .indexAddr t x j,some d=>if d < s.n then match s.Dy G o x,s.Dy G o j with
    | some (.sl _ size rows),some (.int _ n)=>if DX P t=some size then some (rows,n.toNat,decide (0<=n),λr=>some [.t d (.snap r)]) else none
    | _,_=>none
   else none
  | .load t x,some d=>if d < s.n then match s.Dy G o x with
    | some (.ptr b r off)=>match s.QO o [] b with
     | some k=>some (k.rows,r,true,λrow=>(F6 P t (row.drop off)).map λc=>[.t d c])
     | none=>none
    | _=>none
   else none
  | .store t x y,none=>match s.Dy G o x,s.Dy G o y with
   | some (.ptr b r off),some c=>match s.QO o [] b with
    | some k=>if k.Qn=true then some (k.rows,r,true,λrow=>(Wh P t k.size row off c).map λr'=>[.b b (some ⟨k.size,true,k.rows.set r (V9 (D8 8) row r')⟩)]) else none
    | none=>none
   | _,_=>none
  | _,_=>none
 | none=>none
structure oM where
 d:Nat
 b:Option Nat
 rows:List (List V)
 len:Nat
 Qn:Bool
 sb:Option Nat
 ZJ:List (List V)
 size:Nat
 bytes:Nat
 fl:Bool
def kA(look:zg)(size:Nat)(c:V):Option (Option Nat×List (List V)×Nat×Bool):=
 match c with
 | .Qj=>some (none,[],0,true)
 | .ref b 0 len=>match look b with
  | some k=>if k.size=size then some (some b,k.rows,len,k.Qn) else none
  | none=>none
 | _=>none
def Sz(look:zg)(size:Nat)(dst:Option Nat)(c:V):Option (Option Nat×List (List V)×Bool):=
 match c with
 | .Qj=>some (none,[],false)
 | .sl _ z rows=>if z=size then some (none,rows,true) else none
 | .ref b 0 len=>match look b with
  | some k=>if k.size=size/\len=k.rows.length/\¬dst=some b then some (some b,k.rows,false) else none
  | none=>none
 | _=>none
def Ot(P:Program)(G:ze)(ops:Array Oper)(ex:List Nat)(i:Nat)(s:St):Option oM:=
  match JK ops i s with
  | some o=>match o.op,o.dst with
    | .call { callee:=.builtin .append,args:=as,argTypes:=ts },some d=>if d < s.n/\s.u d=false then match as.toList,ts.toList with
        | [x,y],[t,t2]=>match s.Dy G o x,s.Dy G o y,P.underlying t,P.underlying t2 with
          | some cx,some cy,some (.slice e),some (.slice _)=>match P.info? e with
            | some ei=>if 0 < ei.bytes/\(zeroV P e).map List.length=some ei.size then match kA (s.QO o ex) ei.size cx with
                | some (b,rows,len,Qn)=>match Sz (s.QO o ex) ei.size b cy with
                  | some (sb,ZJ,fl)=>some ⟨d,b,rows,len,Qn,sb,ZJ,ei.size,ei.bytes,fl⟩
                  | none=>none
                | none=>none
              else none
            | none=>none
          | _,_,_,_=>none
        | _,_=>none
      else none
    | _,_=>none
  | none=>none
def Qk0(P:Program)(G:ze)(ops:Array Oper)(col i:Nat)(s:St):Option (List (List V)×Nat×(List V->Option (List Wr))):=
  match JK ops i s with
  | some o=>match o.op,o.dst with
    | .load t x,some d=>if d < s.n/\s.u d=false then match s.Dy G o x with
        | some (.ptr b r off)=>match s.QO o [] b with
          | some k=>match cX P t with
            | false=>some (k.rows,r,λrow=>match row[off]? with
              | some (.sl true z rs)=>if z < Y8 then some [.b b (some ⟨k.size,k.Qn,k.rows.set r (row.set off (.sl false z rs))⟩),.b d (some ⟨z,false,rs.map (·.map V.strip)⟩),.t d (.ref d 0 rs.length)] else none
              | _=>none)
            | true=>match P.info? t with
              | some ti=>some (k.rows,r,λrow=>match row[col]? with
                | some (.sl true z rs)=>if off<=col/\off+ti.size<=row.length/\(P.underlying t).isSome=true/\z < Y8 then
                    some [.b b (some ⟨k.size,k.Qn,k.rows.set r (row.set col (.sl false z rs))⟩),.b d (some ⟨z,false,rs.map (·.map V.strip)⟩),.t d (.agg (((row.set col (.ref d 0 rs.length)).drop off).take ti.size))]
                  else none
                | _=>none)
              | none=>none
          | none=>none
        | _=>none
      else none
    | _,_=>none
  | none=>none
def Qd8(P:Program)(G:ze)(ops:Array Oper)(hole:List V)(fin:List (List V))(col i:Nat)(s:St):Option (Nat×Qi×Nat×Nat×Qi×Nat×Nat×List V):=
  match JK ops i s with
  | some o=>match o.op,o.dst with
    | .store t x y,none=>match s.Dy G o x,s.Dy G o y with
      | some (.ptr b r off),some c=>match s.QO o [] b with
        | some k=>if k.Qn=true then match Wh P t k.size hole off c with
            | some r'=>match r'[col]? with
              | some (.ref d2 off2 len)=>match s.QO o [] d2 with
                | some kd=>if b=d2\/Y8<=k.size then none else some (b,k,r,d2,kd,off2,len,r'.set col (.sl true kd.size fin))
                | none=>none
              | _=>none
            | none=>none
          else none
        | none=>none
      | _,_=>none
    | _,_=>none
  | none=>none
def Mh(sy:List Nat)(b:Nat)(f:Nat->Nat)(k:Qi):Qi:=match sy.contains b with
 | true=>k
 | false=>k.Qc f
def Qd2(L:List (Nat×Nat))(b:Nat):Bool:=L.any λx=>x.2==b
def oQ(L:List (Nat×Nat))(b:Nat):Bool:=L.any λx=>x.1==b
def Jl(P:Program)(G:ze)(ops:Array Oper)(Li Lo:List (Nat×Nat))(sy:List Nat)(i:Nat)(s:St):Option (Option Nat×FuncId×List V×List (Nat×Qi)):=
 match MX P G ops ((Li++Lo).map (·.2)) Li Lo [] i s with
 | some (dst,f,as,bl,_)=>
  if (ET Li Lo []&&bl.all λx=>sy.contains (J7 (Li++Lo) x.1) || (E5 x.2.rows.flatten).all (Qd2 Li))=true then
   some (dst,f,as,bl.map λx=>(x.1,Mh sy (J7 (Li++Lo) x.1) (J5 (Li++Lo)) x.2))
  else none
 | none=>none
def Jm(L:List (Nat×Nat))(dt:List Nat)(O:List (Nat×Qi))(res:V):Bool:=
 (O.all λx=>oQ L x.1&&(dt.contains x.1 || (E5 x.2.rows.flatten).all (oQ L)))&&(W2 res).all (oQ L)
def G7(L:List (Nat×Nat))(dt:List Nat)(O:List (Nat×Qi))(dst:Option Nat)(res:V):List Wr:=
 (L.map λx=>Wr.b x.2 ((Qe O x.1).map (Mh dt x.1 (J7 L))))++KW dst (H8 (J7 L) res)
def Hm(L:List (Nat×Nat))(dt:List Nat):List Nat:=(L.filter λx=>dt.contains x.1).map (·.2)
def WX(look:zg)(vs:List QE):Nat->V->Option V
 | 0,_=>none
 | n+1,c=>match c with
  | .ref b off len=>match vs.find? (λv=>v.b==b) with
   | some v=>match off with
    | 0=>match n with
     | 0=>none
     | _+1=>(look b).map λk=>.sl false k.size (v.l.map v.ty.d)
    | _+1=>none
   | none=>E8 look (n+1) (.ref b off len)
  | .ptr b i off=>match look b with
   | some k=>match k.rows[i]? with
    | some r=>(K8 (λc=>I8 (WX look vs n c)) (r.drop off)).map .snap
    | none=>none
   | none=>none
  | .fn f a c=>match K8 (WX look vs n) a,K8 (WX look vs n) c with
   | some a',some c'=>some (.fn f a' c')
   | _,_=>none
  | .agg l=>(K8 (WX look vs n) l).map .agg
  | .Qt l=>(K8 (WX look vs n) l).map .Qt
  | c=>E8 look (n+1) c
def P2(look:zg)(vs:List QE):Nat->V->List (Nat×List (List V)×Nat)
 | 0,_=>[]
 | n+1,c=>match c with
  | .ref b _ len=>match vs.find? (λv=>v.b==b) with
   | some _=>match look b with
    | some k=>[(b,k.rows,len)]
    | none=>[]
   | none=>[]
  | .ptr b i off=>match look b with
   | some k=>match k.rows[i]? with
    | some r=>(r.drop off).flatMap (P2 look vs n)
    | none=>[]
   | none=>[]
  | .fn _ a c=>a.flatMap (P2 look vs n)++c.flatMap (P2 look vs n)
  | .agg l=>l.flatMap (P2 look vs n)
  | .Qt l=>l.flatMap (P2 look vs n)
  | _=>[]
def Ri(P:Program)(G:ze)(ops:Array Oper)(ex:List Nat)(vs:List QE)(i:Nat)(s:St):Option (Option Nat×FuncId×List V×List (Nat×List (List V)×Nat)):=
 match AA P G ops i s with
 | some (o,f,cs)=>match Qqk vs with
  | true=>(K8 (WX (s.QO o ex) vs 8) cs).map λds=>(o.dst,f,ds,cs.flatMap (P2 (s.QO o ex) vs 8))
  | false=>none
 | none=>none
def reach(look:zg):Nat->List Nat->List Nat
 | 0,bs=>bs
 | n+1,bs=>bs++reach look n (bs.flatMap λb=>match look b with|some k=>E5 (k.rows.headD [])|none=>[])
def UR:List (List V)->List (List V)->List (List V)
 | e :: es,c :: cs=>V9 (D8 8) e c :: UR es cs
 | _,cs=>cs
def Fu(sy:List Nat)(sb:Option Nat)(e rows:List (List V)):List (List V):=match sb with
 | some b=>match sy.contains b with
  | true=>rows
  | false=>UR e rows
 | none=>rows
def Yn(sy:List Nat)(ws:List Wr)(told:List Nat):List Nat:=(told.filter λb=>(KN ws).contains b)++sy.filter λb=>!(KN ws).contains b
section
variable (P:Program) (G:ze)
def xQ(a:Nat){ρ:Type}(k:T P G ρ)(R:List Loc)(ws:List Wr)(s:St)(p:Y4)(sy:List Nat)(next:T P G ρ->St->Y4->List Nat->C):C:=
 match k with
 | .re a' w k'=>match a'==a with
  | true=>.re ws (next k' (s.app w.b) (p++[(R,w.b)]) (Yn sy w.b w.dt))
  | false=>next k (s.app ws) (p++[(R,ws)]) (Yn sy ws [])
 | k=>next k (s.app ws) (p++[(R,ws)]) (Yn sy ws [])
def DH(ops:Array Oper)(i:Nat){ρ:Type}(g:T P G ρ)(s:St)(p:Y4)(sy:List Nat)(next:T P G ρ->St->Y4->List Nat->C):C:=
 match Hd P G ops i s with
 | some (R,ws)=>next g (s.app ws) (p++[(R,ws)]) (Yn sy ws [])
 | none=>.stuck (1000+i)
def TY(id:Nat)(ops:Array Oper)(i:Nat){ρ:Type}(g:T P G ρ)(s:St)(p:Y4)(sy:List Nat)(next:T P G ρ->St->Y4->List Nat->C):C:=
 match g with
 | .fail=>.fail
 | .Qd a c k=>match a==id * 1000+i+1 with
  | true=>match uV P G ops i s with
   | some (c',ws)=>.Qd c' (xQ P G a k (Me ops i s []) ws s p sy next)
   | none=>.stuck 1
  | false=>DH P G ops i (.Qd a c k) s p sy next
 | .re a w k=>match a==id * 1000+i+1 with
  | true=>match Hd P G ops i s with
   | some (R,ws)=>.re ws (next k (s.app w.b) (p++[(R,w.b)]) (Yn sy w.b w.dt))
   | none=>.stuck 2
  | false=>DH P G ops i (.re a w k) s p sy next
 | .row a ty l j c k=>match a==id * 1000+i+1 with
  | true=>match VF P G ops i s with
   | some (rows,j',c',f)=>.row rows j' c' λx=>match f (ty.c x) with
    | some ws=>xQ P G a (k x) (Me ops i s []) ws s p sy next
    | none=>.stuck 4
   | none=>.stuck 3
  | false=>DH P G ops i (.row a ty l j c k) s p sy next
 | .app a ty l x bytes fl hf k=>match a==id * 1000+i+1 with
  | true=>match Ot P G ops [] i s with
   | some A=>.app A.rows A.len (Fu sy A.sb (x.map ty.c) A.ZJ) A.bytes A.fl (
     let ws:=Fz A.b++(Fz A.sb++[.b A.d (some ⟨A.size,A.Qn,(l++x).map ty.c⟩),.t A.d (.ref A.d 0 (l++x).length)])
     next k (s.app ws) (p++[(Me ops i s [],ws)]) (Yn sy ws [A.d]))
   | none=>.stuck 5
  | false=>DH P G ops i (.app a ty l x bytes fl hf k) s p sy next
 | .call a sp Li Lo k=>match a==id * 1000+i+1 with
  | true=>match Jl P G ops Li Lo sy i s with
   | some (dst,f,as,ins)=>.call f (V9 (D8 8) sp.args as) ins λr=>match Jm (Li++Lo) sp.dt (sp.outs r) (sp.res r) with
    | true=>xQ P G a (k r) (Me ops i s ((Li++Lo).map (·.2))) (G7 (Li++Lo) sp.dt (sp.outs r) dst (sp.res r)) s p sy λg s p sy=>next g s p (Hm (Li++Lo) sp.dt++sy)
    | false=>.stuck 7
   | none=>.stuck 6
  | false=>DH P G ops i (.call a sp Li Lo k) s p sy next
 | .call2 a sp Li Lo k k2=>match a==id * 1000+i+1 with
  | true=>match Jl P G ops Li Lo sy i s with
   | some (dst,f,as,ins)=>.call2 f (V9 (D8 8) sp.args as) ins (λr=>match Jm (Li++Lo) sp.dt (sp.outs (.inl r)) (sp.res (.inl r)) with
    | true=>xQ P G a (k r) (Me ops i s ((Li++Lo).map (·.2))) (G7 (Li++Lo) sp.dt (sp.outs (.inl r)) dst (sp.res (.inl r))) s p sy λg s p sy=>next g s p (Hm (Li++Lo) sp.dt++sy)
    | false=>.stuck 7) λr=>match Jm (Li++Lo) sp.dt (sp.outs (.inr r)) (sp.res (.inr r)) with
    | true=>xQ P G a (k2 r) (Me ops i s ((Li++Lo).map (·.2))) (G7 (Li++Lo) sp.dt (sp.outs (.inr r)) dst (sp.res (.inr r))) s p sy λg s p sy=>next g s p (Hm (Li++Lo) sp.dt++sy)
    | false=>.stuck 7
   | none=>.stuck 6
  | false=>DH P G ops i (.call2 a sp Li Lo k k2) s p sy next
 | .view a sp vs k=>match a==id * 1000+i+1 with
  | true=>match ops[i]? with
   | some o=>
    let ex:=reach (λb=>match sy.contains b with|true=>none|false=>s.b b) 3 (Ix s o)
    match Ri P G ops ex vs i s with
    | some (dst,f,ds,eqs)=>.view f (V9 (D8 8) sp.args ds) eqs λr=>match L9 (sp.res r)&&(sp.ins.isEmpty&&(sp.outs r).isEmpty) with
     | true=>next (k r) (s.app (KW dst (sp.res r))) (p++[(Me ops i s ex,KW dst (sp.res r))]) sy
     | false=>.stuck 10
    | none=>.stuck 9
   | none=>.stuck 8
  | false=>DH P G ops i (.view a sp vs k) s p sy next
 | .Qy a R k=>match a==id * 1000+i+1 with
  | true=>match JK ops i s with
   | some o=>match (match o.dst with|some d=>decide (d < s.n)&&!(s.u d)|none=>true) with
    | true=>.pC o.op o.dst (R.ZY.map λp=>s.Dy G o p.1) (R.Zb.map λp=>s.b p.1) λr=>
      next (k r) (s.app (R.ws r)) (p++[(Me ops i s (R.Zb.map (·.1)),R.ws r)]) (Yn sy (R.ws r) R.dt)
    | false=>.stuck 15
   | none=>.stuck 14
  | false=>DH P G ops i (.Qy a R k) s p sy next
 | g=>DH P G ops i g s p sy next
def PJ(ops:Array Oper)(i:Nat)(s:St):Option (Nat×Bool):=
 match ops[i]? with
 | some o=>match o.guard with
  | some (j,_)=>match (ops[j]?).bind (·.dst) with
   | some d=>match s.t d with
    | .bool b=>some (d,b)
    | _=>none
   | none=>none
  | none=>none
 | none=>none
def cA(ops:Array Oper)(i:Nat)(s:St):Option (Nat×IntKind×Int):=
 match ops[i]? with
 | some o=>match o.op with
  | .indexAddr _ _ (.tmp t)=>match s.t t with
   | .int k m=>some (t,k,m)
   | _=>none
  | .index _ _ (.tmp t)=>match s.t t with
   | .int k m=>some (t,k,m)
   | _=>none
  | _=>none
 | none=>none
def qM(P:Program)(G:ze)(ops:Array Oper)(i:Nat)(s:St):Option Value:=
 match JK ops i s with
 | some o=>match o.op with
  | .panic x=>match s.Dy G o x with
   | some (.Zw v)=>match v with
    | .iface t y=>some (.iface t y)
    | _=>none
   | _=>none
  | _=>none
 | none=>none
def rg(id:Nat)(ops:Array Oper):List Nat->{ρ:Type}->T P G ρ->St->Y4->List Nat->(T P G ρ->St->Y4->List Nat->C)->(List PanicEntry->T P G ρ->St->Y4->List Nat->C)->C
 | [],_,g,s,p,sy,κ,_=>κ g s p sy
 | i :: l,_,g,s,p,sy,κ,κp=>match g with
  | .br a c x y=>match a==id * 1000+i+1 with
   | true=>match PJ ops i s with
    | some (d,b)=>.br b (TY P G id ops i x (s.QG d (.bool true)) p sy λg s p sy=>rg id ops l g s p sy κ κp) (TY P G id ops i y (s.QG d (.bool false)) p sy λg s p sy=>rg id ops l g s p sy κ κp)
    | none=>.stuck 20
   | false=>TY P G id ops i (.br a c x y) s p sy λg s p sy=>rg id ops l g s p sy κ κp
  | .Yi a n vs k=>match a==id * 1000+i+1 with
   | true=>match cA ops i s with
    | some (t,kd,m)=>vs.foldr (λv r=>.br (m==v) (TY P G id ops i (k v) (s.QG t (.int kd v)) p sy λg s p sy=>rg id ops l g s p sy κ κp) r) .fail
    | none=>.stuck 21
   | false=>TY P G id ops i (.Yi a n vs k) s p sy λg s p sy=>rg id ops l g s p sy κ κp
  | .Qo a sp Li Lo k k2=>match a==id * 1000+i+1 with
   | true=>match Jl P G ops Li Lo sy i s with
    | some (dst,f,as,ins)=>.call2 f (V9 (D8 8) sp.args as) ins (λr=>match Jm (Li++Lo) sp.dt (sp.outs r) (sp.res r) with
     | true=>xQ P G a (k r) (Me ops i s ((Li++Lo).map (·.2))) (G7 (Li++Lo) sp.dt (sp.outs r) dst (sp.res r)) s p sy λg s p sy=>rg id ops l g s p (Hm (Li++Lo) sp.dt++sy) κ κp
     | false=>.stuck 7) λr=>match Jm (Li++Lo) sp.dt (sp.Zu r) .undef with
     | true=>κp (sp.UX r) (k2 r) (s.app (G7 (Li++Lo) sp.dt (sp.Zu r) none .undef)) (p++[(Me ops i s ((Li++Lo).map (·.2)),G7 (Li++Lo) sp.dt (sp.Zu r) none .undef)]) (Hm (Li++Lo) sp.dt++Yn sy (G7 (Li++Lo) sp.dt (sp.Zu r) none .undef) [])
     | false=>.stuck 7
    | none=>.stuck 6
   | false=>TY P G id ops i (.Qo a sp Li Lo k k2) s p sy λg s p sy=>rg id ops l g s p sy κ κp
  | .UX a k=>match a==id * 1000+i+1 with
   | true=>match qM P G ops i s with
    | some v=>κp (K0 v) k s (p++[(Me ops i s [],[])]) sy
    | none=>.stuck 22
   | false=>TY P G id ops i (.UX a k) s p sy λg s p sy=>rg id ops l g s p sy κ κp
  | g=>TY P G id ops i g s p sy λg s p sy=>rg id ops l g s p sy κ κp
end
def ZX(us:List Nat)(i:Nat):Bool:=us.contains i || Qk i
def KE(us sy:List Nat)(p:Nat×Qi):Bool:=sy.contains p.1 || p.2.rows.all λr=>r.all (okV (ZX us))
def By(kp wt:List Nat)(s:St):List (Nat×V):=(kp.filter λi=>wt.contains i).map λi=>(i,s.t i)
def dedup:List Nat->List Nat
 | []=>[]
 | x :: l=>match l.contains x with
  | true=>dedup l
  | false=>x :: dedup l
def IT(wb:List Nat)(s:St):List (Nat×Qi):=(dedup wb).filterMap λb=>match s.b b with
 | some k=>some (b,k)
 | none=>none
def XM(kp:List Nat)(d:D)(s:St)(p:Y4)(sy:List Nat)(next:D->C):C:=
 let wt:=p.Rm
 let wb:=p.Dx
 let us:=dedup (wb++d.us)
 Pr (By kp wt s) λnt=>LU sy (IT wb s) λnb=>
  match nt.all (λx=>okV (ZX us) x.2)&&nb.all (KE us sy) with
  | true=>next ⟨d.n,nt++d.ts.filter (λx=>!wt.contains x.1),nb++d.bs.filter (λx=>!wb.contains x.1),us,sy⟩
  | false=>.stuck 30
def Pq(P:Program)(G:ze)(ops:Array Oper)(draw:Bool)(ts:List Nat)(d:D){ρ:Type}(g:T P G ρ)(s:St)(p:Y4):C:=
 match g with
 | .done _=>match (!draw || KK ops p)&&((p.Dx.all λb=>!(d.bs.any λx=>x.1==b))&&(p.Rm.all λt=>(ops.toList.filterMap (·.dst)).contains t)) with
  | true=>.vZ (ts.map s.t)
  | false=>.stuck 31
 | .fail=>.fail
 | _=>.stuck 32
def PL(ops:Array Oper)(ts:List Nat)(d:D)(vs:List V):D:=
 { d with ts:=ts.zip vs++d.ts.filter λx=>!(ops.toList.filterMap (·.dst)).contains x.1&&!ts.contains x.1 }
def Ext.us(x:Ext):List Nat:=x.bs.map (·.1)
def Ext.D(n:Nat)(x:Ext):D:=⟨n,x.ts,x.bs,x.us,x.dt⟩
def Ext.ok(x:Ext):Bool:=x.ts.all (λp=>okV (ZX x.us) p.2)&&x.bs.all (KE x.us x.dt)
def A8:Exit->Bool
 | .normal=>true
 | _=>false
def uB(dt:List Nat)(id:Nat)(e:Qi)(act:Option Qi):Option Qi:=match dt.contains id with
 | true=>act
 | false=>act.map λk=>⟨k.size,k.Qn,UR e.rows k.rows⟩
def WS(x:Ext)(st:St):List (Nat×V):=x.ts.map λp=>(p.1,D8 8 p.2 (st.t p.1))
def WB(x:Ext)(st:St):List (Nat×Option Qi):=x.bs.map λp=>(p.1,uB x.dt p.1 p.2 (st.b p.1))
def Av(e:Exit)(x:Ext)(d:D):C:=.fin none (some e) (WS x d.st) (WB x d.st)
def fin(P:Program)(G:ze){ρ:Type}(F:Yw ρ)(g:T P G ρ)(e:Exit)(d:D):C:=
 match g with
 | .done r=>match F with
  | .fn rs res outs=>match e with
   | .normal|.ret=>.fin ((L2 P d.st rs).map (D8 8 (res r))) none [] ((outs r).map λp=>(p.1,d.st.b p.1))
   | _=>.stuck 41
  | .LW E=>Av e (E r) d
  | .VP S E=>match r with
   | .inl y=>match A8 e with
    | true=>Av e (S y) d
    | false=>.stuck 42
   | .inr z=>match A8 e with
    | true=>.stuck 43
    | false=>Av e (E z) d
  | .reg _ _=>.stuck 44
  | .iX rs res outs _ Zu=>match r with
   | .inl r=>match e with
    | .normal|.ret=>.fin ((L2 P d.st rs).map (D8 8 (res r))) none [] ((outs r).map λp=>(p.1,d.st.b p.1))
    | _=>.stuck 41
   | .inr z=>.fin none (some e) [] ((Zu z).map λp=>(p.1,d.st.b p.1))
 | _=>.stuck 40
def AP(b z:Nat)(rows:List (List V)):Nat->V->V
 | 0,_=>.undef
 | n+1,c=>match c with
  | .ref b' off len=>match b'==b with
   | true=>match off with
    | 0=>.sl false z rows
    | o+1=>.ref b' (o+1) len
   | false=>.ref b' off len
  | .fn f x y=>.fn f (x.map (AP b z rows n)) (y.map (AP b z rows n))
  | .agg l=>.agg (l.map (AP b z rows n))
  | .Qt l=>.Qt (l.map (AP b z rows n))
  | c=>c
def DI(b:Nat)(rows:List (List V)):Nat->V->List (Nat×List (List V)×Nat)
 | 0,_=>[]
 | n+1,c=>match c with
  | .ref b' off len=>match b'==b with
   | true=>match off with
    | 0=>[(b,rows,len)]
    | _+1=>[]
   | false=>[]
  | .fn _ x y=>x.flatMap (DI b rows n)++y.flatMap (DI b rows n)
  | .agg l=>l.flatMap (DI b rows n)
  | .Qt l=>l.flatMap (DI b rows n)
  | _=>[]
def mL(b m:Nat):Nat->V->V
 | 0,c=>c
 | n+1,c=>match c with
  | .ref b' off len=>match b'==b with
   | true=>match off with
    | 0=>.ref b' 0 m
    | o+1=>.ref b' (o+1) len
   | false=>.ref b' off len
  | .fn f x y=>.fn f (x.map (mL b m n)) (y.map (mL b m n))
  | .agg l=>.agg (l.map (mL b m n))
  | .Qt l=>.Qt (l.map (mL b m n))
  | c=>c
def lnB(sy:List Nat)(b m:Nat)(p:Nat×Qi):Nat×Qi:=match sy.contains p.1 with
 | true=>p
 | false=>(p.1,⟨p.2.size,p.2.Qn,p.2.rows.map (·.map (mL b m 6))⟩)
def cJ(sy:List Nat)(b:Nat)(p:Nat×Qi):List (Nat×List (List V)×Nat):=match sy.contains p.1 with
 | true=>[]
 | false=>p.2.rows.flatMap λr=>r.flatMap (DI b [] 6)
def cS(w:GhW)(d:D):List (Nat×List (List V)×Nat):=
 match w with
 | .share v _=>match d.st.b v.b with
  | some k=>(d.ts.flatMap λp=>DI v.b k.rows 6 p.2)++d.bs.flatMap λp=>match p.1==v.b || d.sy.contains p.1 with
   | true=>[]
   | false=>p.2.rows.flatMap λr=>r.flatMap (DI v.b k.rows 6)
  | none=>[]
 | .len b _ _ _=>(d.ts.flatMap λp=>DI b [] 6 p.2)++d.bs.flatMap (cJ d.sy b)
 | _=>[]
def OR(d:D)(v:QE)(k:Qi):List (Nat×Qi):=(d.bs.filter λp=>!(p.1==v.b)).map λp=>(p.1,match d.sy.contains p.1 with
 | true=>p.2
 | false=>⟨p.2.size,p.2.Qn,p.2.rows.map (·.map (AP v.b k.size (v.l.map v.ty.d) 6))⟩)
def setCell(k:Qi)(j:Nat)(c:V):Qi:=⟨k.size,k.Qn,match k.rows with|r :: rs=>r.set j c :: rs|[]=>[]⟩
def NC(w:GhW)(d:D)(next:D->C):C:=
 match w with
 | .Xk b t size=>match d.st.t t,ZX d.us b || !decide (size < Y8) with
  | .Qj,false=>next { d with ts:=(t,.ref b 0 0) :: d.ts.filter (λx=>!(x.1==t)),bs:=(b,⟨size,true,[]⟩) :: d.bs,us:=b :: d.us }
  | _,_=>.stuck 50
 | .IJ b x j size=>match d.st.b x,ZX d.us b || !decide (size < Y8),d.sy.contains x with
  | some k,false,false=>match k.rows with
   | r :: _=>match r[j]? with
    | some .Qj=>next { d with bs:=(b,⟨size,true,[]⟩) :: (x,setCell k j (.ref b 0 0)) :: d.bs.filter (λp=>!(p.1==x)),us:=b :: d.us }
    | _=>.stuck 52
   | []=>.stuck 52
  | _,_,_=>.stuck 53
 | .Qc a b=>match ZX d.us b,a==b with
  | false,false=>Pr (d.ts.map λp=>(p.1,H8 (K4 a b) p.2)) λts=>LU ((d.sy.filter λx=>!(x==b)).map (K4 a b)) (d.bs.map λp=>(K4 a b p.1,Mh d.sy p.1 (K4 a b) p.2)) λbs=>
    next ⟨d.n,ts,bs,b :: d.us,(d.sy.filter λx=>!(x==b)).map (K4 a b)⟩
  | _,_=>.stuck 54
 | .drop l=>
  let us:=d.us.filter λb=>!l.contains b
  match (d.bs.filter λp=>!l.contains p.1).all λp=>ZX us p.1&&KE us d.sy p with
  | true=>next ⟨d.n,d.ts.filter (λp=>okV (ZX us) (d.st.t p.1)),d.bs.filter (λp=>!l.contains p.1),us,d.sy⟩
  | false=>.stuck 55
 | .len b m _ _=>Pr (d.ts.map λp=>(p.1,mL b m 6 p.2)) λts=>LU d.sy (d.bs.map (lnB d.sy b m)) λbs=>next ⟨d.n,ts,bs,d.us,d.sy⟩
 | .tell b es=>match d.st.b b,d.sy.contains b with
  | some k,false=>LU d.sy ((b,⟨k.size,k.Qn,UR es k.rows⟩) :: d.bs.filter λp=>!(p.1==b)) λbs=>next { d with bs:=bs }
  | _,_=>.stuck 58
 | .share v _=>match d.st.b v.b with
  | some k=>match d.sy.contains v.b || k.rows.all λr=>r.all H4 with
   | true=>Pr (d.ts.map λp=>(p.1,AP v.b k.size (v.l.map v.ty.d) 6 p.2)) λts=>
     LU d.sy (OR d v k) λbs=>
     next ⟨d.n,ts,bs,v.b :: d.us,d.sy⟩
   | false=>.stuck 56
  | none=>.stuck 57
def Bi(c:Code):Bool:=match c with
 | .region _ ops _=>ops.toList.any λo=>match o.op with
  | .range _ _=>true
  | _=>false
 | _=>false
abbrev Rec(P:Program)(G:ze):=(ρ:Type)->Yw ρ->T P G ρ->Code⊕Exit->List Kf->D->C
section
variable {P:Program} {G:ze} (kp:List Nat) (rec:Rec P G) {ρ:Type} (F:Yw ρ)
def sxE(g:T P G ρ)(e:Exit)(K:List Kf)(d:D):C:=
 match K with
 | []=>fin P G F g e d
 | .seq y :: K=>match A8 e with
  | true=>rec ρ F g (.inl y) K d
  | false=>rec ρ F g (.inr e) K d
 | .block id :: K=>match e with
  | .exit id'=>match id'==id with
   | true=>rec ρ F g (.inr .normal) K d
   | false=>rec ρ F g (.inr (.exit id')) K d
  | e=>rec ρ F g (.inr e) K d
 | .scope :: K=>match e with
  | .goto _=>.stuck 60
  | e=>rec ρ F g (.inr e) K d
 | .lp c :: K=>match A8 e with
  | true=>rec ρ F g (.inl c) (.lp c :: K) d
  | false=>rec ρ F g (.inr e) K d
def XK(P:Program)(G:ze)(ops:Array Oper)(ip:Nat):List Nat->St->Y4->Option Y4
 | [],_,p=>some p
 | i :: l,s,p=>match ((YP ops.toList).getD i 0).testBit ip with
  | true=>XK P G ops ip l s (p++[([],[])])
  | false=>match Hd P G ops i s with
   | some (R,ws)=>XK P G ops ip l (s.app ws) (p++[(R,ws)])
   | none=>none
def WT(d:D)(p:Y4):D:=⟨d.n,d.ts.filter λx=>!p.Rm.contains x.1,d.bs.filter λx=>!p.Dx.contains x.1,p.Dx++d.us,d.sy⟩
def gF(id:Nat)(ops:Array Oper)(draw:Bool)(g:T P G ρ)(K:List Kf)(d:D):C:=
 rg P G id ops (List.range' 0 ops.size) g d.st [] d.sy (λg s p sy=>match !draw || KK ops p with
  | true=>XM kp d s p sy λd'=>rec ρ F g (.inr .normal) K d'
  | false=>.stuck 63) λv g s p sy=>match draw with
  | false=>XM kp d s p sy λd'=>rec ρ F g (.inr (.panic v)) K d'
  | true=>match XK P G ops (p.length - 1) (List.range' p.length (ops.size - p.length)) s p with
   | some p'=>match KK ops p' with
    | true=>rec ρ F g (.inr (.panic v)) K (WT d p')
    | false=>.stuck 77
   | none=>.stuck 77
def sxR(id:Nat)(ops:Array Oper)(draw:Bool)(g:T P G ρ)(K:List Kf)(d:D):C:=
 match g with
 | .QD id' ts first E k=>match id'==id with
  | true=>.bind (rg P G id ops (List.range' 0 ops.size) first d.st [] d.sy (λg s p _=>Pq P G ops draw ts d g s p) λ_ _ _ _ _=>.stuck 78) λe=>match (E e).all (okV (ZX d.us))&&(E e).length==ts.length with
   | true=>rec ρ F (k e) (.inr .normal) K (PL ops ts d (E e))
   | false=>.stuck 61
  | false=>gF kp rec F id ops draw (.QD id' ts first E k) K d
 | g=>gF kp rec F id ops draw g K d
def sxN(g:T P G ρ)(c:Code)(K:List Kf)(d:D):C:=
 match c with
 | .cond o x y=>match g with
  | .br _ _ a b=>match d.st.ev G o with
   | some (.bool c)=>.br c (rec ρ F a (.inl x) K d) (rec ρ F b (.inl y) K d)
   | _=>.stuck 65
  | .tt k=>match d.st.ev G o with
   | some (.bool c)=>match c with
    | true=>rec ρ F k (.inl x) K d
    | false=>.stuck 66
   | _=>.stuck 66
  | .ff k=>match d.st.ev G o with
   | some (.bool c)=>match c with
    | false=>rec ρ F k (.inl y) K d
    | true=>.stuck 67
   | _=>.stuck 67
  | _=>.stuck 68
 | .block id x=>rec ρ F g (.inl x) (.block id :: K) d
 | .scope x=>rec ρ F g (.inl x) (.scope :: K) d
 | .loop x=>match g with
  | .lp S body x0=>match F with
   | .LW E=>match K with
    | []=>.loop (WS (S x0) d.st) (WB (S x0) d.st) λy=>match (S y).ok&&A8 (S y).ex with
     | true=>rec _ (.VP S E) (body y) (.inl x) [] ((S y).D d.n)
     | false=>.stuck 69
    | _ :: _=>.stuck 73
   | _=>.stuck 74
  | g=>rec ρ F g (.inl x) (.lp x :: K) d
 | .rangeFunc o ps as bd=>match g with
  | .sub S k=>match S.x.ok with
   | true=>.sub (.rangeFunc o ps as bd) d.n (WS S.x d.st) (WB S.x d.st) λe=>match (S.E e).ok with
    | true=>rec ρ F (k e) (.inr (S.E e).ex) K ((S.E e).D d.n)
    | false=>.stuck 64
   | false=>.stuck 76
  | .Ez S k k2=>match S.x.ok with
   | true=>.Ez (.rangeFunc o ps as bd) d.n (WS S.x d.st) (WB S.x d.st) (λe=>match (S.E (.inl e)).ok with
    | true=>rec ρ F (k e) (.inr (S.E (.inl e)).ex) K ((S.E (.inl e)).D d.n)
    | false=>.stuck 64) λe=>match (S.E (.inr e)).ok with
    | true=>rec ρ F (k2 e) (.inr (S.E (.inr e)).ex) K ((S.E (.inr e)).D d.n)
    | false=>.stuck 64
   | false=>.stuck 76
  | _=>.stuck 75
 | _=>.stuck 71
def sxB(g:T P G ρ)(c:Code)(K:List Kf)(d:D):C:=
 match g with
 | .bind 0 first E k=>.bind (rec _ (.LW E) first (.inl c) [] d) λe=>match (E e).ok with
  | true=>rec ρ F (k e) (.inr (E e).ex) K ((E e).D d.n)
  | false=>.stuck 64
 | .QM 0 first E E2 k k2=>.QM (rec _ (.LW (Sum.elim E E2)) first (.inl c) [] d)
  (λe=>match (E e).ok with
   | true=>rec ρ F (k e) (.inr (E e).ex) K ((E e).D d.n)
   | false=>.stuck 64) λe=>match (E2 e).ok with
   | true=>rec ρ F (k2 e) (.inr (E2 e).ex) K ((E2 e).D d.n)
   | false=>.stuck 64
 | .QM (j+1) first E E2 k k2=>match c with
  | .block id x=>rec ρ F (.QM j first E E2 k k2) (.inl x) (.block id :: K) d
  | .scope x=>rec ρ F (.QM j first E E2 k k2) (.inl x) (.scope :: K) d
  | .loop x=>rec ρ F (.QM j first E E2 k k2) (.inl x) (.lp x :: K) d
  | _=>.stuck 72
 | .bind (j+1) first E k=>match c with
  | .block id x=>rec ρ F (.bind j first E k) (.inl x) (.block id :: K) d
  | .scope x=>rec ρ F (.bind j first E k) (.inl x) (.scope :: K) d
  | .loop x=>rec ρ F (.bind j first E k) (.inl x) (.lp x :: K) d
  | _=>.stuck 72
 | g=>sxN rec F g c K d
def Ss(g:T P G ρ)(c:Code)(K:List Kf)(d:D):C:=
 match g with
 | .sub S k=>match S.x.ok with
  | true=>.sub c d.n (WS S.x d.st) (WB S.x d.st) λe=>match (S.E e).ok with
   | true=>rec ρ F (k e) (.inr (S.E e).ex) K ((S.E e).D d.n)
   | false=>.stuck 64
  | false=>.stuck 76
 | .Ez S k k2=>match S.x.ok with
  | true=>.Ez c d.n (WS S.x d.st) (WB S.x d.st) (λe=>match (S.E (.inl e)).ok with
   | true=>rec ρ F (k e) (.inr (S.E (.inl e)).ex) K ((S.E (.inl e)).D d.n)
   | false=>.stuck 64) λe=>match (S.E (.inr e)).ok with
   | true=>rec ρ F (k2 e) (.inr (S.E (.inr e)).ex) K ((S.E (.inr e)).D d.n)
   | false=>.stuck 64
  | false=>.stuck 76
 | _=>.stuck 75
def sxC(g:T P G ρ)(c:Code)(K:List Kf)(d:D):C:=
 match c with
 | .skip=>rec ρ F g (.inr .normal) K d
 | .label _=>rec ρ F g (.inr .normal) K d
 | .exit id=>rec ρ F g (.inr (.exit id)) K d
 | .ret=>rec ρ F g (.inr .ret) K d
 | .seq x y=>match Bi x with
  | true=>Ss rec F g (.seq x y) K d
  | false=>rec ρ F g (.inl x) (.seq y :: K) d
 | .region id ops draw=>sxR kp rec F id ops draw g K d
 | c=>sxB rec F g c K d
def Qek(a:Nat)(cur:Code⊕Exit)(K:List Kf):Bool:=
 match cur with
 | .inr _=>K.isEmpty&&a==0
 | .inl (.loop _)=>a==1
 | .inl (.rangeFunc _ _ _ _)=>a==1
 | .inl (.seq x _)=>a==1&&Bi x
 | .inl (.region id _ _)=>a==id+2
 | _=>false
def sxD(g:T P G ρ)(cur:Code⊕Exit)(K:List Kf)(d:D):C:=
 match cur with
 | .inr e=>sxE rec F g e K d
 | .inl c=>sxC kp rec F g c K d
def sxS(g:T P G ρ)(cur:Code⊕Exit)(K:List Kf)(d:D):C:=
 match g with
 | .fail=>.fail
 | .fact p _ k=>.fact p λh=>rec ρ F (k h) cur K d
 | .br a c x y=>match a==999999 with
  | true=>.br c (rec ρ F x cur K d) (rec ρ F y cur K d)
  | false=>match cur with
   | .inl (.region id ops draw)=>match a==990000+id with
    | true=>.br c (Ss rec F x (.region id ops draw) K d) (rec ρ F y (.inl (.region id ops draw)) K d)
    | false=>sxD kp rec F (.br a c x y) (.inl (.region id ops draw)) K d
   | cur=>sxD kp rec F (.br a c x y) cur K d
 | .gh a w k=>match Qek a cur K with
  | true=>.gh (cS w d) (NC w d λd'=>rec ρ F k cur K d')
  | false=>sxD kp rec F (.gh a w k) cur K d
 | g=>sxD kp rec F g cur K d
end
def sx(P:Program)(G:ze)(kp:List Nat)(n:Nat):Rec P G:=
 Nat.rec (λ_ _ _ _ _ _=>.stuck 99) (λ_ ih ρ F g cur K d=>sxS kp ih (ρ:=ρ) F g cur K d) n
end Go.EV
namespace Go.EV
open Go
theorem JT(f:V->V->V):∀(es cs:List V),(V9 f es cs).length=cs.length
 | [],cs=>by cases cs<;>rfl
 | _ :: _,[]=>rfl
 | e :: es,c :: cs=>by simp[V9,JT f es cs]
theorem YY(f:V->V->V):∀(es cs:List V) (i:Nat) (d:V),(V9 f es cs)[i]?=some d->∃c,cs[i]?=some c/\(d=c\/∃e,d=f e c)
 | [],cs,i,d,h=>by cases cs<;>exact⟨d,h,.inl rfl⟩
 | _ :: _,[],i,d,h=>by simp[V9] at h
 | e :: es,c :: cs,i,d,h=>by
  cases i with
  | zero=>simp[V9] at h;grind
  | succ i=>
   simp only[V9,List.getElem?_cons_succ] at h
   obtain⟨c',h1,h2⟩:=YY f es cs i d h
   grind
theorem HG{γ:Gh}{w:World}{bs:zg}{u:zh}:∀(n:Nat) (e c:V) (v:Value),Qu γ w bs u c v->Qu γ w bs u (D8 n e c) v
 | 0,_,_,_,h=>h
 | n+1,e,c,v,h=>by
  have ih:=HG (γ:=γ) (w:=w) (bs:=bs) (u:=u) n
  cases c<;>simp only[D8]<;>try exact h
  case Qj=>
   split
   ·have:=h.QI;subst this;exact .data (.Zc _ _)
   ·exact h
  case sl o z r=>
   split
   ·exact h.strip
   ·exact h
  case agg cs=>
   split
   ·rename_i es
    obtain⟨vs,rfl,h1,h2⟩:=h.QX
    refine .agg _ vs (by rw[JT];exact h1) λi c v hc hv=>?_
    obtain⟨c',k1,k2⟩:=YY _ _ _ _ _ hc
    grind
   ·exact h
  case Qt cs=>
   split
   ·rename_i es
    obtain⟨vs,rfl,h1,h2⟩:=h.KS
    refine .Qt _ vs (by rw[JT];exact h1) λi c v hc hv=>?_
    obtain⟨c',k1,k2⟩:=YY _ _ _ _ _ hc
    grind
   ·exact h
theorem uS:∀(n:Nat) (e c:V),(D8 n e c).QN=true->D8 n e c=c\/c=.Qj
 | 0,_,_,_=>.inl rfl
 | n+1,e,c,h=>by
  cases c
  case Qj=>exact .inr rfl
  case sl o z r=>
   simp only[D8] at h ⊢
   cases e with
   | sl o' z' r'=>grind [V.QN]
   | _=>exact .inl rfl
  case agg cs=>simp only[D8] at h;grind [V.QN]
  case Qt cs=>simp only[D8] at h;grind [V.QN]
  all_goals exact .inl rfl
theorem Br{bs:zg}{u:zh}(n:Nat)(e c:V):Wk bs u c (D8 n e c):=λ_ _ v h=>HG n e c v h
theorem HN{bs:zg}{u:zh}:∀(es cs:List (List V)),W9 (λc c'=>Wk bs u c c'/\(c'.QN=true->c'=c\/c=.Qj)) cs (UR es cs)
 | [],cs=>by
  cases cs<;>exact⟨rfl,λi r' h=>⟨r',h,rfl,λj c' hc=>⟨c',hc,Wk.refl _,λ_=>.inl rfl⟩⟩⟩
 | _ :: _,[]=>⟨rfl,(by grind [UR])⟩
 | e :: es,c :: cs=>by
  obtain⟨h1,h2⟩:=HN (bs:=bs) (u:=u) es cs
  refine⟨by simp[UR,h1],λi r' h=>?_⟩
  cases i with
  | zero=>
   simp only[UR,wU,zy] at h
   subst h
   refine⟨c,rfl,JT _ _ _,λj c' hc=>?_⟩
   obtain⟨c0,k1,k2⟩:=YY _ _ _ _ _ hc
   refine⟨c0,k1,?_⟩
   rcases k2 with rfl|⟨e0,rfl⟩
   ·exact⟨Wk.refl _,λ_=>.inl rfl⟩
   grind [Br,uS]
  | succ i=>
   grind [List.getElem?_cons_succ,UR]
theorem W9.same{R:V->V->Prop}(h:∀c,R c c)(l:List (List V)):W9 R l l:=⟨rfl,(by grind)⟩
theorem W9.append{R:V->V->Prop}{l l' m m':List (List V)}(h:W9 R l l')(k:W9 R m m'):W9 R (l++m) (l'++m'):=
  ⟨by simp[h.1,k.1],λi r' hr=>by
    by_cases hi:i < l'.length
    · rw[wg hi] at hr
      rw[wg (by rw[<-h.1];exact hi)]
      exact h.2 i r' hr
    · rw[wl (by omega)] at hr
      rw[wl (by rw[<-h.1];omega),<-h.1]
      exact k.2 _ r' hr⟩
theorem W9.set{R:V->V->Prop}(h:∀c,R c c)(l:List (List V))(j:Nat){r r':List V}(k:W9 R [r] [r']):W9 R (l.set j r) (l.set j r'):=
  ⟨by simp,λi q hq=>by
    by_cases hi:j=i
    · subst hi
      have hl:j < l.length:=by
        grind
      rw[List.getElem?_set_self hl] at hq ⊢
      simp only[zy] at hq;subst hq
      obtain⟨r0,h1,h2⟩:=k.2 0 r' rfl
      grind
    grind⟩
def AR(bs:zg)(u:zh)(c c':V):Prop:=Wk bs u c c'/\(c'.QN=true->c'=c\/c=.Qj)
theorem AR.same{bs:zg}{u:zh}(c:V):AR bs u c c:=⟨Wk.refl _,λ_=>.inl rfl⟩
theorem QH.lH{G:ze}(s:St)(d:Nat)(z:Nat)(x:Bool){rows rows':List (List V)}(h:∀bs u,W9 (AR bs u) rows rows')(t:List (Nat×V)) :
  QH G ((s.Qh d ⟨z,x,rows⟩).app (t.map λp=>.t p.1 p.2)) ((s.Qh d ⟨z,x,rows'⟩).app (t.map λp=>.t p.1 p.2)):=by
 have key:∀(t:List (Nat×V)) (s s':St),s'.n=s.n->s'.u=s.u->s'.t=s.t->(s'.app (t.map λp=>.t p.1 p.2)).n=(s.app (t.map λp=>.t p.1 p.2)).n/\(s'.app (t.map λp=>.t p.1 p.2)).u=(s.app (t.map λp=>.t p.1 p.2)).u/\(s'.app (t.map λp=>.t p.1 p.2)).t=(s.app (t.map λp=>.t p.1 p.2)).t/\(s'.app (t.map λp=>.t p.1 p.2)).b=s'.b/\(s.app (t.map λp=>.t p.1 p.2)).b=s.b:=by
  intro t
  induction t with
  | nil=>intro s s' h1 h2 h3;exact⟨h1,h2,h3,rfl,rfl⟩
  | cons p t ih=>
   intro s s' h1 h2 h3
   exact ih (s.QG p.1 p.2) (s'.QG p.1 p.2) h1 h2 (by simp[St.QG,h3])
 obtain⟨h1,h2,h3,h4,h5⟩:=key t (s.Qh d ⟨z,x,rows⟩) (s.Qh d ⟨z,x,rows'⟩) rfl rfl rfl
 refine QH.cells h1 h2 (by grind [Wk.refl]) λb=>?_
 rw[h4,h5]
 simp only[St.Qh]
 by_cases hb:b=d
 ·subst hb
  exact .inr ⟨_,_,if_pos rfl,if_pos rfl,rfl,rfl,h _ _⟩
 ·rw[if_neg hb,if_neg hb]
  cases hs:s.b b with
  | none=>grind
  | some k=>exact .inr ⟨k,k,rfl,rfl,rfl,rfl,W9.same (λc=>AR.same c) _⟩
theorem uC{bs:zg}{u:zh}(e c:List V):W9 (AR bs u) [c] [V9 (D8 8) e c]:=HN [e] [c]
mutual
theorem yO:∀(n:Nat) (v:V) (k:V->C),nrm n v k=k v
 | 0,_,_=>rfl
 | n+1,v,k=>by
  cases v<;>simp only[nrm]<;>simp only[LY n]
theorem LY:∀(n:Nat) (l:List V) (k:List V->C),LJ n l k=k l
 | 0,_,_=>rfl
 | n+1,l,k=>by
  cases l with
  | nil=>rfl
  | cons v l=>simp only[LJ,yO n,LY n]
end
theorem Bq:∀(l:List (List V)) (k:List (List V)->C),aE l k=k l
 | [],_=>rfl
 | r :: l,k=>by simp only[aE,LY,Bq l]
theorem Mr:∀(l:List (Nat×V)) (k:List (Nat×V)->C),Pr l k=k l
 | [],_=>rfl
 | (i,v) :: l,k=>by simp only[Pr,yO,Mr l]
theorem Wp(sy:List Nat):∀(l:List (Nat×Qi)) (k:List (Nat×Qi)->C),LU sy l k=k l
 | [],_=>rfl
 | (i,b) :: l,k=>by
  cases h:sy.contains i<;>simp only[LU,h,Bq,Wp sy l]
theorem EM{op:BinOp}{k:IntKind}{a b:Int}{c:Bool}{v:V}(h:iB op k a b=some (c,v))(hc:c=true):Il op k a b=some v\/Kl op k a b=some v:=by
 subst hc
 cases op<;>simp only[iB,zy,zJ,reduceCtorEq] at h
 case quo=>obtain⟨h1,rfl⟩:=h;left;simp only[wc,wQ,ne_eq] at h1;simp[Il,h1]
 case rem=>obtain⟨h1,rfl⟩:=h;left;simp only[wc,wQ,ne_eq] at h1;simp[Il,h1]
 case shl=>obtain⟨h1,rfl⟩:=h;right;simp only[zC] at h1;simp[Kl,show ¬b < 0 by omega]
 case shr=>obtain⟨h1,rfl⟩:=h;right;simp only[zC] at h1;simp[Kl,show ¬b < 0 by omega]
theorem Ao{lo:Option V}{h:Nat}{c:Bool}{l:Nat}(e:loC lo h=some (c,l))(hc:c=true):mO lo h=some l:=by
 unfold loC at e
 unfold mO
 grind
theorem Ar{n:Nat}{hi mx:Option V}{c:Bool}{h:Nat}(e:hiC n hi mx=some (c,h))(hc:c=true):CO n hi mx=some h:=by
 unfold hiC at e
 unfold CO
 grind
theorem Ev{n:Nat}{lo hi mx:Option V}{c:Bool}{l h:Nat}(e:uN n lo hi mx=some (c,l,h))(hc:c=true):CO n hi mx=some h/\mO lo h=some l:=by
 unfold uN at e
 split at e
 ·rename_i c1 h' e1
  split at e
  ·rename_i c2 l' e2
   simp only[zy,zJ] at e
   obtain⟨e3,rfl,rfl⟩:=e
   subst hc
   split at e3
   ·subst e3
    have:c1=true:=by simp[hiC] at e1;exact e1.1.symm▸rfl
    exact⟨Ar e1 this,Ao e2 rfl⟩
   ·subst e3
    have:c2=true:=by simp[loC] at e2;exact e2.1.symm▸rfl
    exact⟨Ar e1 rfl,Ao e2 this⟩
   ·simp only[zD] at e3
    grind [Ar,Ao]
  ·simp at e
 ·simp at e
theorem FV{P:Program}{look:zg}{t:TypeId}{c d:V}{lo hi mx:Option V}{b:Bool}(e:Rt P look t c lo hi mx=some (b,d))(hb:b=true):Ha P look t c lo hi mx=some d:=by
 unfold Rt at e
 unfold Ha
 split at e
 ·rename_i hu
  rw[hu]
  split at e
  ·obtain⟨⟨c1,l,h⟩,e1,e2⟩:=zE.1 e
   simp only[zJ] at e2
   obtain⟨rfl,rfl⟩:=e2
   obtain⟨k1,k2⟩:=Ev e1 hb
   simp[k1,k2]
  ·simp at e
 ·rename_i el hu
  rw[hu]
  simp only
  split at e
  ·simp at e
  ·rename_i ei he
   rw[he]
   simp only
   split at e
   ·split at e
    ·rename_i hs
     obtain⟨⟨c1,l,h⟩,e1,e2⟩:=zE.1 e
     simp only[zJ] at e2
     obtain⟨rfl,rfl⟩:=e2
     obtain⟨k1,k2⟩:=Ev e1 hb
     grind
    ·simp at e
   ·rename_i b' off len'
    split at e
    ·rename_i k hk
     split at e
     ·rename_i hs
      obtain⟨⟨c1,l,h⟩,e1,e2⟩:=zE.1 e
      simp only[zJ] at e2
      obtain⟨rfl,rfl⟩:=e2
      obtain⟨k1,k2⟩:=Ev e1 hb
      obtain⟨hs,hmx⟩:=hs
      have hmx:=Option.isNone_iff_eq_none.1 hmx
      subst hmx
      have k1:=cF (N:=k.rows.length - off) k1
      grind
     ·simp at e
    ·simp at e
   ·simp at e
 ·simp at e
theorem Pz{P:Program}{e:Operand->Option V}{look:zg}{op:Op}{c:Bool}{v:V}(h:qZ P e look op=some (c,v))(hc:c=true):YX P e look op=some v:=by
 unfold qZ at h
 unfold YX
 split at h
 ·rename_i op t x y _
  split at h
  ·rename_i k a k' b hx hy
   simp only[hx,hy,NU]
   split at h
   ·rcases EM h hc with h|h
    ·simp[Il] at h
    ·exact h
   ·rcases EM h hc with h|h
    ·simp[Il] at h
    ·exact h
   ·rename_i n1 n2
    split at h
    ·rename_i hk
     rcases EM h hc with h|h
     ·grind
     ·cases op<;>first|exact absurd rfl n1|exact absurd rfl n2|(simp[Kl] at h)
    ·simp at h
  ·rename_i a b hx hy
   simp only[hx,hy,NU]
   split at h
   ·simp only[zy,zJ] at h
    obtain⟨h1,rfl⟩:=h
    subst hc
    simp only[zC] at h1
    simp only[eD,h1,if_true]
   ·simp at h
  ·simp at h
 ·rename_i t x i
  split at h
  ·rename_i s n hu hx hi
   simp only[zy,zJ] at h
   obtain⟨h1,rfl⟩:=h
   simp_all [zC,and_self,if_true,LI]
  ·simp at h
 ·rename_i t x i
  split at h
  ·rename_i el b off len kk n hu hx hi
   split at h
   ·rename_i ei he
    split at h
    ·rename_i k hk
     split at h
     ·rename_i hs
      simp only[zy,zJ] at h
      obtain⟨h1,rfl⟩:=h
      subst hc
      simp only[zD,zC] at h1
      simp only[hx,hi,F7,hu,he,hk,hs]
      simp[h1]
     ·simp at h
    ·simp at h
   ·simp at h
  ·simp at h
 ·grind [FV]
 ·simp at h
section
variable {P:Program} {G:ze} {ops:Array Oper} {i:Nat} {s:St}
theorem PG{c:Bool}{ws:List Wr}(h:uV P G ops i s=some (c,ws))(hc:c=true):X4 P G ops i s (Me ops i s []) ws:=by
 unfold uV at h
 split at h
 ·rename_i o ho
  split at h
  ·rename_i hd
   obtain⟨⟨c',v⟩,h1,h2⟩:=zE.1 h
   simp only[zJ] at h2
   obtain⟨rfl,rfl⟩:=h2
   grind [V0,Et,Pz]
  ·simp at h
 ·simp at h
theorem I2.ghost{o:Oper}{st st1 st2:St}(h:I2 P G o st st1)(g:QH G st1 st2):I2 P G o st st2:=λfx γ a w hs hd next Q hn=>
 h fx γ a w hs hd next Q λa' w' γ' k1 k2 k3 k4=>by
  obtain⟨γ2,g1,g2,g3⟩:=g γ' a'.tmps w' k1
  exact hn a' w' γ2 g1 (k2.trans g2) (k3.trans g3) k4
theorem RV{rows:List (List V)}{j:Nat}{c:Bool}{f:List V->Option (List Wr)}{r:List V}{ws:List Wr}(h:VF P G ops i s=some (rows,j,c,f))(hc:c=true)(hr:rows[j]?=some r)(hf:f r=some ws) :
  X4 P G ops i s (Me ops i s []) ws:=by
 subst hc
 unfold VF at h
 split at h
 ·rename_i o ho
  split at h
  ·rename_i t x jj d hop hdst
   split at h
   ·rename_i hd
    split at h
    ·rename_i ow size rows' kk n hx hj
     split at h
     ·rename_i hsz
      simp only[zy,zJ] at h
      obtain⟨rfl,rfl,h3,rfl⟩:=h
      simp only[zy] at hf
      subst hf
      refine Rl (n:=n) (rows:=rows') (d:=d) ?_ (by simpa using h3) hr
      simp_all [if_true,jM]
     ·simp at h
    ·simp at h
   ·simp at h
  ·rename_i t x d hop hdst
   split at h
   ·rename_i hd
    split at h
    ·rename_i b r' off hx
     split at h
     ·rename_i k hk
      simp only[zy,zJ,true_and] at h
      obtain⟨rfl,rfl,rfl⟩:=h
      obtain⟨v,h1,rfl⟩:=zE.1 hf
      refine OO (t:=t) (rows:=k.rows) (j:=r') (off:=off) (d:=d) ?_ hr h1
      simp_all [if_true,LM]
     ·simp at h
    ·simp at h
   ·simp at h
  ·rename_i t x y hop hdst
   split at h
   ·rename_i b r' off cv hx hy
    split at h
    ·rename_i k hk
     split at h
     ·rename_i hex
      simp only[zy,zJ,true_and] at h
      obtain⟨rfl,rfl,rfl⟩:=h
      obtain⟨v,h1,rfl⟩:=zE.1 hf
      obtain⟨oo,ho',hE⟩:=Xi (P:=P) (G:=G) (ops:=ops) (i:=i) (s:=s) (ex:=[]) (t:=t) (rows:=k.rows) (j:=r') (off:=off) (b:=b) (size:=k.size) (c:=cv) (by simp_all [if_true,Xf]) hr h1
      exact V0 ⟨oo,ho',λs2 hn ht hbm hu=>(hE s2 hn ht hbm hu).ghost (QH.lH s2 b k.size true (by grind [W9.set,AR.same,uC]) [])⟩
     ·simp at h
    ·simp at h
   ·simp at h
  ·simp at h
 ·simp at h
theorem FR{α:Type}(ty:Ty α)(x:List α):(x.map ty.d).map (·.map V.strip)=x.map ty.d:=by
 rw[wJ]
 exact wn λa _=>ty.st a
theorem kI{ex:List Nat}{A:oM}(h:Ot P G ops ex i s=some A)(hlen:A.len=A.rows.length)(hf:A.fl=true->A.ZJ.map (·.map V.strip)=A.ZJ) :
  ∃off,BZ P G ops ex i s=some (A.d,⟨A.b,0,A.size,A.Qn,A.rows⟩,⟨A.sb,off,A.size,true,A.ZJ⟩,A.size,A.bytes,true):=by
 unfold Ot at h
 split at h
 ·rename_i o ho
  split at h
  ·rename_i as ts d hop hdst
   split at h
   ·rename_i hd
    split at h
    ·rename_i x' y' t t2 hxs hts
     split at h
     ·rename_i cx cy e e2 hx hy ht ht2
      split at h
      ·rename_i ei hi
       split at h
       ·rename_i hz
        split at h
        ·rename_i b rows len Qn hds
         split at h
         ·rename_i sb ZJ fl hss
          simp only[zy] at h
          subst h
          simp only at hlen hf ⊢
          subst hlen
          have k1:Tu (s.QO o ex) ei.size cx=some (⟨b,0,ei.size,Qn,rows⟩,true):=by
           unfold kA at hds
           unfold Tu
           split at hds
           ·grind
           ·grind
           ·simp at hds
          have k2:∃off,BS (s.QO o ex) ei.size b cy=some (⟨sb,off,ei.size,true,ZJ⟩,true):=by
           unfold Sz at hss
           unfold BS
           split at hss
           ·simp_all
           ·simp_all
           ·rename_i b' len'
            split at hss
            ·rename_i k hk
             split at hss
             ·simp_all
             ·simp at hss
            ·simp at hss
           ·simp at hss
          obtain⟨off,k2⟩:=k2
          simp_all [and_self,if_true,BZ]
         ·simp at h
        ·simp at h
       ·simp at h
      ·simp at h
     ·simp at h
    ·simp at h
   ·simp at h
  ·simp at h
 ·simp at h
theorem kX{ex:List Nat}{A:oM}(h:Ot P G ops ex i s=some A)(e:A.fl=true):A.sb=none:=by
 unfold Ot at h
 split at h
 ·split at h
  ·split at h
   ·split at h
    ·split at h
     ·split at h
      ·split at h
       ·split at h
        ·split at h
         ·rename_i hss
          simp only[zy] at h
          subst h
          simp only at e ⊢
          subst e
          unfold Sz at hss
          split at hss
          ·simp at hss
          ·grind
          ·grind
          ·simp at hss
         ·simp at h
        ·simp at h
       ·simp at h
      ·simp at h
     ·simp at h
    ·simp at h
   ·simp at h
  ·simp at h
 ·simp at h
theorem AE{bs:zg}{u:zh}(sy:List Nat)(sb:Option Nat)(e rows:List (List V)):W9 (AR bs u) rows (Fu sy sb e rows):=by
 unfold Fu
 split
 ·split
  ·grind [W9.same,AR.same]
  ·exact HN _ _
 grind [W9.same,AR.same]
theorem Sy{A:oM}(h:Ot P G ops [] i s=some A){α:Type}{ty:Ty α}{l x:List α}{sy:List Nat}(hr:A.rows=l.map ty.c)(hlen:A.len=l.length)(hs:Fu sy A.sb (x.map ty.c) A.ZJ=x.map ty.c)(hf:A.fl=true->A.sb=none/\∀y,ty.c y=ty.d y)
  (hb:(l.length+x.length) * A.bytes<=140737488355328) :
  X4 P G ops i s (Me ops i s []) (Fz A.b++(Fz A.sb++[.b A.d (some ⟨A.size,A.Qn,(l++x).map ty.c⟩),.t A.d (.ref A.d 0 (l++x).length)])):=by
 have hlx:A.ZJ.length=x.length:=by
  have:=(AE (bs:=λ_=>none) (u:=λ_=>false) sy A.sb (x.map ty.c) A.ZJ).1
  grind
 obtain⟨off,hat⟩:=kI h (by grind) (λe=>by
  obtain⟨e0,e2⟩:=hf e
  have e1:x.map ty.c=x.map ty.d:=wn λa _=>e2 a
  rw[e0] at hs
  have hs':A.ZJ=x.map ty.c:=hs
  rw[hs',e1,FR])
 obtain⟨oo,ho,hE⟩:=OL (ds:=⟨A.b,0,A.size,A.Qn,A.rows⟩) (ss:=⟨A.sb,off,A.size,true,A.ZJ⟩) (rows:=l.map ty.c++A.ZJ) (m:=(l++x).length) hat rfl (by grind) (by simp[hr]) (by simp[hr,hlx])
 refine V0 ⟨oo,ho,λs2 hn ht hbm hu=>(hE s2 hn ht hbm hu).ghost ?_⟩
 simp only
 rw[Uy,Uy,Uy,Uy]
 have:=QH.lH (G:=G) ((s2.QJ A.b).QJ A.sb) A.d A.size A.Qn (rows:=l.map ty.c++A.ZJ) (rows':=(l++x).map ty.c) (λbs u=>by
  rw[wE]
  refine W9.append (W9.same (λc=>AR.same c) _) ?_
  have:=AE (bs:=bs) (u:=u) sy A.sb (x.map ty.c) A.ZJ
  rw[hs] at this;exact this) [(A.d,.ref A.d 0 (l++x).length)]
 exact this
theorem mZ.of{o:Oper}{s s2:St}{x:Operand}{c:V}(hx:s.Dy G o x=some c)(ht:∀t,t∈Y3 o->s2.t t=s.t t):mZ G s2 x c:=λ_ _ _ hs=>
 (hs.QV (Y3 o)).ev (by rw[T5 ht];exact hx)
theorem Te{c:V}(h:H4 c=true)(f:Nat->Nat):H8 f c=c:=by
 cases c<;>simp_all [H4,H8]
 obtain⟨rfl,rfl⟩:=h
 simp[N4]
theorem PA{c:V}(h:H4 c=true):W2 c=[]:=by
 cases c<;>simp_all [H4,W2]
 obtain⟨rfl,rfl⟩:=h
 simp[E5]
theorem R9{c:V}(h:H4 c=true)(u:zh):okV u c=true:=by
 cases c<;>simp_all [H4,okV]
 obtain⟨rfl,rfl⟩:=h
 simp[Mf]
theorem J8.Qc{k:Qi}(h:J8 k.rows)(f:Nat->Nat):k.Qc f=k:=by
 unfold Qi.Qc
 have:k.rows.map (N4 f)=k.rows:=by
  have:∀l:List (List V),J8 l->l.map (N4 f)=l:=by
   intro l hl
   induction l with
   | nil=>rfl
   | cons r l ih=>
    rw[wj,ih λr' hr'=>hl r' (by simp[hr'])]
    congr 1
    rw[Wm]
    conv=>rhs;rw[<-List.map_id r]
    exact wn λc hc=>Te (hl r (by simp) c hc) f
  exact this _ h
 rw[this]
theorem J8.refs{rows:List (List V)}(h:J8 rows):E5 rows.flatten=[]:=by
 have:∀l:List V,(∀c,c∈l->H4 c=true)->E5 l=[]:=by
  intro l hl
  induction l with
  | nil=>rfl
  | cons c l ih=>grind [PA,E5]
 refine this _ λc hc=>?_
 obtain⟨r,h1,h2⟩:=wO.1 hc
 exact h r h1 c h2
def ZG(sy:List Nat)(s:St):Prop:=∀b,b∈sy->∀k,s.b b=some k->J8 k.rows
theorem We{dt:List Nat}{b:Nat}{f:Nat->Nat}{k:Qi}(h:b∈dt->J8 k.rows):Mh dt b f k=k.Qc f:=by
 unfold Mh
 split
 ·rename_i hc;exact((h (by simpa using hc)).Qc f).symm
 ·rfl
theorem Nt{Li Lo:List (Nat×Nat)}{sy:List Nat}{dst:Option Nat}{f:FuncId}{as:List V}{I:List (Nat×Qi)}(hsy:ZG sy s)(h:Jl P G ops Li Lo sy i s=some (dst,f,as,I)){O:List (Nat×Qi)}{res:V}
  {dt:List Nat} (hdt:∀p,p∈O->p.1∈dt->J8 p.2.rows) (hc:QR P G f as (Qe I) res (Qe O)) (ho:Jm (Li++Lo) dt O res=true) :
  X4 P G ops i s (Me ops i s ((Li++Lo).map (·.2))) (G7 (Li++Lo) dt O dst res):=by
 unfold Jl at h
 split at h
 ·rename_i dst' f' as' bl shl hcg
  split at h
  ·rename_i hcond
   simp only[zy,zJ] at h
   obtain⟨rfl,rfl,rfl,rfl⟩:=h
   simp only[zD,zG,zU] at hcond
   obtain⟨hids,hbl⟩:=hcond
   have hids':=hids
   simp only[ET,zD,zG,beq_iff_eq,zC,wc] at hids'
   obtain⟨⟨⟨i1,i2⟩,i3⟩,i4⟩:=hids'
   have hblk:∀x,x∈bl->sy.contains (J7 (Li++Lo) x.1)=true->J8 x.2.rows:=by
    intro x hx hs
    simp only[MX] at hcg
    split at hcg
    ·rename_i o ff cs hca
     split at hcg
     ·rename_i shl' bl' hsh hb'
      split at hcg
      ·simp only[zy,zJ] at hcg
       obtain⟨-,-,-,rfl,-⟩:=hcg
       obtain⟨n,hn⟩:=wI.1 hx
       obtain⟨y,y1,y2⟩:=L4 hb' n x hn
       obtain⟨k,k1,rfl⟩:=zE.1 y2
       have hy:=zQ y1
       have e:J7 (Li++Lo) y.1=y.2:=(by grind)
       simp only[e] at hs
       exact hsy y.2 (by simpa using hs) k (Yh _ _ _ _ k1)
      ·simp at hcg
     ·simp at hcg
    ·simp at hcg
   have eI:(bl.map λx=>(x.1,Mh sy (J7 (Li++Lo) x.1) (J5 (Li++Lo)) x.2))=bl.map λx=>(x.1,x.2.Qc (J5 (Li++Lo))):=
    (by grind [List.map_congr_left,We])
   simp only[Jm,zD,zG,zU] at ho
   have hshl:shl=[]:=by
    grind [Option.some.injEq,Prod.mk.injEq,MX,K8]
   subst hshl
   refine BF Li Lo [] hids hcg hc eI.symm (by simp) (λx hx b hb=>?_) (λx hx=>⟨(ho.1 x hx).1,λb hb=>?_⟩) (by grind [oQ]) ?_
   ·rcases hbl x hx with h1|h1
    ·rw[(hblk x hx h1).refs] at hb;simp at hb
    ·exact h1 b hb
   ·rcases(ho.1 x hx).2 with h1|h1
    ·rw[(hdt x hx (by simpa using h1)).refs] at hb;simp at hb
    ·exact h1 b hb
   ·unfold G7 Ie
    simp only[List.map_nil,wz,wJ]
    congr 1
    refine wn λx hx=>?_
    simp only[Function.comp]
    grind [We,N0,Qe]
  ·simp at h
 ·simp at h
theorem Ph{v:Value}(h:qM P G ops i s=some v):KA P G ops i s (Me ops i s []) (.panic (K0 v)) []:=by
 unfold qM at h
 split at h
 ·rename_i o ho
  obtain⟨h3,h4⟩:=Ee ho
  split at h
  ·rename_i x hop
   split at h
   ·rename_i u hu
    split at h
    ·rename_i t y
     simp only[zy] at h
     subst h
     intro s2 hn hag
     obtain⟨k1,k2,_,_⟩:=Em h3 h4 hn hag
     refine⟨o,h3,(by grind),k1,λfx γ a w hs had next Q hq=>?_⟩
     have hv:a.eval x=.iface t y:=by
      exact(mZ.of hu k2 γ a w hs).Ul
     have hrun:(execOp a.eval o).run P w=.halt (.panic (.iface t y)) w:=by
      unfold execOp
      rw[hop]
      simp only[hv]
      rfl
     show o.upon P a next Q _
     rw[hrun]
     exact hq a w γ hs (.refl γ w) (.refl hs.u) had
    ·simp at h
   ·simp at h
  ·simp at h
 ·simp at h
theorem Fh{Li Lo:List (Nat×Nat)}{sy:List Nat}{dst:Option Nat}{f:FuncId}{as:List V}{I:List (Nat×Qi)}(hsy:ZG sy s)(h:Jl P G ops Li Lo sy i s=some (dst,f,as,I)){O:List (Nat×Qi)}{v:List PanicEntry}
  {dt:List Nat} (hdt:∀p,p∈O->p.1∈dt->J8 p.2.rows) (hc:MP P G f as (Qe I) v (Qe O)) (ho:Jm (Li++Lo) dt O .undef=true) :
  KA P G ops i s (Me ops i s ((Li++Lo).map (·.2))) (.panic v) (G7 (Li++Lo) dt O none .undef):=by
 unfold Jl at h
 split at h
 ·rename_i dst' f' as' bl shl hcg
  split at h
  ·rename_i hcond
   simp only[zy,zJ] at h
   obtain⟨rfl,rfl,rfl,rfl⟩:=h
   simp only[zD,zG,zU] at hcond
   obtain⟨hids,hbl⟩:=hcond
   have hids':=hids
   simp only[ET,zD,zG,beq_iff_eq,zC,wc] at hids'
   obtain⟨⟨⟨i1,i2⟩,i3⟩,i4⟩:=hids'
   have hblk:∀x,x∈bl->sy.contains (J7 (Li++Lo) x.1)=true->J8 x.2.rows:=by
    intro x hx hs
    simp only[MX] at hcg
    split at hcg
    ·rename_i o ff cs hca
     split at hcg
     ·rename_i shl' bl' hsh hb'
      split at hcg
      ·simp only[zy,zJ] at hcg
       obtain⟨-,-,-,rfl,-⟩:=hcg
       obtain⟨n,hn⟩:=wI.1 hx
       obtain⟨y,y1,y2⟩:=L4 hb' n x hn
       obtain⟨k,k1,rfl⟩:=zE.1 y2
       have hy:=zQ y1
       have e:J7 (Li++Lo) y.1=y.2:=(by grind)
       simp only[e] at hs
       exact hsy y.2 (by simpa using hs) k (Yh _ _ _ _ k1)
      ·simp at hcg
     ·simp at hcg
    ·simp at hcg
   have eI:(bl.map λx=>(x.1,Mh sy (J7 (Li++Lo) x.1) (J5 (Li++Lo)) x.2))=bl.map λx=>(x.1,x.2.Qc (J5 (Li++Lo))):=
    (by grind [List.map_congr_left,We])
   simp only[Jm,zD,zG,zU] at ho
   have hshl:shl=[]:=by
    grind [Option.some.injEq,Prod.mk.injEq,MX,K8]
   subst hshl
   refine Rg Li Lo [] hids hcg hc eI.symm (by simp) (λx hx b hb=>?_) (λx hx=>⟨(ho.1 x hx).1,λb hb=>?_⟩) ?_
   ·rcases hbl x hx with h1|h1
    ·rw[(hblk x hx h1).refs] at hb;simp at hb
    ·exact h1 b hb
   ·rcases(ho.1 x hx).2 with h1|h1
    ·rw[(hdt x hx (by simpa using h1)).refs] at hb;simp at hb
    ·exact h1 b hb
   ·unfold G7 Ie
    simp only[List.map_nil,wz,wJ,KW]
    refine wn λx hx=>?_
    simp only[Function.comp]
    grind [We,N0,Qe]
  ·simp at h
 ·simp at h
end
end Go.EV
namespace Go.EV
open Go
theorem HU{α β:Type}{f g:α->Option β}:∀{l:List α} {r:List β},K8 f l=some r->(∀x,x∈l->∀y,f x=some y->g x=some y)->K8 g l=some r
 | [],r,h,_=>h
 | x :: l,r,h,hg=>by
  simp only[K8] at h ⊢
  split at h
  ·rename_i y r' h1 h2
   rw[hg x (by simp) y h1,HU h2 (by grind)];exact h
  ·simp at h
theorem FD{look:zg}{c:V}(h:H4 c=true)(n:Nat):E8 look (n+1) c=E8 look 1 c:=by
 cases c<;>simp_all [H4,E8]
 obtain⟨rfl,rfl⟩:=h
 simp[K8]
theorem Ty.view{α:Type}(ty:Ty α)(look:zg)(n:Nat)(x:α):K8 (λv=>I8 (E8 look (n+1) v)) (ty.c x)=some (ty.d x):=
 HU (ty.vw look x) λc hc y hy=>by
  rw[FD (zG.1 (ty.cd x) c hc)];exact hy
theorem Ty.views{α:Type}(ty:Ty α)(look:zg)(n:Nat):∀l:List α,K8 (K8 λv=>I8 (E8 look (n+1) v)) (l.map ty.c)=some (l.map ty.d)
 | []=>rfl
 | x :: l=>by simp only[wj,K8,ty.view look n x,ty.views look n l]
theorem Xd{look:zg}{vs:List QE}:∀(n:Nat) (c:V) (e:Nat×List (List V)×Nat),e∈P2 look vs n c->∃k,look e.1=some k/\e.2.1=k.rows
 | 0,_,_,h=>by simp[P2] at h
 | n+1,c,e,h=>by
  have fl:∀l:List V,e∈l.flatMap (P2 look vs n)->∃k,look e.1=some k/\e.2.1=k.rows:=λl hl=>by
   obtain⟨x,_,hx⟩:=wy.1 hl
   exact Xd n x e hx
  cases c<;>simp only[P2,zT] at h
  case ref b off len=>
   grind
  case ptr b i off=>
   grind
  case fn f a c=>
   grind
  case agg l=>exact fl _ h
  grind
def VOk(vs:List QE)(es:List (Nat×List (List V)×Nat)):Prop:=
 ∀e,e∈es->∀v,vs.find? (λv=>v.b==e.1)=some v->e.2.1.take e.2.2=v.l.map v.ty.c
theorem Xe{look:zg}{vs:List QE}:∀(n:Nat) (c d:V),WX look vs n c=some d->VOk vs (P2 look vs n c)->E8 look n c=some d
 | 0,_,_,h,_=>by simp[WX] at h
 | n+1,c,d,h,hv=>by
  have ih:=Xe (look:=look) (vs:=vs) n
  have sub:∀(l:List V) (r:List V),K8 (WX look vs n) l=some r->VOk vs (l.flatMap (P2 look vs n))->K8 (E8 look n) l=some r:=λl r hm hl=>
   HU hm λx hx y hy=>ih x y hy λe he=>hl e (by grind)
  cases c<;>simp only[WX] at h<;>try exact h
  case ref b off len=>
   split at h
   ·rename_i v hf
    split at h
    ·split at h
     ·simp at h
     ·rename_i n0
      obtain⟨k,hk,rfl⟩:=zE.1 h
      have:=hv (b,k.rows,len) (by grind [P2])
      have e:(k.rows.drop 0).take len=v.l.map v.ty.c:=by grind
      simp only[E8,hk]
      rw[e,v.ty.views]
      rfl
    ·simp at h
   ·exact h
  case ptr b i off=>
   split at h
   ·rename_i k hk
    split at h
    ·rename_i r hr
     obtain⟨l,h1,rfl⟩:=zE.1 h
     simp only[P2,hk,hr] at hv
     simp only[E8,hk,hr]
     rw[HU h1 λx hx y hy=>?_]
     ·rfl
     ·obtain⟨a1,a2⟩:=T7 hy
      have:=ih x y a1 λe he=>hv e (by grind)
      grind
    ·simp at h
   ·simp at h
  case fn f a c=>
   split at h
   ·rename_i a' c' h1 h2
    simp only[P2] at hv
    simp only[E8]
    rw[sub a a' h1 λe he=>hv e (wM _ he),sub c c' h2 λe he=>hv e (by grind)]
    exact h
   ·simp at h
  case agg l=>
   obtain⟨r,h1,rfl⟩:=zE.1 h
   simp only[E8]
   rw[sub l r h1 hv];rfl
  case Qt l=>
   obtain⟨r,h1,rfl⟩:=zE.1 h
   simp only[E8]
   rw[sub l r h1 hv];rfl
theorem gA{look:zg}{vs:List QE}{n:Nat}{cs:List V}(hw:Qqk vs=true)(h:cs.flatMap (P2 look vs n)=vs.map QE.iN):VOk vs (cs.flatMap (P2 look vs n)):=by
 have rows:∀e,e∈cs.flatMap (P2 look vs n)->∃k,look e.1=some k/\e.2.1=k.rows:=(by grind [Xd])
 intro e he v hv
 obtain⟨k,k1,k2⟩:=rows e he
 have hm:=wW hv
 have hb:v.b=e.1:=by grind
 have:v.iN∈cs.flatMap (P2 look vs n):=by grind
 obtain⟨k',k3,k4⟩:=rows _ this
 simp only[QE.iN] at k3 k4
 rw[hb,k1] at k3
 simp only[zy] at k3
 subst k3
 obtain⟨v',hm',he'⟩:=zH.1 (h▸he)
 subst he'
 simp only[QE.iN] at k1 k2 hb ⊢
 have one:∀x,x∈vs->∀y,y∈vs->y.b=x.b->x.w=false->x=y:=λx hx y hy hxy hw0=>by
  have:=zG.1 hw x hx
  rw[hw0] at this
  simp only[Bool.false_or,beq_iff_eq] at this
  obtain⟨z,hz⟩:=List.length_eq_one_iff.1 this
  have hx':x∈vs.filter λq=>q.b==x.b:=(by grind)
  have hy':y∈vs.filter λq=>q.b==x.b:=(by grind)
  grind
 cases hwv:v.w with
 | false=>rw[<-one v hm v' hm' hb.symm hwv];exact v.h
 | true=>
  cases hwv':v'.w with
  | false=>grind
  | true=>rw[v'.hw hwv',show v'.rows.length=v.n by rw[v.hw hwv,k2,k4],k2,<-k4];exact v.h
section
variable {P:Program} {G:ze} {ops:Array Oper} {i:Nat} {s:St}
theorem FX{ex:List Nat}{vs:List QE}{dst:Option Nat}{f:FuncId}{ds:List V}{es:List (Nat×List (List V)×Nat)}{r:V}(h:Ri P G ops ex vs i s=some (dst,f,ds,es))(he:es=vs.map QE.iN)
  (hc:kC P G f ds r) (hr:L9 r=true):X4 P G ops i s (Me ops i s ex) (KW dst r):=by
 unfold Ri at h
 split at h
 ·rename_i o f' cs hca
  split at h
  rotate_left
  ·simp at h
  rename_i hw
  obtain⟨ds',hm,h2⟩:=zE.1 h
  simp only[zJ] at h2
  obtain⟨rfl,rfl,rfl,rfl⟩:=h2
  have hv:=gA hw he
  refine BL 8 ?_ hc hr
  simp only[viewAt,hca]
  rw[HU hm λx hx y hy=>Xe 8 x y hy λe he=>hv e (by grind)]
  rfl
 ·simp at h
end
def B7(P:Program)(G:ze)(ops:Array Oper)(p:Y4)(st0 s:St):Prop:=
 s=U9 p st0 p.length/\∀j,j < p.length->X4 P G ops j (U9 p st0 j) (p.rs j) (p.ws j)
theorem D1(p:Y4)(x:List Loc×List Wr)(st:St):∀n,n<=p.length->U9 (p++[x]) st n=U9 p st n
 | 0,_=>rfl
 | n+1,h=>by
  simp only[U9]
  rw[D1 p x st n (by omega)]
  grind [List.getElem?_append_left,Y4.ws]
theorem B7.push{P:Program}{G:ze}{ops:Array Oper}{p:Y4}{st0 s:St}(h:B7 P G ops p st0 s){R:List Loc}{ws:List Wr}(hs:X4 P G ops p.length s R ws):B7 P G ops (p++[(R,ws)]) st0 (s.app ws):=by
 obtain⟨h1,h2⟩:=h
 have e:(p++[(R,ws)]).getD p.length ([],[])=(R,ws):=by grind
 refine⟨?_,λj hj=>?_⟩
 ·simp_all [wD,D1,zI,U9,Y4.ws]
 grind [List.length_append,List.length_singleton,D1,List.getElem?_append_left,Y4.rs,Y4.ws]
theorem Jz{ws:List Wr}{s:St}{b:Nat}(h:¬b∈KN ws):(s.app ws).b b=s.b b:=
 (O1 (l:=.b b) ws s λx hx e=>h (by
  unfold KN
  refine List.mem_filterMap.2 ⟨x,hx,?_⟩
  cases x with
  | t i c=>simp[Wr.loc] at e
  | b i k=>grind [Loc.b.injEq,Wr.loc])).1
theorem NX{ws:List Wr}{s:St}{t:Nat}(h:¬t∈eZ ws):(s.app ws).t t=s.t t:=
 O1 (l:=.t t) ws s λx hx e=>h (by
  unfold eZ
  refine List.mem_filterMap.2 ⟨x,hx,?_⟩
  cases x with
  | b i c=>simp[Wr.loc] at e
  | t i k=>grind [Loc.t.injEq,Wr.loc])
theorem Sq(a b:List Wr)(s:St):s.app (a++b)=(s.app a).app b:=by unfold St.app;grind
theorem kM(ws:List Wr)(x:Wr)(s:St):s.app (ws++[x])=(s.app ws).wr x:=by
 unfold St.app;grind
theorem ED{s:St}{b:Nat}{k:Qi}:∀(n:Nat) (ws:List Wr),ws.length=n->(s.app ws).b b=some k->b∈KN ws->Wr.b b (some k)∈ws
 | 0,ws,hn,_,hm=>by grind [List.length_eq_zero_iff,KN]
 | n+1,ws,hn,h,hm=>by
  obtain⟨ws',x,rfl⟩:∃ws' x,ws=ws'++[x]:=⟨ws.dropLast,ws.getLast (by grind),(List.dropLast_concat_getLast _).symm⟩
  rw[kM] at h
  have hl:ws'.length=n:=by simpa using hn
  cases x with
  | t i c=>
   have hm':b∈KN ws':=by
    grind [KN]
   exact wM _ (ED n ws' hl h hm')
  | b i q=>
   by_cases hi:b=i
   ·subst hi
    cases q with
    | none=>simp[St.wr,St.QC] at h
    | some q=>
     simp_all [if_true,zy,St.wr,St.Qh]
   ·have h':(s.app ws').b b=some k:=by
     cases q with
     | none=>grind [St.wr,St.QC]
     | some q=>grind [St.wr,St.Qh]
    have hm':b∈KN ws':=by
     grind [KN]
    exact wM _ (ED n ws' hl h' hm')
theorem ZG.step{sy:List Nat}{s:St}(h:ZG sy s){ws:List Wr}{told:List Nat}(ht:∀i k,Wr.b i (some k)∈ws->i∈told->J8 k.rows):ZG (Yn sy ws told) (s.app ws):=by
 intro b hb k hk
 unfold Yn at hb
 rcases wa.1 hb with hb|hb
 ·obtain⟨h1,h2⟩:=List.mem_filter.1 hb
  exact ht b k (ED _ ws rfl hk (by simpa using h2)) h1
 ·obtain⟨h1,h2⟩:=List.mem_filter.1 hb
  rw[Jz (by simpa using h2)] at hk
  exact h b h1 k hk
theorem Wz.coe{P:Program}{G:ze}{f:FuncId}{es as:List V}{ins outs:zg}{E:Value->Ending}{res:V}(h:Wz P G f (V9 (D8 8) es as) ins E res outs):Wz P G f as ins E res outs:=λγ w vs hg ho ha hb=>
 h γ w vs hg ho ⟨by rw[JT];exact ha.1,λi c v hc hv=>by
  obtain⟨c',k1,k2⟩:=YY _ _ _ _ _ hc
  rcases k2 with rfl|⟨e,rfl⟩
  ·exact ha.2 i _ v k1 hv
  ·exact HG 8 e c' v (ha.2 i c' v k1 hv)⟩ hb
theorem MP.coe{P:Program}{G:ze}{f:FuncId}{es as:List V}{ins outs:zg}{v:List PanicEntry}(h:MP P G f (V9 (D8 8) es as) ins v outs):MP P G f as ins v outs:=Wz.coe h
theorem QR.coe{P:Program}{G:ze}{f:FuncId}{es as:List V}{ins outs:zg}{res:V}(h:QR P G f (V9 (D8 8) es as) ins res outs):QR P G f as ins res outs:=λγ w vs hg ho ha hb=>
 h γ w vs hg ho ⟨by rw[JT];exact ha.1,λi c v hc hv=>by
  obtain⟨c',k1,k2⟩:=YY _ _ _ _ _ hc
  rcases k2 with rfl|⟨e,rfl⟩
  ·exact ha.2 i _ v k1 hv
  ·exact HG 8 e c' v (ha.2 i c' v k1 hv)⟩ hb
section
variable {P:Program} {G:ze} {id:Nat} {ops:Array Oper}
def NG(P:Program)(G:ze)(ops:Array Oper){ρ:Type}(F:Yw ρ)(r:ρ)(st0:St)(n:Nat)(next:T P G ρ->St->Y4->List Nat->C):Prop:=
 ∃g' s' p' sy',next g' s' p' sy'=g'.expect F/\g'.run=some r/\B7 P G ops p' st0 s'/\ZG sy' s'/\p'.length=n
theorem Ew{ρ:Type}{F:Yw ρ}{a:Nat}{k:T P G ρ}{R:List Loc}{ws:List Wr}{s st0:St}{p:Y4}{sy:List Nat}{next:T P G ρ->St->Y4->List Nat->C}{r:ρ}
  (h:xQ P G a k R ws s p sy next=k.expect F) (hr:k.run=some r) (hp:B7 P G ops p st0 s) (hsy:ZG sy s) (hs:X4 P G ops p.length s R ws) :
  ∃g' sy' p',next g' (s.app ws) p' sy'=g'.expect F/\g'.run=some r/\B7 P G ops p' st0 (s.app ws)/\ZG sy' (s.app ws)/\p'.length=p.length+1:=by
 have plain:next k (s.app ws) (p++[(R,ws)]) (Yn sy ws [])=k.expect F->∃g' sy' p',next g' (s.app ws) p' sy'=g'.expect F/\g'.run=some r/\B7 P G ops p' st0 (s.app ws)/\ZG sy' (s.app ws)/\p'.length=p.length+1:=
  λh=>⟨k,_,_,h,hr,hp.push hs,hsy.step (by grind),by simp⟩
 cases k<;>try exact plain h
 case re a' w k'=>
  simp only[xQ] at h
  split at h
  ·simp only[T.expect,C.re.injEq] at h
   obtain⟨h1,h2⟩:=h
   have e:ws=w.b:=h1.trans w.h
   rw[e]
   exact⟨k',_,_,h2,hr,hp.push (e▸hs),hsy.step w.JC,by simp⟩
  grind
theorem PX{ρ:Type}{F:Yw ρ}{g:T P G ρ}{s st0:St}{p:Y4}{sy:List Nat}{next:T P G ρ->St->Y4->List Nat->C}{r:ρ}(hns:∀j,C.stuck j≠g.expect F)
  (h:DH P G ops p.length g s p sy next=g.expect F) (hr:g.run=some r) (hp:B7 P G ops p st0 s) (hsy:ZG sy s):NG P G ops F r st0 (p.length+1) next:=by
 unfold DH at h
 split at h
 ·rename_i R ws hrw
  exact⟨g,_,_,_,h,hr,hp.push (YE hrw),hsy.step (by grind),by simp⟩
 grind
theorem Z6{ρ:Type}(F:Yw ρ)(g:T P G ρ)(j:Nat):C.stuck j≠g.expect F:=by
 induction g with
 | done r=>
  cases F with
  | VP S E=>grind [T.expect,HI]
  | iX rs res outs ex Zu=>grind [T.expect,HI]
  | _=>simp[T.expect,HI]
 | tt k ih=>grind [T.expect]
 | ff k ih=>grind [T.expect]
 | UX a k ih=>grind [T.expect]
 | lp S body x=>cases F<;>simp[T.expect]
 | Yi a n vs k=>cases vs<;>simp[T.expect]
 | _=>simp[T.expect]
theorem Sr{s:St}{sy sy':List Nat}{i:Nat}{Li Lo:List (Nat×Nat)}{dst dst':Option Nat}{f:FuncId}{as:List V}{ins:List (Nat×Qi)}
  {O:List (Nat×Qi)} {res:V} {dt:List Nat} (hc:Jl P G ops Li Lo sy i s=some (dst',f,as,ins)) (hdt:∀q,q∈O->q.1∈dt->J8 q.2.rows)
  (x4:ZG sy' (s.app (G7 (Li++Lo) dt O dst res))):ZG (Hm (Li++Lo) dt++sy') (s.app (G7 (Li++Lo) dt O dst res)):=by
 intro b hb q hq
 rcases wa.1 hb with hb|hb
 ·unfold Hm at hb
  obtain⟨y,hy,rfl⟩:=zH.1 hb
  obtain⟨y1,y2⟩:=List.mem_filter.1 hy
  unfold Jl at hc
  split at hc
  ·split at hc
   ·rename_i hcond
    simp only[zD] at hcond
    have hids:=hcond.1
    simp only[ET,zD,zG,beq_iff_eq,zC,wc] at hids
    have i1:=hids.1.1.1
    have e0:(s.app (G7 (Li++Lo) dt O dst res)).b y.2=(Qe O y.1).map (Mh dt y.1 (J7 (Li++Lo))):=by
     unfold G7
     rw[Sq]
     have e1:∀s':St,(s'.app (KW dst (H8 (J7 (Li++Lo)) res))).b y.2=s'.b y.2:=λs'=>Jz (by cases dst<;>simp[KW,KN])
     rw[e1]
     have:=(MO ((Qe O y.1).map (Mh dt y.1 (J7 (Li++Lo)))) ((Li++Lo).map λz=>(z.2,(Qe O z.1).map (Mh dt z.1 (J7 (Li++Lo))))) s y.2 (by grind) ⟨_,zH.2 ⟨y,y1,rfl⟩,rfl⟩).1
     rw[wJ] at this
     exact this
    rw[e0] at hq
    cases hO:Qe O y.1 with
    | none=>grind
    | some k=>
     rw[hO] at hq
     simp only[ww,zy] at hq
     subst hq
     have hd:=hdt (y.1,k) (N0 hO) (by simpa using y2)
     rw[We (λ_=>hd),hd.Qc];exact hd
   ·simp at hc
  ·simp at hc
 ·exact x4 b hb q hq
theorem WZ{ρ:Type}{F:Yw ρ}{a:Nat}{k:T P G ρ}{s st0:St}{p:Y4}{sy:List Nat}{next:T P G ρ->St->Y4->List Nat->C}{r:ρ}{Li Lo:List (Nat×Nat)}{dst:Option Nat}{f:FuncId}{as:List V}{ins:List (Nat×Qi)}
  {O:List (Nat×Qi)} {res:V} {dt:List Nat} (hp:B7 P G ops p st0 s) (hsy:ZG sy s) (hc:Jl P G ops Li Lo sy p.length s=some (dst,f,as,ins)) (hdt:∀q,q∈O->q.1∈dt->J8 q.2.rows)
  (hok:QR P G f as (Qe ins) res (Qe O)) (hout:Jm (Li++Lo) dt O res=true)
  (h5:xQ P G a k (Me ops p.length s ((Li++Lo).map (·.2))) (G7 (Li++Lo) dt O dst res) s p sy (λg s p sy=>next g s p (Hm (Li++Lo) dt++sy))=k.expect F) (hr:k.run=some r):NG P G ops F r st0 (p.length+1) next:=by
 have hs:=Nt hsy hc hdt hok hout
 obtain⟨g',sy',p',x1,x2,x3,x4,x5⟩:=Ew h5 hr hp hsy hs
 exact⟨g',_,p',_,x1,x2,x3,Sr hc hdt x4,x5⟩
theorem Tw{ρ:Type}{F:Yw ρ}{g:T P G ρ}{s st0:St}{p:Y4}{sy:List Nat}{next:T P G ρ->St->Y4->List Nat->C}{r:ρ}
  (h:TY P G id ops p.length g s p sy next=g.expect F) (hr:g.run=some r) (hp:B7 P G ops p st0 s) (hsy:ZG sy s):NG P G ops F r st0 (p.length+1) next:=by
 have pl:DH P G ops p.length g s p sy next=g.expect F->NG P G ops F r st0 (p.length+1) next:=(by grind [PX,Z6])
 cases g<;>simp only[TY] at h<;>try exact pl h
 case fail=>simp[T.run] at hr
 case Qd a c k=>
  split at h
  ·split at h
   ·rename_i c' ws hc
    simp only[T.expect,C.Qd.injEq] at h
    obtain⟨rfl,h2⟩:=h
    simp only[T.run] at hr
    cases c' with
    | false=>simp at hr
    | true=>
     obtain⟨g',sy',p',x1,x2,x3,x4,x5⟩:=Ew h2 hr hp hsy (PG hc rfl)
     exact⟨g',_,p',sy',x1,x2,x3,x4,x5⟩
   grind [Z6,absurd]
  ·exact pl h
 case re a w k=>
  split at h
  ·split at h
   ·rename_i R ws hrw
    simp only[T.expect,C.re.injEq] at h
    obtain⟨h1,h2⟩:=h
    have e:ws=w.b:=h1.trans w.h
    subst e
    exact⟨k,_,_,_,h2,hr,hp.push (YE hrw),hsy.step w.JC,by simp⟩
   grind [Z6,absurd]
  ·exact pl h
 case row α a ty l j c k=>
  split at h
  ·split at h
   ·rename_i rows j' c' f hro
    simp only[T.expect,C.row.injEq,heq_eq_eq,true_and] at h
    obtain⟨rfl,rfl,rfl,h4⟩:=h
    simp only[T.run] at hr
    cases c' with
    | false=>simp at hr
    | true=>
     simp only[cond_true] at hr
     split at hr
     ·rename_i x hx
      have h5:=congrFun h4 x
      split at h5
      ·rename_i ws hws
       have hrow:(l.map ty.c)[j']?=some (ty.c x):=by grind
       obtain⟨g',sy',p',x1,x2,x3,x4,x5⟩:=Ew h5 hr hp hsy (RV hro rfl hrow hws)
       exact⟨g',_,p',sy',x1,x2,x3,x4,x5⟩
      grind [Z6,absurd]
     ·simp at hr
   grind [Z6,absurd]
  ·exact pl h
 case app α a ty l x bytes fl hf k=>
  split at h
  ·split at h
   ·rename_i A hA
    simp only[T.expect,C.app.injEq] at h
    obtain⟨h1,h2,h3,h4,h5,h6⟩:=h
    simp only[T.run] at hr
    cases hc:decide ((l.length+x.length) * bytes<=140737488355328) with
    | false=>grind
    | true=>
     rw[hc] at hr
     simp only[cond_true] at hr
     have hb:(l.length+x.length) * A.bytes<=140737488355328:=by grind
     have hs:=Sy hA h1 h2 h3 (λe=>⟨kX hA e,hf (by rw[<-h5];exact e)⟩) hb
     refine⟨k,_,_,_,h6,hr,hp.push hs,hsy.step (λi k hm hi=>?_),by simp⟩
     simp only[wm] at hi
     subst hi
     simp only[wa,zO,zT,or_false,Wr.b.injEq,zy,true_and,reduceCtorEq] at hm
     rcases hm with hm|hm|hm
     ·unfold Fz at hm;grind
     ·unfold Fz at hm;grind
     ·subst hm;exact ty.data _
   grind [Z6,absurd]
  ·exact pl h
 case call α a sp Li Lo k=>
  split at h
  ·split at h
   ·rename_i dst f as ins hc
    simp only[T.expect,C.call.injEq,heq_eq_eq,true_and] at h
    obtain⟨rfl,h2,rfl,h4⟩:=h
    simp only[T.run] at hr
    split at hr
    ·rename_i x hx
     have h5:=congrFun h4 x
     split at h5
     ·rename_i hout
      exact WZ hp hsy hc (sp.JC x) (by have:=sp.ok x hx;rw[<-h2] at this;exact this.coe) hout h5 hr
     ·exact absurd h5 (Z6 F _ _)
    ·simp at hr
   ·exact absurd h (Z6 F _ _)
  ·exact pl h
 case call2 α β a sp Li Lo k k2=>
  split at h
  ·split at h
   ·rename_i dst f as ins hc
    simp only[T.expect,C.call2.injEq,heq_eq_eq,true_and] at h
    obtain⟨rfl,h2,rfl,h4,h4b⟩:=h
    simp only[T.run] at hr
    split at hr
    ·rename_i x hx
     have h5:=congrFun h4 x
     split at h5
     ·rename_i hout
      exact WZ hp hsy hc (sp.JC _) (by have:=sp.ok _ hx;rw[<-h2] at this;exact this.coe) hout h5 hr
     ·exact absurd h5 (Z6 F _ _)
    ·rename_i x hx
     have h5:=congrFun h4b x
     split at h5
     ·rename_i hout
      exact WZ hp hsy hc (sp.JC _) (by have:=sp.ok _ hx;rw[<-h2] at this;exact this.coe) hout h5 hr
     ·exact absurd h5 (Z6 F _ _)
    ·simp at hr
   ·exact absurd h (Z6 F _ _)
  ·exact pl h
 case view α a sp vs k=>
  split at h
  ·split at h
   ·split at h
    ·rename_i dst f ds eqs hv
     simp only[T.expect,C.view.injEq,heq_eq_eq,true_and] at h
     obtain⟨rfl,h2,h3,h4⟩:=h
     simp only[T.run] at hr
     split at hr
     ·rename_i x hx
      have h5:=congrFun h4 x
      split at h5
      ·rename_i hfl
       simp only[zD,List.isEmpty_iff] at hfl
       obtain⟨f1,f2,f3⟩:=hfl
       have hok:=sp.ok x hx
       rw[f2,f3,<-h2] at hok
       have hok:=hok.coe
       have hs:=FX hv h3 hok f1
       exact⟨_,_,_,_,h5,hr,hp.push hs,λb hb q hq=>hsy b hb q (by
        rw[<-hq];exact(Jz (by cases dst<;>simp[KW,KN])).symm),by simp⟩
      ·exact absurd h5 (Z6 F _ _)
     ·simp at hr
    ·exact absurd h (Z6 F _ _)
   ·exact absurd h (Z6 F _ _)
  ·exact pl h
 case Qy β a R k=>
  split at h
  ·split at h
   ·rename_i o ho
    split at h
    ·rename_i hfr
     simp only[T.expect,C.pC.injEq,heq_eq_eq,true_and] at h
     obtain⟨h1,h2,h3,h4,h5⟩:=h
     simp only[T.run] at hr
     split at hr
     ·rename_i x hx
      have hs:X4 P G ops p.length s (Me ops p.length s (R.Zb.map (·.1))) (R.ws x):=V0 ⟨o,ho,λs2 hn ht hb hu=>R.ok x hx o s2 h1 h2
       (λq hq=>mZ.of (List.map_inj_left.1 h3 q hq) ht)
       (λq hq=>by rw[(hb q.1 (List.mem_append_right _ (zH.2 ⟨q,hq,rfl⟩))).1];exact List.map_inj_left.1 h4 q hq)
       (λd hd=>by
        have hd':o.dst=some d:=h2.trans hd
        rw[hd'] at hfr
        simp only[zD,zC,wc] at hfr
        rw[hn,(hu d hd').2];exact hfr)⟩
      exact⟨_,_,_,_,congrFun h5 x,hr,hp.push hs,hsy.step (R.JC x),by simp⟩
     ·simp at hr
    ·exact absurd h (Z6 F _ _)
   ·exact absurd h (Z6 F _ _)
  ·exact pl h
theorem Ny{i:Nat}{s:St}{d:Nat}{b:Bool}(h:PJ ops i s=some (d,b)):s.QG d (.bool b)=s:=by
 unfold PJ at h
 split at h
 ·split at h
  ·split at h
   ·split at h
    ·rename_i b' hb
     simp only[zy,zJ] at h
     obtain⟨rfl,rfl⟩:=h
     unfold St.QG
     cases s
     simp only[St.mk.injEq,true_and,and_true]
     grind
    ·simp at h
   ·simp at h
  ·simp at h
 ·simp at h
theorem IM{s:St}{t:Nat}{c:V}(hb:s.t t=c):s.QG t c=s:=by
 unfold St.QG
 cases s
 simp only[St.mk.injEq,true_and,and_true]
 grind
theorem CI{i:Nat}{s:St}{t:Nat}{k:IntKind}{m:Int}(h:cA ops i s=some (t,k,m)):s.QG t (.int k m)=s:=by
 unfold cA at h
 split at h
 ·split at h
  ·split at h
   ·rename_i hb
    simp only[zy,zJ] at h
    obtain⟨rfl,rfl,rfl⟩:=h
    exact IM hb
   ·simp at h
  ·split at h
   ·rename_i hb
    simp only[zy,zJ] at h
    obtain⟨rfl,rfl,rfl⟩:=h
    exact IM hb
   ·simp at h
  ·simp at h
 ·simp at h
theorem Ol{m n:Int}{A B:Int->C}:∀(vs:List Int),vs.foldr (λv r=>C.br (m==v) (A v) r) C.fail=vs.foldr (λv r=>C.br (n==v) (B v) r) C.fail->vs.contains n=true->m=n/\A n=B n
 | [],_,h=>by simp at h
 | v :: vs,h,hc=>by
  simp only[List.foldr_cons,C.br.injEq] at h
  obtain⟨h1,h2,h3⟩:=h
  by_cases hn:n=v
  ·grind
  ·refine Ol vs h3 ?_
   grind
def BK(P:Program)(G:ze)(ops:Array Oper){ρ:Type}(F:Yw ρ)(r:ρ)(st0:St)(n:Nat)(κp:List PanicEntry->T P G ρ->St->Y4->List Nat->C):Prop:=
 ∃v g' sy' p s R W,κp v g' (s.app W) (p++[(R,W)]) sy'=g'.expect F/\g'.run=some r/\B7 P G ops p st0 s/\KA P G ops p.length s R (.panic v) W/\p.length < n/\ZG sy' (s.app W)
theorem KD(p:Y4)(x:List Loc×List Wr)(st:St):U9 (p++[x]) st (p++[x]).length=(U9 p st p.length).app x.2:=by
 simp_all [wD,List.length_singleton,D1,zI,U9,Y4.ws]
theorem XU{ρ:Type}{F:Yw ρ}{r:ρ}{st0:St}{κ:T P G ρ->St->Y4->List Nat->C}{κp:List PanicEntry->T P G ρ->St->Y4->List Nat->C}:∀(m:Nat) (g:T P G ρ) (s:St) (p:Y4) (sy:List Nat),
  rg P G id ops (List.range' p.length m) g s p sy κ κp=g.expect F->g.run=some r->B7 P G ops p st0 s->ZG sy s->NG P G ops F r st0 (p.length+m) κ\/BK P G ops F r st0 (p.length+m) κp
 | 0,g,s,p,sy,h,hr,hp,hsy=>.inl ⟨g,s,p,sy,h,hr,hp,hsy,rfl⟩
 | m+1,g,s,p,sy,h,hr,hp,hsy=>by
  rw[List.range'_succ] at h
  have next:∀{g':T P G ρ} {s':St} {p':Y4} {sy':List Nat} (n1:Nat),n1=p.length+1->rg P G id ops (List.range' n1 m) g' s' p' sy' κ κp=g'.expect F->g'.run=some r->B7 P G ops p' st0 s'->ZG sy' s'->p'.length=p.length+1->
    NG P G ops F r st0 (p.length+(m+1)) κ\/BK P G ops F r st0 (p.length+(m+1)) κp:=by
   intro g' s' p' sy' n1 hn1 x1 x2 x3 x4 x5
   have:=XU m g' s' p' sy' (by rw[x5,<-hn1];exact x1) x2 x3 x4
   grind
  have step:∀(g:T P G ρ) (s:St),B7 P G ops p st0 s->ZG sy s->g.run=some r->∀n1,n1=p.length+1->
    TY P G id ops p.length g s p sy (λg s p' sy=>rg P G id ops (List.range' n1 m) g s p' sy κ κp)=g.expect F->NG P G ops F r st0 (p.length+(m+1)) κ\/BK P G ops F r st0 (p.length+(m+1)) κp:=by
   intro g s hp hsy hr n1 hn1 h
   obtain⟨g',s',p',sy',x1,x2,x3,x4,x5⟩:=Tw h hr hp hsy
   grind
  have pl:TY P G id ops p.length g s p sy (λg s p' sy=>rg P G id ops (List.range' (p.length+1) m) g s p' sy κ κp)=g.expect F->NG P G ops F r st0 (p.length+(m+1)) κ\/BK P G ops F r st0 (p.length+(m+1)) κp:=step g s hp hsy hr _ rfl
  cases g<;>try exact pl h
  case br a c x y=>
   simp only[rg] at h
   split at h
   ·split at h
    ·rename_i d b hg
     simp only[T.expect,C.br.injEq] at h
     obtain⟨rfl,h1,h2⟩:=h
     simp only[T.run] at hr
     have e:=Ny hg
     grind
    grind [Z6,absurd]
   ·exact pl h
  case Yi a n vs k=>
   simp only[rg] at h
   split at h
   ·split at h
    ·rename_i t kd m' hg
     simp only[T.expect] at h
     simp only[T.run] at hr
     cases hc:vs.contains n with
     | false=>grind
     | true=>
      rw[hc] at hr
      obtain⟨rfl,h2⟩:=Ol vs h hc
      have e:=CI hg
      grind
    grind [Z6,absurd]
   ·exact pl h
  case Qo α β a sp Li Lo k k2=>
   simp only[rg] at h
   split at h
   ·split at h
    ·rename_i dst f as ins hc
     simp only[T.expect,C.call2.injEq,heq_eq_eq,true_and] at h
     obtain⟨rfl,h2,rfl,h4,h4b⟩:=h
     simp only[T.run] at hr
     split at hr
     ·rename_i x hx
      have h5:=congrFun h4 x
      split at h5
      ·rename_i hout
       obtain⟨g',s',p',sy',x1,x2,x3,x4,x5⟩:=WZ hp hsy hc (sp.JC _) (by have:=sp.ok _ hx;rw[<-h2] at this;exact this.coe) hout (next:=λg s p' sy=>rg P G id ops (List.range' (p.length+1) m) g s p' sy κ κp) (F:=F) (k:=k x) (a:=a) h5 hr
       grind
      grind [Z6,absurd]
     ·rename_i x hx
      have h5:=congrFun h4b x
      split at h5
      ·rename_i hout
       have hok:MP P G sp.f as (Qe sp.ins) (sp.UX x) (Qe (sp.Zu x)):=by have:=sp.okp _ hx;rw[<-h2] at this;exact this.coe
       have hs:=Fh hsy hc (sp.Qzj _) hok hout
       exact .inr ⟨_,_,_,p,s,_,_,h5,hr,hp,hs,by omega,Sr hc (sp.Qzj _) (hsy.step λ_ _ _ h=>by simp at h)⟩
      grind [Z6,absurd]
     ·simp at hr
    grind [Z6,absurd]
   ·exact pl h
  case UX a k=>
   simp only[rg] at h
   split at h
   ·split at h
    ·rename_i v hv
     simp only[T.run] at hr
     exact .inr ⟨_,k,sy,p,s,_,[],h,hr,hp,Ph hv,by omega,hsy⟩
    ·exact absurd h (Z6 F (T.UX a k) _)
   ·exact pl h
theorem Mw{ρ:Type}{F:Yw ρ}{g:T P G ρ}{r:ρ}{st:St}{sy:List Nat}{κ:T P G ρ->St->Y4->List Nat->C}{κp:List PanicEntry->T P G ρ->St->Y4->List Nat->C}(h:rg P G id ops (List.range' 0 ops.size) g st [] sy κ κp=g.expect F)(hr:g.run=some r)(hsy:ZG sy st) :
  (∃g' s p sy',κ g' s p sy'=g'.expect F/\g'.run=some r/\ZG sy' s/\p.length=ops.size/\s=U9 p st ops.size/\∀i,i < ops.size->X4 P G ops i (U9 p st i) (p.rs i) (p.ws i))\/
  (∃v g' sy' p R W,κp v g' ((U9 p st p.length).app W) (p++[(R,W)]) sy'=g'.expect F/\g'.run=some r/\ZG sy' ((U9 p st p.length).app W)/\p.length < ops.size/\(∀i,i < p.length->X4 P G ops i (U9 p st i) (p.rs i) (p.ws i))/\KA P G ops p.length (U9 p st p.length) R (.panic v) W):=by
 rcases XU (st0:=st) ops.size g st [] sy h hr ⟨rfl,λj hj=>by simp at hj⟩ hsy with⟨g',s,p,sy',x1,x2,x3,x4,x5⟩|⟨v,g',sy',p,s,R,W,x1,x2,x3,x4,x5,x6⟩
 ·simp only[List.length_nil,zP] at x5
  refine .inl ⟨g',s,p,sy',x1,x2,x4,x5,?_,λi hi=>?_⟩
  ·rw[<-x5];exact x3.1
  ·exact x3.2 i (by omega)
 ·simp only[List.length_nil,zP] at x5
  rw[x3.1] at x1 x4 x6
  exact .inr ⟨v,g',sy',p,R,W,x1,x2,x6,x5,x3.2,x4⟩
theorem U6.qH{Q:Exit->St->Prop}{p:Y4}{st:St}{m t:Nat}(h:∀i,i < m->X4 P G ops i (U9 p st i) (p.rs i) (p.ws i))(hq:U6 P G ops (List.range' m t) (U9 p st m) Q) :
  ∀n k,k+n=m->U6 P G ops (List.range' k (n+t)) (U9 p st k) Q
 | 0,k,hk=>by
  grind
 | n+1,k,hk=>by
  rw[show n+1+t=(n+t)+1 by omega,List.range'_succ]
  exact U6.cons (h k (by omega) _ rfl (λl _=>O0.refl _ l)) (U6.qH h hq n (k+1) (by omega))
theorem TV.Qzz{rid:Nat}{st s':St}{p:Y4}{n:Nat}{ex:Exit}{Q:Exit->St->Prop}(hn:n < ops.size)(hst:∀i,i < n->X4 P G ops i (U9 p st i) (p.rs i) (p.ws i))(hp:kP P G ops n (U9 p st n) ex s')(hq:Q ex s'):TV P G (.region rid ops false) st Q:=by
 refine TV.region ?_
 have:=U6.qH (Q:=Q) (t:=ops.size - n) hst (by
  rw[show ops.size - n=(ops.size - n - 1)+1 by omega,List.range'_succ]
  exact U6.stop hp hq) n 0 (by omega)
 rw[List.range_eq_range']
 rw[show n+(ops.size - n)=ops.size by omega] at this
 exact this
theorem TV.Cf{draw:Bool}{rid:Nat}{st s:St}{p:Y4}{Q:Exit->St->Prop}(hm:P.follows .mixedOrders=true)(hd:(!draw || KK ops p)=true)(hs:s=U9 p st ops.size)
  (hst:∀i,i < ops.size->X4 P G ops i (U9 p st i) (p.rs i) (p.ws i)) (hq:Q .normal s):TV P G (.region rid ops draw) st Q:=by
 cases draw with
 | false=>
  refine TV.region ?_
  have:=U6.Cf (Q:=Q) hst (by rw[<-hs];exact hq) ops.size 0 (by omega)
  rw[List.range_eq_range'];exact this
 | true=>
  simp only[Bool.not_true,Bool.false_or,KK,zD] at hd
  refine TV.draw hm hd.1 hd.2 (λi hi=>?_) ?_
  ·rw[Ux,show min i ops.size=i by omega];exact hst i hi
  grind [XX]
end
mutual
theorem F4{u u':zh}(h:∀b,u b=true->u' b=true):∀(c:V),okV u c=true->okV u' c=true
 | .int _ _,_=>rfl
 | .bool _,_=>rfl
 | .str _,_=>rfl
 | .Zf,_=>rfl
 | .Zd,_=>rfl
 | .QP _,_=>rfl
 | .Qj,_=>rfl
 | .Zw _,_=>rfl
 | .sl _ _ _,_=>rfl
 | .snap _,_=>rfl
 | .undef,_=>rfl
 | .ref b _ _,hc=>by grind [okV]
 | .ptr b _ _,hc=>by grind [okV]
 | .mp b,hc=>by grind [okV]
 | .fn _ a c,hc=>by
  simp only[okV,zD] at hc ⊢
  exact⟨HQ h a hc.1,HQ h c hc.2⟩
 | .agg l,hc=>by simp only[okV] at hc ⊢;exact HQ h l hc
 | .Qt l,hc=>by simp only[okV] at hc ⊢;exact HQ h l hc
theorem HQ{u u':zh}(h:∀b,u b=true->u' b=true):∀(l:List V),Mf u l=true->Mf u' l=true
 | [],_=>rfl
 | c :: l,hc=>by
  simp only[Mf,zD] at hc ⊢
  exact⟨F4 h c hc.1,HQ h l hc.2⟩
end
structure D.Ok(d:D):Prop where
 tmp:∀i,okV (ZX d.us) (d.st.t i)=true
 ZQ:∀{b k},d.st.b b=some k->ZX d.us b=true/\∀r,r∈k.rows->∀c,c∈r->okV (ZX d.us) c=true
 sy:ZG d.sy d.st
theorem D.Ok.Wg{s:St}{d:D}(f:F9 s d.st)(hsy:ZG d.sy d.st):d.Ok where
 tmp:=λi=>by
  rcases f.t i with e|⟨e,h⟩
  ·rw[e];rfl
  ·rw[e];exact h
 ZQ:=λ{b k} hk=>by
  rcases f.b b with e|⟨e,h⟩
  ·grind
  ·rw[e] at hk;exact h k hk
 sy:=hsy
theorem N1{α:Type}{l:List (Nat×α)}{i:Nat}{p:Nat×α}(h:l.find? (λx=>x.1==i)=some p):p∈l/\p.1=i:=
 (by grind)
theorem F8{α:Type}{q:zh}{i:Nat}(hq:q i=true):∀l:List (Nat×α),(l.filter λx=>q x.1).find? (λx=>x.1==i)=l.find? (λx=>x.1==i)
 | []=>rfl
 | p :: l=>by
  grind
theorem OF{n:Nat}{ts:List (Nat×V)}{bs:List (Nat×Qi)}{us:List Nat}(i:Nat):(E6 n ts bs us).t i=(match ts.find? (λp=>p.1==i) with|some p=>p.2|none=>.undef):=rfl
theorem Ka{n:Nat}{ts:List (Nat×V)}{bs:List (Nat×Qi)}{us:List Nat}(i:Nat):(E6 n ts bs us).b i=(match bs.find? (λp=>p.1==i) with|some p=>some p.2|none=>none):=rfl
theorem Md{us:List Nat}{b:Nat}(h:1000000<=b):ZX us b=true:=by simp[ZX,Qk,h]
theorem D.Qqf(d:D):d.st.u=ZX d.us:=rfl
theorem D.Ok.yX{d:D}(ht:∀p,p∈d.ts->okV (ZX d.us) p.2=true)(hb:∀p,p∈d.bs->ZX d.us p.1=true/\∀r,r∈p.2.rows->∀c,c∈r->okV (ZX d.us) c=true)(hsy:ZG d.sy d.st):d.Ok where
 tmp:=λi=>by
  unfold D.st
  rw[OF]
  split
  ·grind
  ·rfl
 ZQ:=λ{b k} hk=>by
  unfold D.st at hk
  rw[Ka] at hk
  split at hk
  ·grind
  ·simp at hk
 sy:=hsy
theorem JS:∀(l:List Nat) (x:Nat),x∈dedup l↔x∈l
 | [],x=>by simp[dedup]
 | y :: l,x=>by
  simp only[dedup]
  split
  ·rename_i hc
   rw[JS l x]
   grind
  ·simp only[zO,JS l x]
theorem Jf{p:Y4}{st:St}{t:Nat}(h:¬t∈p.Rm):∀n,(U9 p st n).t t=st.t t
 | 0=>rfl
 | n+1=>by
  simp only[U9]
  rw[NX,Jf h n]
  intro hm
  by_cases hn:n < p.length
  ·refine h (wy.2 ⟨p[n],List.getElem_mem hn,?_⟩)
   grind [List.getElem?_eq_getElem,Y4.ws]
  grind [List.getElem?_eq_none,Y4.ws,eZ]
theorem Jg{p:Y4}{st:St}{b:Nat}(h:¬b∈p.Dx):∀n,(U9 p st n).b b=st.b b
 | 0=>rfl
 | n+1=>by
  simp only[U9]
  rw[Jz,Jg h n]
  intro hm
  by_cases hn:n < p.length
  ·refine h (wy.2 ⟨p[n],List.getElem_mem hn,?_⟩)
   grind [List.getElem?_eq_getElem,Y4.ws]
  grind [List.getElem?_eq_none,Y4.ws,KN]
theorem Fo{p:Y4}{st:St}:∀n,(U9 p st n).n=st.n
 | 0=>rfl
 | n+1=>by simp only[U9,Ob,Fo n]
theorem Hp{kp:List Nat}{d:D}{s:St}{p:Y4}{sy:List Nat}{next:D->C}{X:C}{m:Nat}(h:XM kp d s p sy next=X)(hX:∀j,C.stuck j≠X)(hd:d.Ok)(hs:s=U9 p d.st m)(hsy:ZG sy s) :
  ∃d':D,next d'=X/\d'.Ok/\F9 s d'.st/\d'.n=d.n:=by
 unfold XM at h
 simp only[Mr,Wp] at h
 split at h
 rotate_left
 ·grind
 rename_i hc
 simp only[zD,zG] at hc
 obtain⟨hnt,hnb⟩:=hc
 refine⟨_,h,?_⟩
 have mu:∀b,ZX d.us b=true->ZX (dedup (p.Dx++d.us)) b=true:=λb hb=>by
  simp only[ZX,zU,zZ,zC] at hb ⊢
  grind [JS,List.mem_append_right]
 have nbm:∀x,x∈IT p.Dx s->x.1∈p.Dx/\s.b x.1=some x.2:=(by grind [Option.some.injEq,JS,IT])
 have nbOk:∀x,x∈IT p.Dx s->ZX (dedup (p.Dx++d.us)) x.1=true/\∀r,r∈x.2.rows->∀c,c∈r->okV (ZX (dedup (p.Dx++d.us))) c=true:=λx hx=>by
  obtain⟨h1,h2⟩:=nbm x hx
  refine⟨by simp_all [zU,zZ,zC,JS,wM,ZX],λr hr c hc=>?_⟩
  have:=hnb x hx
  simp only[KE,zU,zZ,zC,zG] at this
  rcases this with h3|h3
  ·exact R9 (hsy x.1 h3 _ h2 r hr c hc) _
  grind
 have F:F9 s (E6 d.n (By kp p.Rm s++d.ts.filter λx=>!p.Rm.contains x.1) (IT p.Dx s++d.bs.filter λx=>!p.Dx.contains x.1) (dedup (p.Dx++d.us))):=by
  refine⟨?_,λi=>?_,λb=>?_,λb hb=>Md (Uw hb)⟩
  ·rw[hs,Fo];rfl
  ·rw[OF,List.find?_append]
   cases hf:(By kp p.Rm s).find? (λp=>p.1==i) with
   | some x=>
    obtain⟨h1,h2⟩:=N1 hf
    have hx:=hnt x h1
    unfold By at h1
    obtain⟨j,_,rfl⟩:=zH.1 h1
    simp only at h2;subst h2
    exact .inr ⟨rfl,hx⟩
   | none=>
    simp only[Option.none_or]
    cases hw:p.Rm.contains i with
    | true=>grind
    | false=>
     rw[F8 (q:=λj=>!p.Rm.contains j) (by simp only[hw,Bool.not_false])]
     have e:s.t i=d.st.t i:=by grind [Jf]
     refine .inr ⟨by rw[e];rfl,?_⟩
     rw[e]
     exact F4 mu _ (hd.tmp i)
  ·rw[Ka,List.find?_append]
   cases hf:(IT p.Dx s).find? (λp=>p.1==b) with
   | some x=>
    obtain⟨h1,h2⟩:=N1 hf
    obtain⟨_,h4⟩:=nbm x h1
    have h5:=nbOk x h1
    rw[h2] at h4 h5
    refine .inr ⟨by grind,λk hk=>?_⟩
    rw[h4] at hk
    simp only[zy] at hk
    subst hk;exact h5
   | none=>
    simp only[Option.none_or]
    cases hw:p.Dx.contains b with
    | true=>grind
    | false=>
     rw[F8 (q:=λj=>!p.Dx.contains j) (by simp only[hw,Bool.not_false])]
     have e:s.b b=d.st.b b:=by grind [Jg]
     refine .inr ⟨by rw[e];rfl,λk hk=>?_⟩
     rw[e] at hk
     obtain⟨h1,h2⟩:=hd.ZQ hk
     exact⟨mu b h1,λr hr c hc=>F4 mu c (h2 r hr c hc)⟩
 refine⟨D.Ok.Wg F λb hb k hk=>?_,F,rfl⟩
 rcases F.b b with e|⟨e,_⟩
 ·have:(none:Option Qi)=some k:=e.symm.trans hk
  simp at this
 ·exact hsy b hb k (e.symm.trans hk)
end Go.EV
namespace Go.EV
open Go
theorem At{α β:Type}(f:Nat->Nat)(h:Nat×α->β)(c c':Nat):∀(l:List (Nat×α)),(∀p,p∈l->(f p.1=c↔p.1=c'))->(l.map λp=>(f p.1,h p)).find? (λx=>x.1==c)=(l.find? λx=>x.1==c').map λp=>(f p.1,h p)
 | [],_=>rfl
 | p :: l,hp=>by
  have ih:=At f h c c' l (by grind)
  grind
theorem V6{α β:Type}(h:Nat×α->β)(c:Nat)(l:List (Nat×α)):(l.map λp=>(p.1,h p)).find? (λx=>x.1==c)=(l.find? λx=>x.1==c).map λp=>(p.1,h p):=
 At (λx=>x) h c c l λ_ _=>Iff.rfl
theorem D.Ke(d:D)(b:Nat):d.st.b b=(match d.bs.find? (λp=>p.1==b) with|some p=>some p.2|none=>none):=rfl
theorem D.Qk2(d:D)(b:Nat):d.st.t b=(match d.ts.find? (λp=>p.1==b) with|some p=>p.2|none=>.undef):=rfl
theorem JM{b:Nat}{us:List Nat}(c:Nat):ZX (b :: us) c=if c=b then true else ZX us c:=by
 grind [ZX]
mutual
theorem Ld{u u':zh}{f:Nat->Nat}(h:∀b,u b=true->u' (f b)=true):∀c:V,okV u c=true->okV u' (H8 f c)=true
 | .int _ _,_=>rfl
 | .bool _,_=>rfl
 | .str _,_=>rfl
 | .Zf,_=>rfl
 | .Zd,_=>rfl
 | .QP _,_=>rfl
 | .Qj,_=>rfl
 | .Zw _,_=>rfl
 | .sl _ _ _,_=>rfl
 | .snap _,_=>rfl
 | .undef,_=>rfl
 | .ref b _ _,hc=>by grind [H8,okV]
 | .ptr b _ _,hc=>by grind [H8,okV]
 | .mp b,hc=>by grind [H8,okV]
 | .fn _ a c,hc=>by
  simp only[H8,okV,zD] at hc ⊢
  exact⟨Mo h a hc.1,Mo h c hc.2⟩
 | .agg l,hc=>by simp only[H8,okV] at hc ⊢;exact Mo h l hc
 | .Qt l,hc=>by simp only[H8,okV] at hc ⊢;exact Mo h l hc
theorem Mo{u u':zh}{f:Nat->Nat}(h:∀b,u b=true->u' (f b)=true):∀l:List V,Mf u l=true->Mf u' (N4 f l)=true
 | [],_=>rfl
 | c :: l,hc=>by
  simp only[N4,Mf,zD] at hc ⊢
  exact⟨Ld h c hc.1,Mo h l hc.2⟩
end
theorem Ml{u:zh}:∀{l:List V},Mf u l=true↔∀c,c∈l->okV u c=true
 | []=>by simp[Mf]
 | c :: l=>by simp[Mf,Ml (l:=l)]
theorem VC{G:ze}{d:D}{a b:Nat}{next:D->C}{X:C}(h:NC (.Qc a b) d next=X)(hX:∀j,C.stuck j≠X)(hd:d.Ok):∃d':D,next d'=X/\d'.Ok/\QH G d.st d'.st/\d'.n=d.n:=by
 simp only[NC] at h
 split at h
 rotate_left
 ·grind
 rename_i hub hab
 simp only[wQ,ne_eq] at hab
 simp only[Mr,Wp] at h
 refine⟨_,h,?_⟩
 have hno:∀p,p∈d.bs->p.1≠b:=λp hp e=>by
  cases hf:d.bs.find? (λx=>x.1==b) with
  | none=>grind
  | some q=>
   have:=(hd.ZQ (b:=b) (k:=q.2) (by rw[D.Ke,hf])).1
   grind
 have hdata:∀p,d.bs.find? (λx=>x.1==p.1)=some p->p.1∈d.sy->J8 p.2.rows:=λp hp hs=>hd.sy p.1 hs p.2 (by rw[D.Ke,hp])
 have fb:∀p,p∈d.bs->(K4 a b p.1=b↔p.1=a):=(by grind [K4,absurd])
 have key:∀c c',(∀p,p∈d.bs->(K4 a b p.1=c↔p.1=c'))->(match (d.bs.map λp=>(K4 a b p.1,Mh d.sy p.1 (K4 a b) p.2)).find? (λx=>x.1==c) with|some p=>some p.2|none=>none)=(d.st.b c').map (Qi.Qc (K4 a b)):=λc c' hc=>by
  rw[At (K4 a b) (λp=>Mh d.sy p.1 (K4 a b) p.2) c c' d.bs hc,D.Ke]
  cases hf:d.bs.find? (λx=>x.1==c') with
  | none=>rfl
  | some p=>
   simp only[ww]
   rw[We (by grind)]
 have e:(D.st ⟨d.n,d.ts.map λp=>(p.1,H8 (K4 a b) p.2),d.bs.map λp=>(K4 a b p.1,Mh d.sy p.1 (K4 a b) p.2),b :: d.us,(d.sy.filter λx=>!(x==b)).map (K4 a b)⟩)=d.st.ZU a b:=by
  unfold D.st St.ZU
  simp only[E6,St.mk.injEq,true_and]
  refine⟨funext λi=>?_,funext λc=>?_,funext λc=>?_⟩
  ·rw[V6 (λp=>H8 (K4 a b) p.2)]
   cases d.ts.find? (λx=>x.1==i)<;>rfl
  ·by_cases hcb:c=b
   ·subst hcb
    rw[if_pos rfl]
    exact key c a fb
   ·rw[if_neg hcb]
    by_cases hca:c=a
    ·subst hca
     rw[if_pos rfl]
     have:(d.bs.map λp=>(K4 c b p.1,Mh d.sy p.1 (K4 c b) p.2)).find? (λx=>x.1==c)=none:=List.find?_eq_none.2 λx hx hxe=>by
      obtain⟨p,hp,rfl⟩:=zH.1 hx
      simp only[K4,beq_iff_eq] at hxe
      grind
     rw[this]
    ·rw[if_neg hca]
     refine key c c λp hp=>?_
     unfold K4
     grind
  grind
 have mu:∀c,ZX d.us c=true->ZX (b :: d.us) (K4 a b c)=true:=(by grind [JM,K4,ZX])
 refine⟨⟨λi=>?_,λ{c k} hk=>?_,?_⟩,?_,rfl⟩
 ·rw[e];exact Ld mu _ (hd.tmp i)
 ·rw[e] at hk
  simp only[St.ZU] at hk
  have go:∀y k0,d.st.b y=some k0->ZX (b :: d.us) (K4 a b y)=true/\∀r,r∈(k0.Qc (K4 a b)).rows->∀c,c∈r->okV (ZX (b :: d.us)) c=true:=λy k0 h0=>by
   obtain⟨h1,h2⟩:=hd.ZQ h0
   refine⟨mu _ h1,λr hr c hc=>?_⟩
   simp only[Qi.Qc] at hr
   obtain⟨r0,hr0,rfl⟩:=zH.1 hr
   rw[Wm] at hc
   obtain⟨c0,hc0,rfl⟩:=zH.1 hc
   grind [Ld]
  by_cases hcb:c=b
  ·subst hcb
   rw[if_pos rfl] at hk
   obtain⟨k0,h1,rfl⟩:=zE.1 hk
   grind [K4]
  ·rw[if_neg hcb] at hk
   split at hk
   ·simp at hk
   ·rename_i hca
    obtain⟨k0,h1,rfl⟩:=zE.1 hk
    grind [K4]
 ·rw[e]
  intro x hx k hk
  obtain⟨y,hy,rfl⟩:=zH.1 hx
  obtain⟨hy1,hy2⟩:=List.mem_filter.1 hy
  simp only[wc,wQ,ne_eq] at hy2
  have src:∃k0,d.st.b y=some k0/\k=k0.Qc (K4 a b):=by
   simp only[St.ZU] at hk
   by_cases hya:y=a
   ·subst hya
    have e2:K4 y b y=b:=by simp[K4]
    rw[e2,if_pos rfl] at hk
    grind [Option.map_eq_some_iff]
   ·have e2:K4 a b y=y:=by simp[K4,hya]
    rw[e2,if_neg hy2,if_neg hya] at hk
    grind [Option.map_eq_some_iff]
  obtain⟨k0,h1,rfl⟩:=src
  have:=hd.sy y hy1 k0 h1
  rw[this.Qc];exact this
 ·rw[e]
  exact QH.ZU hab hub
theorem Th{G:ze}{d:D}{l:List Nat}{next:D->C}{X:C}(h:NC (.drop l) d next=X)(hX:∀j,C.stuck j≠X)(hd:d.Ok):∃d':D,next d'=X/\d'.Ok/\QH G d.st d'.st/\d'.n=d.n:=by
 simp only[NC] at h
 split at h
 rotate_left
 ·grind
 rename_i hall
 simp only[zG,zD] at hall
 refine⟨_,h,?_⟩
 have hG:∀p,p∈d.bs.filter (λp=>!l.contains p.1)->d.bs.find? (λx=>x.1==p.1)=some p->∀r,r∈p.2.rows->∀c,c∈r->okV (ZX (d.us.filter λb=>!l.contains b)) c=true:=λp hp hf r hr c hc=>by
  have:=(hall p hp).2
  simp only[KE,zU,zZ,zC,zG] at this
  rcases this with h1|h1
  ·exact R9 (hd.sy p.1 h1 p.2 (by rw[D.Ke,hf]) r hr c hc) _
  grind
 have F:F9 d.st (E6 d.n (d.ts.filter λp=>okV (ZX (d.us.filter λb=>!l.contains b)) (d.st.t p.1)) (d.bs.filter λp=>!l.contains p.1) (d.us.filter λb=>!l.contains b)):=by
  refine⟨rfl,λi=>?_,λb=>?_,λb hb=>Md (Uw hb)⟩
  ·rw[OF]
   cases hq:okV (ZX (d.us.filter λb=>!l.contains b)) (d.st.t i) with
   | false=>grind
   | true=>
    rw[F8 (q:=λj=>okV (ZX (d.us.filter λb=>!l.contains b)) (d.st.t j)) hq]
    exact .inr ⟨rfl,hq⟩
  ·rw[Ka]
   cases hq:(!l.contains b) with
   | false=>grind
   | true=>
    rw[F8 (q:=λj=>!l.contains j) hq]
    refine .inr ⟨rfl,λk hk=>?_⟩
    rw[D.Ke] at hk
    split at hk
    ·rename_i p hp
     simp only[zy] at hk
     subst hk
     obtain⟨h1,rfl⟩:=N1 hp
     have hm:p∈d.bs.filter λp=>!l.contains p.1:=(by grind)
     exact⟨(hall p hm).1,hG p hm hp⟩
    ·simp at hk
 refine⟨D.Ok.Wg F λb hb k hk=>?_,QH.forget F,rfl⟩
 rcases F.b b with e|⟨e,_⟩
 ·have:(none:Option Qi)=some k:=e.symm.trans hk
  simp at this
 ·exact hd.sy b hb k (e.symm.trans hk)
theorem WO{f:V->Option V}{g:V->V}:∀{l r:List V},K8 f l=some r->(∀c,c∈l->f c=some (g c))->r=l.map g
 | [],r,h,_=>by grind [K8]
 | c :: l,r,h,hg=>by
  simp only[K8,hg c (by simp)] at h
  split at h
  ·rename_i y r' h1 h2
   simp only[zy] at h h1
   subst h1 h
   rw[WO h2 λc hc=>hg c (by simp[hc])];rfl
  ·simp at h
theorem XA{look:zg}{c:V}(h:H4 c=true):I8 (E8 look 1 c)=some c.strip:=by
 cases c<;>simp_all [H4,E8,I8,V.strip]
 obtain⟨rfl,rfl⟩:=h
 simp[K8]
theorem Ty.Qev{α:Type}(t:Ty α)(x:α):t.d x=(t.c x).map V.strip:=
 WO (t.vw (λ_=>none) x) λc hc=>XA (zG.1 (t.cd x) c hc)
theorem K3.strip{Qp:Nat->Nat}{w:World}{c:V}{v:Value}(h:K3 Qp w c v):K3 Qp w c.strip v:=by
 cases c<;>try exact h
 exact h.oG
theorem Ty.Qku{α:Type}(t:Ty α){Qp:Nat->Nat}{w:World}{o:Bool}{z:Nat}{l:List α}{v:Value}(h:K3 Qp w (.sl o z (l.map t.c)) v):K3 Qp w (.sl false z (l.map t.d)) v:=by
 have e:l.map t.d=(l.map t.c).map (·.map V.strip):=by
  rw[wJ];exact wn λx _=>t.Qev x
 have hlen:(l.map t.d).length=(l.map t.c).length:=by simp
 generalize hg:l.map t.c=rows at h e hlen
 cases h with
 | sl _ _ _ B o cap vs h1 h2 h3 h4=>
  have:=K3.sl (Qp:=Qp) (w:=w) false z (l.map t.d) B o cap vs (by grind) (by grind) (by grind) (λi c hc=>by
    rw[e,S9,zX,zE] at hc
    obtain⟨c0,k1,rfl⟩:=hc
    exact(h4 i c0 k1).strip)
  grind
 | Zc _ _ a=>
  rw[e];exact .Zc false z a
theorem Gy{st:St}{b:Nat}{k:Qi}{α:Type}{t:Ty α}{l:List α}:∀(n:Nat) (c:V),(∀e,e∈DI b k.rows n c->k.rows.take e.2.2=l.map t.c)->EX st b k (AP b k.size (l.map t.d) n) c
 | 0,c,_=>λγ γ' w bs' u' h1 h2 map v hr=>by
  show Qu γ' w bs' u' .undef v
  exact .undef v
 | n+1,c,he=>λγ γ' w bs' u' h1 h2 map v hr=>by
  have ih:=Gy (st:=st) (b:=b) (k:=k) (t:=t) (l:=l) n
  have sub:∀(cs:List V),(∀e,e∈cs.flatMap (DI b k.rows n)->k.rows.take e.2.2=l.map t.c)->∀(vs:List Value),vs.length=cs.length->(∀(i:Nat) (c:V) (v:Value),cs[i]?=some c->vs[i]?=some v->Qu γ w st.b st.u c v)->
    ∀(i:Nat) (c:V) (v:Value),(cs.map (AP b k.size (l.map t.d) n))[i]?=some c->vs[i]?=some v->Qu γ' w bs' u' c v:=λcs hcs vs hl hv i c v hc hx=>by
   rw[zX,zE] at hc
   obtain⟨c0,k1,rfl⟩:=hc
   exact ih c0 (λe hee=>(by grind)) γ γ' w bs' u' h1 h2 map v (hv i c0 v k1 hx)
  cases c<;>simp only[AP]
  case ref b' off len=>
   split
   ·rename_i hb
    have hb':b'=b:=by simpa using hb
    subst hb'
    split
    ·have hl:k.rows.take len=l.map t.c:=he (b',k.rows,len) (by simp[DI])
     have:=map (.ref b' 0 len) v hr
     simp only[lZ,if_true,List.drop_zero] at this
     rw[hl] at this
     cases this with
     | data h=>exact .data (t.Qku h)
    ·
     cases hr with
     | data h=>cases h
     | ref=>exact .Qb _ _ _ _ h1 h2 rfl
     | Jk=>exact .Qb _ _ _ _ h1 h2 rfl
     | YW=>exact .Qb _ _ _ _ h1 h2 rfl
     | Qb _ _ _ _ _ _ h3=>exact .Qb _ _ _ _ h1 h2 h3
   ·rename_i hb
    have:=map (.ref b' off len) v hr
    simp_all [if_neg,lZ]
  case fn f x y=>
   obtain⟨fs,cs,rfl,l1,l2,p1,p2⟩:=hr.HE
   simp only[DI] at he
   exact .fn f _ _ fs cs (by simpa using l1) (by simpa using l2) (sub x (λe hee=>(by grind)) fs l1 p1) (sub y (λe hee=>(by grind)) cs l2 p2)
  case agg cs=>
   obtain⟨vs,rfl,l1,p1⟩:=hr.QX
   exact .agg _ vs (by simpa using l1) (sub cs he vs l1 p1)
  case Qt cs=>
   obtain⟨vs,rfl,l1,p1⟩:=hr.KS
   exact .Qt _ vs (by simpa using l1) (sub cs he vs l1 p1)
  all_goals exact map _ v hr
theorem Ej{b z:Nat}{rows:List (List V)}{n:Nat}{c:V}(h:H4 c=true):AP b z rows (n+1) c=c:=by
 cases c<;>simp_all [H4,AP]
theorem eF(b z:Nat)(rows:List (List V)):∀(n:Nat) (c:V),(AP b z rows n c).QN=true->AP b z rows n c=c
 | 0,c,h=>by simp[AP,V.QN] at h
 | n+1,c,h=>by
  cases c<;>simp only[AP] at h ⊢
  all_goals first|(simp[V.QN] at h;done)|skip
  grind [V.QN]
theorem OB{u u':zh}(h:∀b,u b=true->u' b=true)(b z:Nat)(rows:List (List V)):∀(n:Nat) (c:V),okV u c=true->okV u' (AP b z rows n c)=true
 | 0,c,_=>rfl
 | n+1,c,hc=>by
  have ih:=OB h b z rows n
  have lst:∀l:List V,Mf u l=true->Mf u' (l.map (AP b z rows n))=true:=λl hl=>Ml.2 λc hc=>by
   obtain⟨c0,h0,rfl⟩:=zH.1 hc
   grind [Ml]
  cases c<;>simp only[AP,okV,zD] at hc ⊢
  case ref b' off len=>
   split
   ·split
    ·rfl
    ·exact h _ hc
   ·exact h _ hc
  case ptr=>exact h _ hc
  case mp=>exact h _ hc
  case fn f x y=>grind
  case agg l=>exact lst l hc
  grind
theorem RZ{G:ze}{d:D}{v:QE}{vn:Nat}{next:D->C}{X:C}(h:NC (.share v vn) d next=X)(hX:∀j,C.stuck j≠X)(he:cS (.share v vn) d=List.replicate (vn+1) v.iN)(hd:d.Ok) :
  ∃d':D,next d'=X/\d'.Ok/\QH G d.st d'.st/\d'.n=d.n:=by
 simp only[NC] at h
 split at h
 rotate_left
 ·grind
 rename_i k hk
 split at h
 rotate_left
 ·grind
 rename_i hdat
 simp only[Mr,Wp] at h
 refine⟨_,h,?_⟩
 simp only[cS,hk] at he
 have hdata:J8 k.rows:=by
  simp only[zU,zZ,zC,zG] at hdat
  rcases hdat with h1|h1
  ·exact hd.sy v.b h1 k hk
  ·exact λr hr c hc=>h1 r hr c hc
 let g:=AP v.b k.size (v.l.map v.ty.d) 6
 have rowsE:∀(n:Nat) (c:V) (e:Nat×List (List V)×Nat),e∈DI v.b k.rows n c->e.2.1=k.rows:=by
  intro n
  induction n with
  | zero=>grind [DI]
  | succ n ih=>
   intro c e h
   have fl:∀l:List V,e∈l.flatMap (DI v.b k.rows n)->e.2.1=k.rows:=(by grind)
   cases c<;>simp only[DI,zT] at h
   case ref b' off len=>
    grind
   case fn f x y=>
    grind
   case agg l=>exact fl _ h
   grind
 let E:=(d.ts.flatMap λp=>DI v.b k.rows 6 p.2)++d.bs.flatMap λp=>match p.1==v.b || d.sy.contains p.1 with
   | true=>[]
   | false=>p.2.rows.flatMap λr=>r.flatMap (DI v.b k.rows 6)
 have hE:E=List.replicate (vn+1) v.iN:=he
 have allRows:∀e,e∈E->e.2.1=k.rows:=λe hm=>by
  rcases wa.1 hm with hm|hm
  ·grind
  ·obtain⟨p,_,hx⟩:=wy.1 hm
   split at hx
   ·simp at hx
   ·obtain⟨r,_,hx⟩:=wy.1 hx
    obtain⟨c,_,hx⟩:=wy.1 hx
    grind
 have hlens:∀e,e∈E->k.rows.take e.2.2=v.l.map v.ty.c:=λe hm=>by
  have h1:=allRows e hm
  rw[hE] at hm
  obtain rfl:=(List.mem_replicate.1 hm).2
  rw[<-h1];exact v.h
 have good:∀c,(∀e,e∈DI v.b k.rows 6 c->e∈E)->EX d.st v.b k g c:=(by grind [Gy])
 have goodData:∀c,H4 c=true->EX d.st v.b k g c:=λc hc γ γ' w bs' u' h1 h2 map x hr=>by
  show Qu γ' w bs' u' (AP v.b k.size (v.l.map v.ty.d) (5+1) c) x
  rw[Ej hc]
  have:=map c x hr
  cases c<;>first|exact this|simp[H4] at hc
 have e:(D.st ⟨d.n,d.ts.map (λp=>(p.1,AP v.b k.size (v.l.map v.ty.d) 6 p.2)),OR d v k,v.b :: d.us,d.sy⟩)=d.st.shr v.b g:=by
  unfold D.st St.shr
  simp only[E6,St.mk.injEq,true_and]
  refine⟨funext λi=>?_,funext λc=>?_,funext λc=>JM c⟩
  ·rw[V6 (λp=>AP v.b k.size (v.l.map v.ty.d) 6 p.2)]
   cases d.ts.find? (λx=>x.1==i)<;>rfl
  ·unfold OR
   rw[V6]
   by_cases hc:c=v.b
   ·grind
   ·rw[if_neg hc,F8 (q:=λj=>!(j==v.b)) (by simpa using hc)]
    cases hf:d.bs.find? (λx=>x.1==c) with
    | none=>rfl
    | some p=>
     simp only[ww,zy]
     split
     ·rename_i hs
      have hdr:J8 p.2.rows:=hd.sy p.1 (by simpa using hs) p.2 (by rw[D.Ke,(N1 hf).2,hf])
      have:p.2.rows.map (·.map g)=p.2.rows:=by
       conv=>rhs;rw[<-List.map_id p.2.rows]
       refine wn λr hr=>?_
       show r.map g=r
       conv=>rhs;rw[<-List.map_id r]
       exact wn λc hc=>Ej (hdr r hr c hc)
      simp_all
     ·rfl
 have gs:=QH.shr (G:=G) (st:=d.st) hk hdata (g:=g) (λi=>by
   rw[D.Qk2]
   split
   ·grind
   ·exact λγ γ' w bs' u' _ _ _ v _=>.undef v)
  (λx q hx hq r hr c hc=>by
   rw[D.Ke] at hq
   split at hq
   ·rename_i p hp
    simp only[zy] at hq
    subst hq
    obtain⟨hp1,rfl⟩:=N1 hp
    cases hs:d.sy.contains p.1 with
    | true=>exact goodData c (hd.sy p.1 (by simpa using hs) p.2 (by rw[D.Ke,hp]) r hr c hc)
    | false=>
     refine good c λe hm=>List.mem_append_right _ (wy.2 ⟨p,hp1,?_⟩)
     grind
   ·simp at hq) (eF _ _ _ 6)
 have mu:∀c,ZX d.us c=true->ZX (v.b :: d.us) c=true:=(by grind [JM])
 refine⟨⟨λi=>?_,λ{c q} hq=>?_,λx hx q hq=>?_⟩,by grind,rfl⟩
 ·rw[e];exact OB mu _ _ _ 6 _ (hd.tmp i)
 ·rw[e] at hq
  simp only[St.shr] at hq
  split at hq
  ·simp at hq
  obtain⟨q0,h0,rfl⟩:=zE.1 hq
  obtain⟨h1,h2⟩:=hd.ZQ h0
  refine⟨mu _ h1,λr hr c hc=>?_⟩
  obtain⟨r0,hr0,rfl⟩:=zH.1 hr
  obtain⟨c0,hc0,rfl⟩:=zH.1 hc
  grind [OB]
 ·rw[e] at hq
  simp only[St.shr] at hq
  split at hq
  ·simp at hq
  obtain⟨q0,h0,rfl⟩:=zE.1 hq
  have hdr:=hd.sy x hx q0 h0
  intro r hr c hc
  obtain⟨r0,hr0,rfl⟩:=zH.1 hr
  obtain⟨c0,hc0,rfl⟩:=zH.1 hc
  have:=hdr r0 hr0 c0 hc0
  grind [Ej]
theorem Ra{G:ze}{d:D}{b x j size:Nat}{next:D->C}{X:C}(h:NC (.IJ b x j size) d next=X)(hX:∀j,C.stuck j≠X)(hd:d.Ok):∃d':D,next d'=X/\d'.Ok/\QH G d.st d'.st/\d'.n=d.n:=by
 simp only[NC] at h
 split at h
 rotate_left
 ·grind
 rename_i k hk hub hsy
 simp only[Bool.or_eq_false_iff,Bool.not_eq_false',zC] at hub
 obtain⟨hub,hM⟩:=hub
 split at h
 rotate_left
 ·grind
 rename_i r rs hrows
 split at h
 rotate_left
 ·grind
 rename_i hcell
 refine⟨_,h,?_⟩
 have hxb:x≠b:=λe=>by subst e;have:=(hd.ZQ hk).1;grind
 have hsx:¬x∈d.sy:=by grind
 let d':D:={ d with bs:=(b,⟨size,true,[]⟩) :: (x,setCell k j (.ref b 0 0)) :: d.bs.filter (λp=>!(p.1==x)),us:=b :: d.us }
 have bb:d'.st.b b=some ⟨size,true,[]⟩:=by simp[D.Ke,d']
 have bx:d'.st.b x=some (setCell k j (.ref b 0 0)):=by
  grind [D.Ke,List.find?_cons_of_neg,List.find?_cons_of_pos]
 have bo:∀c,c≠b->c≠x->d'.st.b c=d.st.b c:=λc h1 h2=>by
  rw[D.Ke,D.Ke]
  simp only[d']
  rw[List.find?_cons_of_neg (by simpa using λe=>h1 e.symm),List.find?_cons_of_neg (by simpa using λe=>h2 e.symm),F8 (q:=λj=>!(j==x)) (by simpa using h2)]
 have hbn:d.st.b b=none:=by
  cases hb:d.st.b b with
  | none=>rfl
  | some q=>have:=(hd.ZQ hb).1;grind
 have hset:(setCell k j (.ref b 0 0)).rows=r.set j (.ref b 0 0) :: rs:=by simp[setCell,hrows]
 have mu:∀c,ZX d.us c=true->ZX (b :: d.us) c=true:=(by grind [JM])
 have g2:QH G (d.st.Qh b ⟨size,true,[]⟩) d'.st:=by
  refine QH.cells rfl (funext λc=>?_) (λi=>Wk.refl _) λc=>?_
  ·exact JM c
  ·by_cases hcb:c=b
   ·subst hcb
    refine .inr ⟨⟨size,true,[]⟩,⟨size,true,[]⟩,by simp[St.Qh],bb,rfl,rfl,rfl,λi r' h=>by simp at h⟩
   ·by_cases hcx:c=x
    ·subst hcx
     refine .inr ⟨k,setCell k j (.ref b 0 0),by simp[St.Qh,hcb,hk],bx,rfl,rfl,by grind,λi r' hr'=>?_⟩
     rw[hset] at hr'
     rw[hrows]
     cases i with
     | zero=>
      simp only[wU,zy] at hr'
      subst hr'
      refine⟨r,rfl,by simp,λq c' hc'=>?_⟩
      by_cases hq:q=j
      ·subst hq
       have hlt:q < r.length:=(by grind)
       rw[List.getElem?_set_self hlt] at hc'
       simp only[zy] at hc'
       subst hc'
       refine⟨.Qj,hcell,λγ w v hv=>?_,(by grind)⟩
       have:=hv.QI;subst this
       exact .YW b 0 ⟨size,true,[]⟩ bb hM rfl
      ·rw[List.getElem?_set_ne (λe=>hq e.symm)] at hc'
       exact⟨c',hc',Wk.refl _,λ_=>.inl rfl⟩
     | succ i=>
      simp only[List.getElem?_cons_succ] at hr'
      exact⟨r',by simpa using hr',rfl,λq c' hc'=>⟨c',hc',Wk.refl _,λ_=>.inl rfl⟩⟩
    ·cases hc:d.st.b c with
     | none=>grind [St.Qh]
     | some q=>
      exact .inr ⟨q,q,by simp[St.Qh,hcb,hc],by rw[bo c hcb hcx,hc],rfl,rfl,rfl,λi r' hr'=>⟨r',hr',rfl,λp c' hc'=>⟨c',hc',Wk.refl _,λ_=>.inl rfl⟩⟩⟩
 refine⟨⟨λi=>F4 mu _ (hd.tmp i),λ{c q} hq=>?_,λc hc q hq=>?_⟩,(QH.Qd4 size hub).trans g2,rfl⟩
 ·have hq':d'.st.b c=some q:=hq
  by_cases hcb:c=b
  ·subst hcb
   rw[bb] at hq';simp only[zy] at hq';subst hq'
   exact⟨by simp[ZX],λr hr=>by simp at hr⟩
  ·by_cases hcx:c=x
   ·subst hcx
    rw[bx] at hq';simp only[zy] at hq';subst hq'
    obtain⟨h1,h2⟩:=hd.ZQ hk
    refine⟨mu _ h1,λr' hr' c' hc'=>?_⟩
    rw[hset] at hr'
    simp only[zO] at hr'
    rcases hr' with rfl|hr'
    ·rcases List.mem_or_eq_of_mem_set hc' with hc'|rfl
     ·exact F4 mu _ (h2 r (by simp[hrows]) c' hc')
     ·simp[okV,ZX]
    ·exact F4 mu _ (h2 r' (by simp[hrows,hr']) c' hc')
   ·rw[bo c hcb hcx] at hq'
    obtain⟨h1,h2⟩:=hd.ZQ hq'
    exact⟨mu _ h1,λr hr c hc=>F4 mu _ (h2 r hr c hc)⟩
 ·have hq':d'.st.b c=some q:=hq
  by_cases hcb:c=b
  ·subst hcb
   rw[bb] at hq';simp only[zy] at hq';subst hq'
   intro r hr;simp at hr
  ·have hcx:c≠x:=λe=>hsx (e▸hc)
   rw[bo c hcb hcx] at hq'
   exact hd.sy c hc q hq'
theorem Bp{u:zh}:∀(n:Nat) (e c:V),okV u c=true->okV u (D8 n e c)=true
 | 0,_,_,h=>h
 | n+1,e,c,h=>by
  have lst:∀(es cs:List V),Mf u cs=true->Mf u (V9 (D8 n) es cs)=true:=by
   intro es cs
   induction cs generalizing es with
   | nil=>intro h;cases es<;>exact h
   | cons c cs ih=>
    intro h
    cases es with
    | nil=>exact h
    | cons e es=>
     simp only[V9,Mf,zD] at h ⊢
     exact⟨Bp n e c h.1,ih es h.2⟩
  cases c<;>simp only[D8]<;>try exact h
  case Qj=>split<;>rfl
  case sl=>split<;>rfl
  case agg cs=>
   grind [okV]
  grind [okV]
theorem Bs{u:zh}:∀(es cs:List (List V)),(∀r,r∈cs->∀c,c∈r->okV u c=true)->∀r,r∈UR es cs->∀c,c∈r->okV u c=true
 | [],cs,h=>by cases cs<;>exact h
 | _ :: _,[],_=>(by grind [UR])
 | e :: es,c :: cs,h=>λr hr x hx=>by
  simp only[UR,zO] at hr
  rcases hr with rfl|hr
  ·obtain⟨i,hi⟩:=List.getElem?_of_mem hx
   obtain⟨y,h1,h2⟩:=YY _ _ _ _ _ hi
   have hy:=h c (by simp) y (zQ h1)
   rcases h2 with rfl|⟨e',rfl⟩
   ·exact hy
   grind [Bp]
  ·exact Bs es cs (by grind) r hr x hx
theorem BG{G:ze}{d:D}{b:Nat}{es:List (List V)}{next:D->C}{X:C}(h:NC (.tell b es) d next=X)(hX:∀j,C.stuck j≠X)(hd:d.Ok):∃d':D,next d'=X/\d'.Ok/\QH G d.st d'.st/\d'.n=d.n:=by
 simp only[NC] at h
 split at h
 rotate_left
 ·grind
 rename_i k hk hsy
 simp only[Wp] at h
 have hsb:¬b∈d.sy:=by grind
 let d':D:={ d with bs:=(b,⟨k.size,k.Qn,UR es k.rows⟩) :: d.bs.filter (λp=>!(p.1==b)) }
 have bb:d'.st.b b=some ⟨k.size,k.Qn,UR es k.rows⟩:=by simp[D.Ke,d']
 have bo:∀c,c≠b->d'.st.b c=d.st.b c:=λc h1=>by
  rw[D.Ke,D.Ke]
  grind
 refine⟨d',h,⟨λi=>hd.tmp i,λ{c q} hq=>?_,λc hc q hq=>?_⟩,QH.cells rfl rfl (λi=>Wk.refl _) λc=>?_,rfl⟩
 ·by_cases hcb:c=b
  ·subst hcb
   rw[bb] at hq;simp only[zy] at hq;subst hq
   obtain⟨h1,h2⟩:=hd.ZQ hk
   grind [Bs]
  ·rw[bo c hcb] at hq
   exact hd.ZQ hq
 ·have hcb:c≠b:=λe=>hsb (e▸hc)
  rw[bo c hcb] at hq
  exact hd.sy c hc q hq
 ·by_cases hcb:c=b
  ·subst hcb
   exact .inr ⟨k,_,hk,bb,rfl,rfl,HN _ _⟩
  ·cases hc:d.st.b c with
   | none=>grind
   | some q=>exact .inr ⟨q,q,rfl,by grind,rfl,rfl,W9.same (λc=>AR.same c) _⟩
theorem BO{G:ze}{d:D}{b t size:Nat}{next:D->C}{X:C}(h:NC (.Xk b t size) d next=X)(hX:∀j,C.stuck j≠X)(hd:d.Ok):∃d':D,next d'=X/\d'.Ok/\QH G d.st d'.st/\d'.n=d.n:=by
 simp only[NC] at h
 split at h
 rotate_left
 ·grind
 rename_i ht hu
 simp only[Bool.or_eq_false_iff,Bool.not_eq_false',zC] at hu
 obtain⟨hu,hM⟩:=hu
 have mu:∀c,ZX d.us c=true->ZX (b :: d.us) c=true:=(by grind [JM])
 have e:(D.st { d with ts:=(t,.ref b 0 0) :: d.ts.filter (λx=>!(x.1==t)),bs:=(b,⟨size,true,[]⟩) :: d.bs,us:=b :: d.us })=(d.st.Qh b ⟨size,true,[]⟩).QG t (.ref b 0 0):=by
  unfold D.st St.Qh St.QG
  simp only[E6,St.mk.injEq,true_and]
  grind
 refine⟨_,h,⟨λi=>?_,λ{c q} hq=>?_,λc hc q hq=>?_⟩,by rw[e];exact QH.oL size hM hu ht,rfl⟩
 ·rw[e]
  show okV _ (if i=t then _ else d.st.t i)=true
  split
  ·simp[okV,ZX]
  ·exact F4 mu _ (hd.tmp i)
 ·rw[e] at hq
  have hq':(if c=b then some (⟨size,true,[]⟩:Qi) else d.st.b c)=some q:=hq
  split at hq'
  ·grind [Option.some.injEq,ZX]
  ·obtain⟨h1,h2⟩:=hd.ZQ hq'
   grind [F4]
 ·rw[e] at hq
  have hq':(if c=b then some (⟨size,true,[]⟩:Qi) else d.st.b c)=some q:=hq
  split at hq'
  ·simp only[zy] at hq'
   subst hq'
   intro r hr;simp at hr
  ·exact hd.sy c hc q hq'
theorem R6{α:Type}{f:α->α}{l:List α}(h:∀x,x∈l->f x=x):l.map f=l:=by
 have:l.map f=l.map id:=wn λx hx=>h x hx
 simp_all
theorem Eo{b m:Nat}:∀(n:Nat) (c:V),(∀e,e∈DI b [] n c->e.2.2=m)->mL b m n c=c
 | 0,_,_=>rfl
 | n+1,c,h=>by
  cases c<;>simp only[mL]<;>try rfl
  case ref b' off len=>
   simp only[DI] at h
   split
   ·rename_i hb
    rw[hb] at h
    cases off with
    | zero=>simp_all
    | succ o=>rfl
   ·rfl
  case fn f x y=>
   simp only[DI] at h
   rw[R6 λc hc=>Eo n c λe he=>(by grind),R6 λc hc=>Eo n c λe he=>(by grind)]
  case agg l=>
   simp only[DI] at h
   rw[R6 λc hc=>Eo n c λe he=>(by grind)]
  case Qt l=>
   simp only[DI] at h
   rw[R6 λc hc=>Eo n c λe he=>(by grind)]
theorem jU{G:ze}{d:D}{b m:Nat}{ns:List Nat}{hn:∀n,n∈ns->n=m}{next:D->C}{X:C}(h:NC (.len b m ns hn) d next=X)(he:cS (.len b m ns hn) d=ns.map λn=>(b,[],n))(hd:d.Ok) :
  ∃d':D,next d'=X/\d'.Ok/\QH G d.st d'.st/\d'.n=d.n:=by
 simp only[NC,Mr,Wp] at h
 have key:∀e,e∈cS (.len b m ns hn) d->e.2.2=m:=(by grind)
 simp only[cS] at key
 have e1:(d.ts.map λp=>(p.1,mL b m 6 p.2))=d.ts:=R6 λp hp=>by
  rw[Eo 6 p.2 λe he=>(by grind)]
 have e2:d.bs.map (lnB d.sy b m)=d.bs:=R6 λp hp=>by
  have hk:∀e,e∈cJ d.sy b p->e.2.2=m:=λe he=>key e (by grind)
  unfold cJ at hk
  unfold lnB
  split
  ·rfl
  ·rename_i hs
   rw[hs] at hk
   have:p.2.rows.map (·.map (mL b m 6))=p.2.rows:=R6 λr hr=>R6 λc hc=>Eo 6 c λe he=>hk e (wy.2 (by grind))
   rw[this]
 rw[e1,e2] at h
 exact⟨d,h,hd,λγ _ w hs=>⟨γ,hs,.refl γ w,.refl hs.u⟩,rfl⟩
theorem jA{G:ze}{d:D}{w:GhW}{next:D->C}{X:C}(h:NC w d next=X)(hX:∀j,C.stuck j≠X)(he:cS w d=w.eqs)(hd:d.Ok):∃d':D,next d'=X/\d'.Ok/\QH G d.st d'.st/\d'.n=d.n:=by
 cases w with
 | Xk d t size=>exact BO h hX hd
 | IJ d b j size=>exact Ra h hX hd
 | Qc a b=>exact VC h hX hd
 | share v n=>exact RZ h hX he hd
 | drop l=>exact Th h hX hd
 | tell b es=>exact BG h hX hd
 | len b m ns hn=>exact jU h he hd
theorem AM{u:zh}:∀(n:Nat) (e c:V),okV u (D8 n e c)=true->okV u c=true
 | 0,_,_,h=>h
 | n+1,e,c,h=>by
  have lst:∀(es cs:List V),Mf u (V9 (D8 n) es cs)=true->Mf u cs=true:=by
   intro es cs
   induction cs generalizing es with
   | nil=>intro _;rfl
   | cons c cs ih=>
    intro h
    cases es with
    | nil=>exact h
    | cons e es=>
     simp only[V9,Mf,zD] at h ⊢
     exact⟨AM n e c h.1,ih es h.2⟩
  cases c<;>simp only[D8] at h<;>try exact h
  case Qj=>rfl
  case sl=>rfl
  case agg cs=>
   grind [okV]
  grind [okV]
theorem Nf{u:zh}:∀(es cs:List (List V)),(∀r,r∈UR es cs->∀c,c∈r->okV u c=true)->∀r,r∈cs->∀c,c∈r->okV u c=true
 | [],cs,h=>by cases cs<;>exact h
 | _ :: _,[],_=>λr hr=>by simp at hr
 | e :: es,c :: cs,h=>λr hr=>by
  simp only[zO] at hr
  rcases hr with rfl|hr
  ·have h0:Mf u (V9 (D8 8) e r)=true:=(by grind [Ml,UR])
   have:∀(es cs:List V),Mf u (V9 (D8 8) es cs)=true->Mf u cs=true:=by
    intro es cs
    induction cs generalizing es with
    | nil=>intro _;rfl
    | cons c cs ih=>
     intro h
     cases es with
     | nil=>exact h
     | cons e es=>
      simp only[V9,Mf,zD] at h ⊢
      grind [AM]
   grind [Ml]
  ·exact Nf es cs (by grind [UR]) r hr
def Ur(x:Ext)(n:Nat):Exit->St->Prop:=λe s=>e=x.ex/\s.n=n/\WS x s=x.ts/\WB x s=x.bs.map λp=>(p.1,some p.2)
theorem T4{G:ze}{x:Ext}{s:St}(hok:x.ok=true)(ht:WS x s=x.ts)(hb:WB x s=x.bs.map λp=>(p.1,some p.2)):QH G s (x.D s.n).st:=by
 simp only[Ext.ok,zD,zG] at hok
 have htp:∀p,p∈x.ts->D8 8 p.2 (s.t p.1)=p.2:=λp hp=>by
  have:=List.map_inj_left.1 (show x.ts.map (λp=>(p.1,D8 8 p.2 (s.t p.1)))=x.ts.map (λp=>(p.1,p.2)) from ht.trans (by simp)) p hp
  grind
 have hbp:∀p,p∈x.bs->uB x.dt p.1 p.2 (s.b p.1)=some p.2:=λp hp=>by
  have:=List.map_inj_left.1 hb p hp
  grind
 have hbs:∀p,p∈x.bs->∃k,s.b p.1=some k/\k.size=p.2.size/\k.Qn=p.2.Qn/\(p.1∈x.dt->k=p.2)/\(¬p.1∈x.dt->UR p.2.rows k.rows=p.2.rows):=λp hp=>by
  have:=hbp p hp
  unfold uB at this
  split at this
  ·grind
  ·rename_i hd
   obtain⟨k,h1,h2⟩:=zE.1 this
   grind
 let kOf:Nat×Qi->Qi:=λp=>match s.b p.1 with|some k=>k|none=>p.2
 have hkOf:∀p,p∈x.bs->s.b p.1=some (kOf p):=(by grind)
 let s0:=E6 s.n (x.ts.map λp=>(p.1,s.t p.1)) (x.bs.map λp=>(p.1,kOf p)) x.us
 have F:F9 s s0:=by
  refine CS rfl ?_ ?_ ?_ ?_ ?_
  ·simp_all
  ·refine zG.2 λq hq=>?_
   obtain⟨p,hp,rfl⟩:=zH.1 hq
   refine AM 8 p.2 _ ?_
   show okV _ (D8 8 p.2 (s.t p.1))=true
   rw[htp p hp]
   exact hok.1 p hp
  ·grind [List.map_map,List.map_congr_left]
  ·refine zG.2 λq hq=>?_
   obtain⟨p,hp,rfl⟩:=zH.1 hq
   show ZX x.us p.1=true
   simp only[ZX,Ext.us,zU,zZ,zC]
   grind
  ·intro q hq r hr c hc
   obtain⟨p,hp,rfl⟩:=zH.1 hq
   obtain⟨k,h1,h2,h3,h4,h5⟩:=hbs p hp
   have hk:kOf p=k:=by grind
   simp only[hk] at hr
   by_cases hd:p.1∈x.dt
   ·rw[h4 hd] at hr
    exact R9 (x.JC p hp hd r hr c hc) _
   ·have:=hok.2 p hp
    simp only[KE,zU,zZ,zC,zG] at this
    have hall:=this.resolve_left hd
    exact Nf p.2.rows k.rows (by rw[h5 hd];exact hall) r hr c hc
 refine(QH.forget F).trans (QH.cells rfl rfl (λi=>?_) λb=>?_)
 ·show Wk _ _ (s0.t i) ((E6 s.n x.ts x.bs x.us).t i)
  simp only[s0,OF]
  rw[V6 (λp=>s.t p.1)]
  cases hf:x.ts.find? (λp=>p.1==i) with
  | none=>exact Wk.refl _
  | some p=>
   simp only[ww]
   have:=htp p (N1 hf).1
   grind [Br]
 ·show (s0.b b=none/\(E6 s.n x.ts x.bs x.us).b b=none)\/_
  simp only[s0,Ka]
  rw[V6 kOf]
  cases hf:x.bs.find? (λp=>p.1==b) with
  | none=>grind
  | some p=>
   simp only[ww]
   obtain⟨k,h1,h2,h3,h4,h5⟩:=hbs p (N1 hf).1
   have hk:kOf p=k:=by grind
   rw[hk]
   refine .inr ⟨k,p.2,rfl,?_,h2.symm,h3.symm,?_⟩
   ·show (E6 s.n x.ts x.bs x.us).b b=_
    rw[Ka,hf]
   ·by_cases hd:p.1∈x.dt
    ·rw[h4 hd]
     exact⟨rfl,λi r' h=>⟨r',h,rfl,λj c' hc=>⟨c',hc,Wk.refl _,λ_=>.inl rfl⟩⟩⟩
    ·have:=HN (bs:=(x.D s.n).st.b) (u:=(x.D s.n).st.u) p.2.rows k.rows
     grind
end Go.EV
