/- The value-level logic: what an operation's working hangs on, computed; so the plan of a region that draws its order is computed. The value-level logi ..; no conditions. -/
import Derived.Test.YtjdieimefebnfaaGreatDoorK2
import Derived.KernelRfl
set_option linter.unusedVariables false
set_option linter.unusedSimpArgs false
namespace Go.EV
open Go
def G8(a b:zg):Prop:=∀i k,a i=some k->b i=some k
theorem Nx{P:Program}{l1 l2:zg}(h:G8 l1 l2){t:TypeId}{x y:V}{r:Bool}(he:vK P l1 t x y=some r):vK P l2 t x y=some r:=by
 unfold vK at he ⊢
 split at he<;>try exact he
 ·rename_i b i off
  cases hb:l1 b with
  | none=>grind
  | some k=>rw[hb] at he;rw[h b k hb];exact he
 ·rename_i b off n
  cases hb:l1 b with
  | none=>grind
  | some k=>rw[hb] at he;rw[h b k hb];exact he
theorem Ti{P:Program}{l1 l2:zg}(h:G8 l1 l2){op:BinOp}{t:TypeId}{x y c:V}(he:NU P l1 op t x y=some c):NU P l2 op t x y=some c:=by
 unfold NU at he ⊢
 split at he<;>try exact he
 split at he
 ·obtain⟨r,h1,h2⟩:=zE.1 he
  rw[Nx h h1];grind
 ·obtain⟨r,h1,h2⟩:=zE.1 he
  rw[Nx h h1];grind
 ·simp at he
theorem Nr{l1 l2:zg}(h:G8 l1 l2){c:V}{cs:List V}(he:Jo l1 c=some cs):Jo l2 c=some cs:=by
 unfold Jo at he ⊢
 split at he<;>try exact he
 rename_i b i off
 cases hb:l1 b with
 | none=>grind
 | some k=>rw[hb] at he;rw[h b k hb];exact he
theorem Pt{P:Program}{l1 l2:zg}(h:G8 l1 l2){t:TypeId}{c d:V}(he:Ai P l1 t c=some d):Ai P l2 t c=some d:=by
 grind [Option.bind_eq_some_iff,Nr,Ai]
theorem DJ{P:Program}{l1 l2:zg}(h:G8 l1 l2){s:TypeId}{c d:V}{f:Nat}(he:T3 P l1 s c f=some d):T3 P l2 s c f=some d:=by
 unfold T3 at he ⊢
 split at he<;>try exact he
 split at he<;>try exact he
 split at he<;>try exact he
 split at he
 ·simp at he
 rename_i hz
 rw[if_neg hz]
 split at he<;>try exact he
 rename_i b r off
 cases hb:l1 b with
 | none=>grind
 | some k=>rw[hb] at he;simp only[h b k hb];exact he
theorem DZ{P:Program}{l1 l2:zg}(h:G8 l1 l2){t:TypeId}{c x d:V}(he:F7 P l1 t c x=some d):F7 P l2 t c x=some d:=by
 unfold F7 at he ⊢
 split at he<;>try exact he
 split at he<;>try exact he
 ·split at he<;>try exact he
  split at he
  rotate_left
  ·simp at he
  rename_i hb
  rw[if_pos hb]
  split at he<;>try exact he
  rename_i b r off
  cases hb:l1 b with
  | none=>grind
  | some k=>rw[hb] at he;simp only[h b k hb];exact he
 ·split at he<;>try exact he
  split at he<;>try exact he
  rename_i b off len
  cases hb:l1 b with
  | none=>grind
  | some k=>rw[hb] at he;simp only[h b k hb];exact he
theorem FT{P:Program}{l1 l2:zg}(h:G8 l1 l2){t:TypeId}{c d:V}{lo hi mx:Option V}(he:Ha P l1 t c lo hi mx=some d):Ha P l2 t c lo hi mx=some d:=by
 unfold Ha at he ⊢
 split at he<;>try exact he
 split at he<;>try exact he
 split at he<;>try exact he
 rename_i b off len
 cases hb:l1 b with
 | none=>grind
 | some k=>rw[hb] at he;simp only[h b k hb];exact he
theorem CD{P:Program}{l1 l2:zg}(h:G8 l1 l2){t:TypeId}{c d:V}(he:CX P l1 t c=some d):CX P l2 t c=some d:=by
 unfold CX at he ⊢
 split at he<;>try exact he
 rename_i b off len _
 cases hb:l1 b with
 | none=>grind
 | some k=>rw[hb] at he;simp only[h b k hb];exact he
theorem PO{P:Program}{l1 l2:zg}(h:G8 l1 l2){s t:TypeId}{c d:V}(he:Dj P l1 s t c=some d):Dj P l2 s t c=some d:=by
 unfold Dj at he ⊢
 split at he<;>try exact he
 split at he<;>try exact he
 split at he<;>try exact he
 rename_i b off len _ _ _ _ _ _ _
 cases hb:l1 b with
 | none=>grind
 | some k=>rw[hb] at he;simp only[h b k hb];exact he
theorem XE{P:Program}{e:Operand->Option V}{l1 l2:zg}(h:G8 l1 l2){op:Op}{c:V}(he:YX P e l1 op=some c):YX P e l2 op=some c:=by
 unfold YX at he ⊢
 split at he<;>try exact he
 ·
  split at he<;>try exact he
  rename_i b i off hx
  cases hb:l1 b with
  | none=>grind
  | some k=>rw[hb] at he;simp only[h b k hb];exact he
 ·grind [Ti]
 ·grind [Option.bind_eq_some_iff,PO]
 ·grind [Option.bind_eq_some_iff,Pt]
 ·grind [Option.bind_eq_some_iff,DJ]
 ·grind [DZ]
 ·grind [FT]
 ·obtain⟨d,h1,h2⟩:=zV.1 he
  rw[h1]
  simp only[wL]
  unfold AI at h2 ⊢
  grind [CD]
def Y3(o:Oper):List Nat:=o.op.operands.toList.filterMap fun|.tmp t=>some t|_=>none
mutual
def W2:V->List Nat
 | .ref b _ _=>[b]
 | .ptr b _ _=>[b]
 | .mp b=>[b]
 | .fn _ a c=>E5 a++E5 c
 | .agg l=>E5 l
 | .Qt l=>E5 l
 | _=>[]
def E5:List V->List Nat
 | []=>[]
 | c :: l=>W2 c++E5 l
end
def St.QV(st:St)(ts:List Nat):St:={ st with t:=λi=>if ts.contains i then st.t i else .undef }
def EZ(b:zg)(bs:List Nat):zg:=λi=>if bs.contains i then b i else none
theorem Yh(b:zg)(bs:List Nat):G8 (EZ b bs) b:=λi k h=>by
 grind [EZ]
theorem Qs.QV{G:ze}{γ:Gh}{st:St}{tmps:Array Value}{w:World}(h:Qs G γ st tmps w)(ts:List Nat):Qs G γ (st.QV ts) tmps w:=
 ⟨h.n,λi=>by
  show Qu γ w st.b st.u (if ts.contains i then st.t i else .undef) _
  split
  ·exact h.t i
  ·exact .undef _,h.b,h.u,h.g,h.o⟩
def JL(ops:Array Oper)(o:Oper):List Loc:=
 match o.guard with
 | none=>[]
 | some (j,_)=>match (ops[j]?).bind (·.dst) with
  | some d=>[.t d]
  | none=>[]
def KW(dst:Option Nat)(c:V):List Wr:=match dst with|some d=>[.t d c]|none=>[]
theorem HB(st:St)(dst:Option Nat)(c:V):st.app (KW dst c)=st.put dst c:=by cases dst<;>rfl
def uI(P:Program)(G:ze)(o:Oper)(st:St)(bs:List Nat):Option (List Wr):=
 match o.op,o.dst with
 | .alloc e,some d=>if d < st.n/\st.u d=false then (zeroV P e).map λcs=>[.b d (some ⟨cs.length,true,[cs]⟩),.t d (.ptr d 0 0)] else none
 | .box _ x,some d=>if d < st.n/\st.u d=false then ((st.ev G x).bind NY).map λcs=>[.b d (some ⟨cs.length,true,[cs]⟩),.t d (.ptr d 0 0)] else none
 | .store t x y,none=>match st.ev G x,st.ev G y with
  | some (.ptr b i off),some c=>match EZ st.b bs b with
   | some k=>(C5 P t k i off c).map λk'=>[.b b (some k')]
   | none=>none
  | _,_=>none
 | .buildSlice t n ps,some d=>if d < st.n/\st.u d=false then ((Up (st.ev G) ps.toList).bind (ZM P t n)).map λk=>[.b d (some k),.t d (.ref d 0 n)] else none
 | op,dst=>if H7 st.n dst then (YX P (st.ev G) (EZ st.b bs) op).map (KW dst) else none
theorem CT{P:Program}{G:ze}{o:Oper}{st:St}{ts bs:List Nat}{ws:List Wr}(h:uI P G o (st.QV ts) bs=some ws):I2 P G o st (st.app ws):=by
 unfold uI at h
 split at h
 ·rename_i e d ho hd
  split at h
  ·rename_i hc
   obtain⟨cs,hz,rfl⟩:=zE.1 h
   exact AJ ho hd hc.1 hc.2 hz
  ·simp at h
 ·rename_i e x d ho hd
  split at h
  ·rename_i hc
   obtain⟨cs,hz,rfl⟩:=zE.1 h
   obtain⟨c,h1,h2⟩:=zV.1 hz
   refine M1 λγ a w hs=>?_
   obtain⟨k1,k2⟩:=Uq h2 ((hs.QV ts).ev h1)
   obtain⟨γ',g,pn,hs'⟩:=hs.Pp (e:=e) (O3 h2).2 hc.2 hc.1 k1 k2
   refine⟨_,_,γ',?_,g,pn,by rw[hd];exact hs'⟩
   simp[execOp,ho,Instr.box,newVar,newRow]
  ·simp at h
 ·rename_i t x y ho hd
  split at h
  ·rename_i b i off c hx hy
   split at h
   ·rename_i k hk
    obtain⟨k',hs',rfl⟩:=zE.1 h
    have hk':=Yh _ _ _ _ hk
    exact HO ho hd (λ_ _ _ hs=>(hs.QV ts).ev hx) (λ_ _ _ hs=>(hs.QV ts).ev hy) hk' hs'
   ·simp at h
  ·simp at h
 ·rename_i t n ps d ho hd
  split at h
  ·rename_i hc
   obtain⟨k,hz,rfl⟩:=zE.1 h
   obtain⟨parts,h1,h2⟩:=zV.1 hz
   exact JP ho hd hc.1 hc.2 (λ_ _ _ hs=>Jq (hs.QV ts) h1) h2
  ·simp at h
 ·rename_i op dst
  split at h
  ·rename_i hd
   obtain⟨c,hr,rfl⟩:=zE.1 h
   rw[HB]
   exact M4 hd λγ a w hs=>Eu (hs.QV ts) (XE (Yh _ _) hr)
  ·simp at h
def Gr(o:Oper)(l:List Nat):List Nat:=match o.op with
 | .move _=>[]
 | .assign _=>[]
 | _=>l
def Hd(P:Program)(G:ze)(ops:Array Oper)(i:Nat)(st:St):Option (List Loc×List Wr):=
 match ops[i]? with
 | none=>some ([],[])
 | some o=>match M6 ops st o with
  | some true=>
   let ts:=Y3 o
   let bs:=Gr o (ts.flatMap λt=>W2 (st.t t))
   (uI P G o (st.QV ts) bs).map λws=>(JL ops o++ts.map .t++bs.map .b++(match o.dst with|some d=>[.b d]|none=>[]),ws)
  | some false=>if H7 st.n o.dst then some (JL ops o,KW o.dst (.Qt [])) else none
  | none=>none
theorem Ug{ops:Array Oper}{st st2:St}{o:Oper}(hn:st2.n=st.n)(h:∀l,l∈JL ops o->O0 st st2 l):M6 ops st2 o=M6 ops st o:=by
 unfold M6
 unfold JL at h
 cases hg:o.guard with
 | none=>rfl
 | some x=>
  obtain⟨j,want⟩:=x
  rw[hg] at h
  simp only at h ⊢
  cases hd:(ops[j]?).bind (·.dst) with
  | none=>rfl
  | some d=>
   rw[hd] at h
   have:st.t d=st2.t d:=h (.t d) (by simp)
   grind
theorem YE{P:Program}{G:ze}{ops:Array Oper}{i:Nat}{st:St}{R:List Loc}{ws:List Wr}(h:Hd P G ops i st=some (R,ws)):X4 P G ops i st R ws:=by
 intro st2 hn hag
 unfold Hd at h
 unfold P1
 split at h
 ·rename_i hi
  simp only[zy,zJ] at h
  obtain⟨rfl,rfl⟩:=h
  rw[hi];rfl
 ·rename_i o hi
  rw[hi]
  split at h
  ·rename_i hg
   obtain⟨ws',hw,he⟩:=zE.1 h
   simp only[zJ] at he
   obtain⟨rfl,rfl⟩:=he
   have hg2:M6 ops st2 o=some true:=by grind [Ug]
   refine .inl ⟨hg2,?_⟩
   have ht:∀t,t∈Y3 o->st.t t=st2.t t:=λt ht=>hag (.t t) (by simp[ht])
   have hbs:Gr o ((Y3 o).flatMap λt=>W2 (st.t t))=Gr o ((Y3 o).flatMap λt=>W2 (st2.t t)):=by
    grind [List.map_congr_left]
   have hcutT:(st.QV (Y3 o)).t=(st2.QV (Y3 o)).t:=funext λj=>by
    show (if (Y3 o).contains j then st.t j else .undef)=(if (Y3 o).contains j then st2.t j else .undef)
    grind
   have hcutB:EZ st.b (Gr o ((Y3 o).flatMap λt=>W2 (st.t t)))=EZ st2.b (Gr o ((Y3 o).flatMap λt=>W2 (st.t t))):=funext λj=>by
    unfold EZ
    split
    ·rename_i hc
     have:O0 st st2 (.b j):=(by grind)
     exact this.1
    ·rfl
   have hud:∀d,o.dst=some d->st.u d=st2.u d:=λd hd=>by
    have:O0 st st2 (.b d):=(by grind)
    exact this.2
   have hev:(st2.QV (Y3 o)).ev G=(st.QV (Y3 o)).ev G:=funext λx=>by
    simp_all [St.ev]
   have key:uI P G o (st2.QV (Y3 o)) (Gr o ((Y3 o).flatMap λt=>W2 (st.t t)))=some ws':=by
    rw[<-hw]
    unfold uI
    have e1:(st2.QV (Y3 o)).n=(st.QV (Y3 o)).n:=hn
    have e2:EZ (st2.QV (Y3 o)).b (Gr o ((Y3 o).flatMap λt=>W2 (st.t t)))=EZ (st.QV (Y3 o)).b (Gr o ((Y3 o).flatMap λt=>W2 (st.t t))):=hcutB.symm
    rw[hev,e1,e2]
    cases hd:o.dst with
    | none=>cases o.op<;>rfl
    | some d=>
     have e3:(st2.QV (Y3 o)).u d=(st.QV (Y3 o)).u d:=(hud d hd).symm
     cases o.op<;>simp only[e3]
   exact CT key
  ·rename_i hg
   split at h<;>simp at h
   rename_i hd
   obtain⟨rfl,rfl⟩:=h
   grind [Ug,HB]
  ·simp at h
end Go.EV
namespace Go.EV
open Go
def K8{α β:Type}(f:α->Option β):List α->Option (List β)
 | []=>some []
 | x :: l=>match f x,K8 f l with
  | some y,some r=>some (y :: r)
  | _,_=>none
theorem Yc{α β:Type}{f:α->Option β}:∀{l:List α} {r:List β},K8 f l=some r->r.length=l.length
 | [],r,h=>by grind [K8]
 | x :: l,r,h=>by
  simp only[K8] at h
  split at h
  ·rename_i y r' h1 h2
   simp only[zy] at h;subst h
   simp[Yc h2]
  ·simp at h
theorem L4{α β:Type}{f:α->Option β}:∀{l:List α} {r:List β},K8 f l=some r->∀(i:Nat) (y:β),r[i]?=some y->∃x,l[i]?=some x/\f x=some y
 | [],r,h,i,y,hy=>by grind [K8]
 | x :: l,r,h,i,y,hy=>by
  simp only[K8] at h
  split at h
  ·rename_i y' r' h1 h2
   simp only[zy] at h;subst h
   cases i with
   | zero=>grind
   | succ i=>
    obtain⟨x',a,b⟩:=L4 h2 i y (by simpa using hy)
    grind
  ·simp at h
theorem F5{α β:Type}{f g:α->Option β}:∀{l:List α} {r:List β},K8 f l=some r->(∀x y,f x=some y->g x=some y)->K8 g l=some r
 | [],r,h,_=>h
 | x :: l,r,h,hg=>by
  simp only[K8] at h ⊢
  split at h
  ·rename_i y r' h1 h2
   rw[hg x y h1,F5 h2 hg];exact h
  ·simp at h
def H4:V->Bool
 | .fn _ a c=>a.isEmpty&&c.isEmpty
 | .agg _|.Qt _|.undef|.ref _ _ _|.ptr _ _ _|.mp _=>false
 | _=>true
def I8(c:Option V):Option V:=match c with
 | some d=>if H4 d then some d else none
 | none=>none
theorem T7{c:Option V}{d:V}(h:I8 c=some d):c=some d/\H4 d=true:=by
 unfold I8 at h
 grind
def E8(look:zg):Nat->V->Option V
 | 0,_=>none
 | _+1,.int k n=>some (.int k n)
 | _+1,.bool b=>some (.bool b)
 | _+1,.str s=>some (.str s)
 | _+1,.Zf=>some .Zf
 | _+1,.Zd=>some .Zd
 | _+1,.QP l=>some (.QP l)
 | _+1,.Qj=>some .Qj
 | _+1,.Zw x=>some (.Zw x)
 | _+1,.sl _ s r=>some (.sl false s r)
 | _+1,.snap c=>some (.snap c)
 | n+1,.ref b off len=>match look b with
  | some k=>(K8 (K8 λc=>I8 (E8 look n c)) ((k.rows.drop off).take len)).map (.sl false k.size)
  | none=>none
 | n+1,.ptr b i off=>match look b with
  | some k=>match k.rows[i]? with
   | some r=>(K8 (λc=>I8 (E8 look n c)) (r.drop off)).map .snap
   | none=>none
  | none=>none
 | n+1,.fn f a c=>match K8 (E8 look n) a,K8 (E8 look n) c with
  | some a',some c'=>some (.fn f a' c')
  | _,_=>none
 | n+1,.agg l=>(K8 (E8 look n) l).map .agg
 | n+1,.Qt l=>(K8 (E8 look n) l).map .Qt
 | _+1,.undef=>none
 | _+1,.mp _=>none
theorem Hs{f g:V->Option V}(h:∀x y,f x=some y->g x=some y)(x y:V)(hx:I8 (f x)=some y):I8 (g x)=some y:=by
 grind [T7,I8]
theorem Xm{l1 l2:zg}(h:G8 l1 l2):∀(n:Nat) (c d:V),E8 l1 n c=some d->E8 l2 n c=some d
 | 0,_,_,h=>by simp[E8] at h
 | n+1,c,d,hd=>by
  have ih:=Xm h n
  cases c<;>simp only[E8] at hd ⊢<;>try exact hd
  case ref b off len=>
   cases hb:l1 b with
   | none=>grind
   | some k=>
    rw[hb] at hd;rw[h b k hb]
    simp only at hd ⊢
    obtain⟨r,h1,h2⟩:=zE.1 hd
    rw[F5 h1 λx y hx=>F5 hx (Hs ih)];grind
  case ptr b i off=>
   cases hb:l1 b with
   | none=>grind
   | some k=>
    rw[hb] at hd;rw[h b k hb]
    simp only at hd ⊢
    split at hd
    ·obtain⟨r,h1,h2⟩:=zE.1 hd
     rw[F5 h1 (Hs ih)];grind
    ·simp at hd
  case fn f a c=>
   grind [F5]
  case agg l=>
   obtain⟨r,h1,h2⟩:=zE.1 hd
   rw[F5 h1 ih];grind
  case Qt l=>
   obtain⟨r,h1,h2⟩:=zE.1 hd
   rw[F5 h1 ih];grind
def HH(w:World)(B:Nat):Nat:=match w.heap[B]? with|some (.cells cs _ _)=>cs.size|_=>0
theorem El{w:World}{B o:Nat}{v:Value}(h:cellAt w B o=some v):o < HH w B:=by
 unfold cellAt World.cell? at h
 unfold HH
 grind
def Ap(w:World):Gh:={ loc:=λ_=>none,own:=λ_=>none,Qp:=HH w }
theorem K3.all{Qp:Nat->Nat}{w:World}{c:V}{v:Value}(h:K3 Qp w c v):K3 (HH w) w c v:=h.mono λ_ _ _ _ hc=>⟨El hc,hc⟩
theorem K3.oG{Qp:Nat->Nat}{w:World}{o:Bool}{s:Nat}{r:List (List V)}{v:Value}(h:K3 Qp w (.sl o s r) v):K3 Qp w (.sl false s r) v:=by
 cases h with
 | sl _ _ _ B o cap vs h1 h2 h3 h4=>exact .sl false s r B o cap vs h1 h2 h3 h4
 | Zc _ _ a=>exact .Zc false s a
theorem AH{d:V}(hd:H4 d=true){w:World}{v:Value}(hr:Qu (Ap w) w Ii Qk d v):K3 (HH w) w d v:=by
 cases hr with
 | data h=>exact h
 | undef=>simp[H4] at hd
 | ref _ _ _ _ _ _ _ h1=>simp[Ii] at h1
 | Jk _ _ _ _ h1=>simp[Ii] at h1
 | YW _ _ _ h1=>simp[Ii] at h1
 | Qb=>simp[H4] at hd
 | ptr _ _ _ _ _ _ h1=>simp[Ii] at h1
 | QK=>simp[H4] at hd
 | mp=>simp[H4] at hd
 | QT=>simp[H4] at hd
 | fn f first captured fs cs h1 h2 _ _=>
  simp only[H4,zD,List.isEmpty_iff] at hd
  obtain⟨rfl,rfl⟩:=hd
  exact .fn f [] [] fs cs h1 h2 (by grind) (by grind)
 | agg=>simp[H4] at hd
 | Qt=>simp[H4] at hd
theorem Ms{f:V->Option V}:∀{l:List (List V)} {r:List (List V)},K8 (K8 f) l=some r->K8 f l.flatten=some r.flatten
 | [],r,h=>by grind [K8]
 | x :: l,r,h=>by
  simp only[K8] at h
  split at h
  ·rename_i y r' h1 h2
   simp only[zy] at h;subst h
   have ih:=Ms h2
   simp only[List.flatten_cons]
   have app:∀{a:List V} {b:List V} {a' b':List V},K8 f a=some a'->K8 f b=some b'->K8 f (a++b)=some (a'++b'):=by
    intro a
    induction a with
    | nil=>grind [K8]
    | cons z a iha=>
     intro b a' b' ha hb
     simp only[K8] at ha
     split at ha
     ·rename_i y2 r2 k1 k2
      simp only[zy] at ha;subst ha
      simp_all [List.cons_append,K8]
     ·simp at ha
   grind
  ·simp at h
theorem IU{γ:Gh}{w:World}{bs:zg}{u:zh}(hb:∀b k,bs b=some k->D4 γ w bs u b k):∀(n:Nat) (c d:V) (v:Value),E8 bs n c=some d->Qu γ w bs u c v->Qu (Ap w) w Ii Qk d v
 | 0,_,_,_,h,_=>by simp[E8] at h
 | n+1,c,d,v,h,hr=>by
  have ih:=IU hb n
  have cells:∀(l r:List V),K8 (E8 bs n) l=some r->∀(vs:List Value),vs.length=l.length->(∀(i:Nat) (c:V) (v:Value),l[i]?=some c->vs[i]?=some v->Qu γ w bs u c v)->
    vs.length=r.length/\∀(i:Nat) (c:V) (v:Value),r[i]?=some c->vs[i]?=some v->Qu (Ap w) w Ii Qk c v:=by
   intro l r hm vs hl hv
   refine⟨by grind [Yc],λi c v hc hx=>?_⟩
   obtain⟨x,h1,h2⟩:=L4 hm i c hc
   grind
  cases c<;>simp only[E8] at h
  case int=>simp only[zy] at h;subst h;cases hr with|data h=>exact .data h.all
  case Zw=>simp only[zy] at h;subst h;cases hr with|data h=>exact .data h.all
  case bool=>simp only[zy] at h;subst h;cases hr with|data h=>exact .data h.all
  case str=>simp only[zy] at h;subst h;cases hr with|data h=>exact .data h.all
  case Zf=>simp only[zy] at h;subst h;cases hr with|data h=>exact .data h.all
  case QP=>simp only[zy] at h;subst h;cases hr with|data h=>exact .data h.all
  case Zd=>simp only[zy] at h;subst h;cases hr with|data h=>exact .data h.all
  case Qj=>simp only[zy] at h;subst h;cases hr with|data h=>exact .data h.all
  case sl=>simp only[zy] at h;subst h;cases hr with|data h=>exact .data h.all.oG
  case snap=>simp only[zy] at h;subst h;cases hr with|data h=>exact .data h.all
  case undef=>simp at h
  case mp=>simp at h
  case agg l=>
   obtain⟨r,h1,rfl⟩:=zE.1 h
   obtain⟨vs,rfl,hl,hv⟩:=hr.QX
   obtain⟨a1,a2⟩:=cells l r h1 vs hl hv
   exact .agg r vs a1 a2
  case Qt l=>
   obtain⟨r,h1,rfl⟩:=zE.1 h
   obtain⟨vs,rfl,hl,hv⟩:=hr.KS
   obtain⟨a1,a2⟩:=cells l r h1 vs hl hv
   exact .Qt r vs a1 a2
  case fn f a c=>
   split at h
   ·rename_i a' c' h1 h2
    simp only[zy] at h;subst h
    obtain⟨fs,cs,rfl,l1,l2,p1,p2⟩:=hr.HE
    obtain⟨a1,a2⟩:=cells a a' h1 fs l1 p1
    obtain⟨b1,b2⟩:=cells c c' h2 cs l2 p2
    exact .fn f a' c' fs cs a1 b1 a2 b2
   ·simp at h
  case ptr b i off=>
   cases hk:bs b with
   | none=>grind
   | some k=>
    rw[hk] at h;simp only at h
    split at h
    ·rename_i r hrow
     obtain⟨r',h1,rfl⟩:=zE.1 h
     obtain⟨B,o,rfl,hl⟩:=hr.Zk hk
     have hat:∀(j:Nat) (c:V),r'[j]?=some c->∃x,cellAt w B (o+(i * k.size+off)+j)=some x/\K3 (HH w) w c x:=λj c hc=>by
      obtain⟨c0,k1,k2⟩:=L4 h1 j c hc
      obtain⟨k2,k3⟩:=T7 k2
      obtain⟨x,x1,x2⟩:=(((hb b k hk).row hl hrow (hr.Zl hk)).drop off) j c0 k1
      grind [AH]
     refine .data (.snap r' B _ (λj=>(cellAt w B (o+(i * k.size+off)+j)).getD default) (λj c hc=>?_) (λj c hc=>?_))
     ·obtain⟨x,x1,x2⟩:=hat j c hc
      rw[x1];exact⟨El x1,rfl⟩
     ·obtain⟨x,x1,x2⟩:=hat j c hc
      rw[x1];exact x2
    ·simp at h
  case ref b off len=>
   cases hk:bs b with
   | none=>grind
   | some k=>
    rw[hk] at h;simp only at h
    ·have hlen:off+len<=k.rows.length:=by
      rcases hr.ZZ hk with⟨B,o,cap,_,_,h0,_⟩|⟨B,_,hz,h0,_⟩|⟨_,hz,h0,_⟩
      ·exact h0
      ·omega
      ·omega
     obtain⟨r',h1,rfl⟩:=zE.1 h
     have hrl:r'.length=len:=by rw[Yc h1];simp;omega
     rcases hr.ZZ hk with⟨B,o,cap,rfl,hl,_,hcap,_,hM,_⟩|⟨B,rfl,rfl,_⟩|⟨rfl,rfl,_⟩
     ·rcases hb b k hk with⟨h0,_⟩|hm|⟨_,B',o',cs,e,g1,_,g3,g4,g5,g6,_,_⟩
      ·grind
      ·exact(hm.small hM).elim
      rw[hl] at g1;simp only[zy,zJ] at g1
      obtain⟨rfl,rfl⟩:=g1
      have hat:∀(j:Nat) (c:V),r'.flatten[j]?=some c->∃x,cellAt w B (o+off * k.size+j)=some x/\K3 (HH w) w c x:=λj c hc=>by
       obtain⟨c0,k1,k2⟩:=L4 (Ms h1) j c hc
       obtain⟨k2,k3⟩:=T7 k2
       obtain⟨q1,_⟩:=HD k.rows g4 off len j c0 k1
       obtain⟨x,x1,x2,_⟩:=g6 _ c0 q1
       refine⟨x,?_,AH k3 (ih c0 c x k2 x2)⟩
       rw[g3.cellAt]
       grind
      have:=K3.sl (Qp:=HH w) (w:=w) false k.size r' B (o+off * k.size) cap (λj=>(cellAt w B (o+off * k.size+j)).getD default) (by omega) (λr hr=>by
       obtain⟨j,hj⟩:=wI.1 hr
       obtain⟨q,q1,q2⟩:=L4 h1 j r hj
       rw[Yc q2]
       grind) (λj c hc=>by
       obtain⟨x,x1,x2⟩:=hat j c hc
       rw[x1];exact⟨El x1,rfl⟩) (by grind)
      rw[hrl] at this
      exact .data this
     ·obtain rfl:r'=[]:=(by grind)
      exact .data (.Zc false k.size (some B))
     ·obtain rfl:r'=[]:=(by grind)
      exact .data (.Zc false k.size)
theorem AY{P:Program}{G:ze}{o:Oper}{st:St}{x:Operand}{xs:Array Operand}{ts:Array TypeId}{f:FuncId}{cs ds:List V}{fn:Func}{r:V}{I1:Nat}(tl:List Nat)
  (ho:o.op=.call { callee:=.value x,args:=xs,argTypes:=ts }) (h:ZK G (st.QV tl) x xs.toList=some (f,cs)) (hfn:P.funcs[f]?=some fn) (hname:(fn.name== "runtime.NumGoroutine")=false) (hbody:fn.body.isNone=false)
  (hd:K8 (E8 st.b I1) cs=some ds) (hc:kC P G f ds r) (hr:L9 r=true) (hdst:H7 st.n o.dst=true):I2 P G o st (st.put o.dst r):=by
 intro fx γ a w hs had next Q hn
 obtain⟨as,hrun,hargs⟩:=Ky (hs.QV tl) ho h hfn hname hbody
 show o.upon P a next Q _
 rw[hrun,Oper.upon_enter]
 have hargs':U4 (Ap w) w Ii Qk ds as:=⟨by rw[Yc hd];exact hargs.1,λi c v hc hv=>by
  obtain⟨c0,k1,k2⟩:=L4 hd i c hc
  exact IU hs.b I1 c0 c v k2 (hargs.2 i c0 v k1 hv)⟩
 have hglob:UH G (Ap w) w:=λg cells hg=>(hs.g g cells hg).all
 refine(hc (Ap w) w as hglob (by grind [Ap]) hargs' (by grind [Ii])).mono λe w' hp=>?_
 obtain⟨v,γe,rfl,hg,_,hrep,_,hown⟩:=hp
 have fr:∀B,B < w.heap.size->w'.heap[B]?=w.heap[B]?:=λB hB=>(hg.free B hB rfl).1
 have hcell:∀B o v,cellAt w B o=some v->cellAt w' B o=some v:=(by grind [JV,cellAt,World.cell?])
 have g:Qa γ w γ w':=⟨hg.os,hg.tape,hg.output,hg.size,(by grind),λB _=>zI _,(by grind),(by grind)⟩
 have bl:F0 γ st.b st.u γ st.b st.u:=.refl hs.u
 have hs':Qs G γ st a.tmps w':=by
  refine⟨hs.n,λi=>(hs.t i).mono g bl,λb k hk=>?_,hs.u,hs.g.grow g,λB x hx=>wG (hs.o B x hx) hg.size⟩
  rcases hs.b b k hk with h0|hm|⟨hM,B,o,cs',e,a1,a2,a3,a4,a5,a6,a7,a8⟩
  ·exact .inl h0
  ·exact .inr (.inl (hm.same rfl (λB _ hB=>⟨hB,fr B (hs.o B _ hB)⟩) λc v hr=>hr.mono g bl))
  refine .inr (.inr ⟨hM,B,o,cs',e,a1,a2,a3.of_eq (fr B (hs.o B _ a2)),a4,a5,λi c hc=>?_,a7,a8⟩)
  obtain⟨y,b1,b2,b3,b4⟩:=a6 i c hc
  exact⟨y,b1,b2.mono g bl,b3,b4.grow g⟩
 refine hn _ _ γ (hs'.put hdst (hrep.flat hr)) g ?_ (by rw[D6];exact had)
 cases o.dst<;>exact bl.JH
mutual
def H8(s:Nat->Nat):V->V
 | .ref b off len=>.ref (s b) off len
 | .ptr b i off=>.ptr (s b) i off
 | .mp b=>.mp (s b)
 | .fn f a c=>.fn f (N4 s a) (N4 s c)
 | .agg l=>.agg (N4 s l)
 | .Qt l=>.Qt (N4 s l)
 | .int k n=>.int k n
 | .bool b=>.bool b
 | .str x=>.str x
 | .Zf=>.Zf
 | .Zd=>.Zd
 | .QP l=>.QP l
 | .Qj=>.Qj
 | .Zw x=>.Zw x
 | .sl o z r=>.sl o z r
 | .snap c=>.snap c
 | .undef=>.undef
def N4(s:Nat->Nat):List V->List V
 | []=>[]
 | c :: l=>H8 s c :: N4 s l
end
theorem Wm(s:Nat->Nat):∀l:List V,N4 s l=l.map (H8 s)
 | []=>rfl
 | c :: l=>by simp only[N4,wj,Wm s l]
theorem P5(s:Nat->Nat)(l:List V):(N4 s l).length=l.length:=by rw[Wm];simp
theorem P6{s:Nat->Nat}{l:List V}{i:Nat}{c:V}(h:(N4 s l)[i]?=some c):∃c0,l[i]?=some c0/\c=H8 s c0:=by
 rw[Wm,zX,zE] at h
 grind
def Qi.Qc(s:Nat->Nat)(k:Qi):Qi:={ k with rows:=k.rows.map (N4 s) }
theorem YD(s:Nat->Nat):∀rows:List (List V),(rows.map (N4 s)).flatten=N4 s rows.flatten
 | []=>rfl
 | r :: rows=>by simp only[wj,List.flatten_cons,YD s rows,Wm,wE]
theorem R2:∀{l:List V} {i:Nat} {c:V} {b:Nat},l[i]?=some c->b∈W2 c->b∈E5 l
 | [],i,c,b,h,_=>by simp at h
 | x :: l,i,c,b,h,hb=>by
  simp only[E5,wa]
  cases i with
  | zero=>grind
  | succ i=>exact .inr (R2 (by simpa using h) hb)
theorem K3.Qc{Qp lim':Nat->Nat}{w w':World}(hm:∀B o v,o < Qp B->cellAt w B o=some v->o < lim' B/\cellAt w' B o=some v)(s:Nat->Nat){c:V}{v:Value}(h:K3 Qp w c v):K3 lim' w' (H8 s c) v:=by
 induction h with
 | int k n=>exact .int k n
 | bool b=>exact .bool b
 | str s=>exact .str s
 | Zf=>exact .Zf
 | Zd=>exact .Zd
 | QP l=>exact .QP l
 | Qj=>exact .Qj
 | Zw x hx=>exact .Zw x hx
 | sl own size rows B o cap vs h1 h2 h3 h4 _=>exact(K3.sl own size rows B o cap vs h1 h2 h3 h4).mono hm
 | Zc own size a=>exact .Zc own size a
 | snap cells B o vs h3 h4 _=>exact(K3.snap cells B o vs h3 h4).mono hm
 | fn f first captured fs cs h1 h2 _ _ ih1 ih2=>
  refine .fn f _ _ fs cs (by rw[P5];exact h1) (by rw[P5];exact h2) (λi c v hc hv=>?_) (λi c v hc hv=>?_)
  ·obtain⟨c0,k1,rfl⟩:=P6 hc;grind
  ·obtain⟨c0,k1,rfl⟩:=P6 hc;grind
def Tr(γ1:Gh)(bs1:zg)(u1:zh)(γ2:Gh)(bs2:zg)(u2:zh)(s:Nat->Nat)(b:Nat):Prop:=
 (∀k,bs1 b=some k->∃k',bs2 (s b)=some k'/\k'.size=k.size/\k'.rows.length=k.rows.length/\γ2.loc (s b)=γ1.loc b)/\
  (bs1 b=none->u1 b=true->bs2 (s b)=none/\u2 (s b)=true)
theorem Qu.Qc{γ1 γ2:Gh}{w w':World}{bs1 bs2:zg}{u1 u2:zh}{s:Nat->Nat}(hm:∀B o v,o < γ1.Qp B->cellAt w B o=some v->o < γ2.Qp B/\cellAt w' B o=some v)(hroom:∀B n,Jp w B n->Jp w' B n)
  {c:V} {v:Value} (h:Qu γ1 w bs1 u1 c v):(∀b,b∈W2 c->Tr γ1 bs1 u1 γ2 bs2 u2 s b)->Qu γ2 w' bs2 u2 (H8 s c) v:=by
 induction h with
 | data h=>exact λ_=>.data (h.Qc hm s)
 | undef v=>exact λ_=>.undef v
 | ref b off len B o cap k h1 h2 h3 h4 h5 h6 h7=>
  intro ht
  obtain⟨k',a1,a2,a3,a4⟩:=(ht b (by simp[W2])).1 k h1
  rw[<-a2]
  exact .ref (s b) off len B o cap k' a1 (a4.trans h2) (by omega) h4 (by grind) (by grind) (by omega)
 | Jk b off B k h1 h6 h2=>
  intro ht
  obtain⟨k',a1,a2,a3,a4⟩:=(ht b (by simp[W2])).1 k h1
  exact .Jk (s b) off B k' a1 (by grind) (by omega)
 | YW b off k h1 h6 h2=>
  intro ht
  obtain⟨k',a1,a2,a3,a4⟩:=(ht b (by simp[W2])).1 k h1
  exact .YW (s b) off k' a1 (by grind) (by omega)
 | Qb b off len v h1 h2 h3=>
  intro ht
  obtain⟨a1,a2⟩:=(ht b (by simp[W2])).2 h1 h2
  exact .Qb (s b) off len v a1 a2 h3
 | ptr b i off B o k h1 h2 h3=>
  intro ht
  obtain⟨k',a1,a2,a3,a4⟩:=(ht b (by simp[W2])).1 k h1
  rw[<-a2]
  exact .ptr (s b) i off B o k' a1 (a4.trans h2) (by grind)
 | mp b B k h1 h2 h3=>
  intro ht
  obtain⟨k',a1,a2,a3,a4⟩:=(ht b (by simp[W2])).1 k h1
  exact .mp (s b) B k' a1 (a4.trans h2) (by grind)
 | QT b v h1 h2 h3=>
  intro ht
  obtain⟨a1,a2⟩:=(ht b (by simp[W2])).2 h1 h2
  exact .QT (s b) v a1 a2 h3
 | QK b i off v h1 h2 h3=>
  intro ht
  obtain⟨a1,a2⟩:=(ht b (by simp[W2])).2 h1 h2
  exact .QK (s b) i off v a1 a2 h3
 | fn f first captured fs cs h1 h2 _ _ ih1 ih2=>
  intro ht
  refine .fn f _ _ fs cs (by rw[P5];exact h1) (by rw[P5];exact h2) (λi c v hc hv=>?_) (λi c v hc hv=>?_)
  ·obtain⟨c0,k1,rfl⟩:=P6 hc
   grind [R2,W2]
  ·obtain⟨c0,k1,rfl⟩:=P6 hc
   grind [R2,W2]
 | agg cells vs h1 _ ih=>
  intro ht
  refine .agg _ vs (by rw[P5];exact h1) λi c v hc hv=>?_
  obtain⟨c0,k1,rfl⟩:=P6 hc
  grind [R2,W2]
 | Qt cells vs h1 _ ih=>
  intro ht
  refine .Qt _ vs (by rw[P5];exact h1) λi c v hc hv=>?_
  obtain⟨c0,k1,rfl⟩:=P6 hc
  grind [R2,W2]
theorem VV(s:Nat->Nat)(γ:Gh)(w:World)(t:K7)(c:V)(v:Value):D3 γ w t (H8 s c) v=D3 γ w t c v:=by
 cases c<;>rfl
def K7.Qc(K:zh)(s:Nat->Nat):Option K7->Option K7
 | some (.ZQ b)=>if K b then some (.ZQ (s b)) else none
 | some (.nest b i j)=>if K b then some (.nest (s b) i j) else none
 | none=>none
def St.after(st:St)(J:zh)(s r:Nat->Nat)(outs:zg):St:=
 { st with b:=λj=>if J j then (outs (s j)).map (·.Qc r) else st.b j,u:=λj=>J j || st.u j }
theorem D4.Qc{γ1 γ2:Gh}{w:World}{bs1 bs2:zg}{u1 u2:zh}{s:Nat->Nat}{b:Nat}{k:Qi}(h:D4 γ1 w bs1 u1 b k)
  (hl:γ2.loc (s b)=γ1.loc b) (hm:∀B,γ2.Qp B=γ1.Qp B) (hob:∀B,γ1.own B=some (.ZQ b)->γ2.own B=some (.ZQ (s b))) (hon:∀B i j,γ1.own B=some (.nest b i j)->γ2.own B=some (.nest (s b) i j))
  (hr:∀b',b'∈E5 k.rows.flatten->Tr γ1 bs1 u1 γ2 bs2 u2 s b'):D4 γ2 w bs2 u2 (s b) (k.Qc s):=by
 rcases h with⟨h0,h00⟩|hm'|⟨hM,B,o,cs,e,a1,a2,a3,a4,a5,a6,a7,a8⟩
 ·exact .inl (by grind [Qi.Qc])
 ·refine .inr (.inl (hm'.cW hl (by grind) rfl (by simp[Qi.Qc]) (λr hr=>?_) λi c hc=>?_))
  ·obtain⟨r0,h1,rfl⟩:=zH.1 hr
   obtain⟨_,_,_,_,_,_,_,_,h5,_⟩:=hm'
   grind [P5]
  ·have hc':(N4 s k.rows.flatten)[i]?=some c:=by rw[<-YD];exact hc
   obtain⟨c0,k1,rfl⟩:=P6 hc'
   exact⟨c0,k1,λv hv=>hv.Qc (by grind) (λ_ _ h=>h) (by grind [R2])⟩
 refine .inr (.inr ⟨hM,B,o,cs,e,hl.trans a1,hob B a2,a3,λr hr=>?_,by simpa[Qi.Qc] using a5,λi c hc=>?_,λhx=>(hm B).trans (a7 hx),by grind [Qi.Qc]⟩)
 ·obtain⟨r0,h1,rfl⟩:=zH.1 hr
  rw[P5];exact a4 r0 h1
 ·have hc':(N4 s k.rows.flatten)[i]?=some c:=by rw[<-YD];exact hc
  obtain⟨c0,k1,rfl⟩:=P6 hc'
  obtain⟨v,v1,v2,v3,v4⟩:=a6 i c0 k1
  refine⟨v,v1,v2.Qc (by grind) (λ_ _ h=>h) (by grind [R2]),v3,?_⟩
  show D3 γ2 w (.nest (s b) (i / k.size) (i % k.size)) (H8 s c0) v
  rw[VV]
  unfold D3 at v4 ⊢
  grind
def WJ(P:Program)(G:ze)(o:Oper)(st0:St)(f:FuncId)(E:Value->Ending)(res:V)(st:St):Prop:=
 ∀(γ0:Gh) (a:Act) (w:World),Qs G γ0 st0 a.tmps w->∃as,(execOp a.eval o).run P w=.ok (.enter f as) w/\Calls P f as w λe w'=>∃v γ',e=E v/\Qs G γ' st a.tmps w'/\
  Qu γ' w' st.b st.u res v/\Qa γ0 w γ' w'/\Zr γ0 st0.b st0.u γ' st.b st.u
theorem WJ.Qes{P:Program}{G:ze}{o:Oper}{st0 st:St}{f:FuncId}{res:V}(h:WJ P G o st0 f .returned res st)(hdst:H7 st.n o.dst=true):I2 P G o st0 (st.put o.dst res):=by
 intro fx γ0 a w hs0 had next Q hn0
 obtain⟨as,hrun,hcs⟩:=h γ0 a w hs0
 show o.upon P a next Q _
 rw[hrun,Oper.upon_enter]
 refine hcs.mono λe w' hp=>?_
 obtain⟨v,γ',rfl,hs',hrep,g,p⟩:=hp
 refine hn0 _ _ γ' (hs'.put (dst:=o.dst) hdst hrep) g ?_ (by rw[D6];exact had)
 cases o.dst<;>exact p
theorem WJ.Qep{P:Program}{G:ze}{o:Oper}{st0 st:St}{f:FuncId}{res:V}{ch:List PanicEntry}(h:WJ P G o st0 f (λ_=>.panicked ch) res st):Qw0 P G o st0 (.panic ch) st:=by
 intro fx γ0 a w hs0 had next Q hq
 obtain⟨as,hrun,hcs⟩:=h γ0 a w hs0
 show o.upon P a next Q _
 rw[hrun,Oper.upon_enter]
 refine hcs.mono λe w' hp=>?_
 grind
theorem PN{P:Program}{G:ze}{o:Oper}{st0 st:St}{f:FuncId}{cs:List V}{res:V}{E:Value->Ending}{ins outs:zg}(K Kin:zh)(r s:Nat->Nat)
  (hcall:∀(γ:Gh) (a:Act) (w:World),Qs G γ st0 a.tmps w->∃(γ1:Gh) (as:Array Value),Qs G γ1 st a.tmps w/\Qa γ w γ1 w/\Zr γ st0.b st0.u γ1 st.b st.u/\(execOp a.eval o).run P w=.ok (.enter f as) w/\U4 γ1 w st.b st.u cs as)
  (hrs:∀c,K c=true->s (r c)=c) (hKin:∀c,Kin c=true->K c=true/\X1 c=true)
  (hin:∀c,Kin c=true->∃k,st.b (r c)=some k/\ins c=some (k.Qc s)/\∀b,b∈E5 k.rows.flatten->Kin (s b)=true/\r (s b)=b)
  (hins:∀c,Kin c=false->ins c=none) (hfresh:∀c,K c=true->Kin c=false->st.u (r c)=false)
  (hout:∀c k,outs c=some k->K c=true/\∀b,b∈E5 k.rows.flatten->K b=true) (hres:∀b,b∈W2 res->K b=true)
  (hargs:∀b,b∈E5 cs->Kin (s b)=true/\r (s b)=b)
  (hc:Wz P G f (N4 s cs) ins E res outs) :
  WJ P G o st0 f E (H8 r res) (st.after (λj=>K (s j)&&(r (s j)==j)) s r outs):=by
 intro γ0 a w hs0
 obtain⟨γ,as,hs,g0,p0,hrun,has⟩:=hcall γ0 a w hs0
 refine⟨as,hrun,?_⟩
 let J:Nat->Bool:=λj=>K (s j)&&(r (s j)==j)
 let Jin:Nat->Bool:=λj=>Kin (s j)&&(r (s j)==j)
 have hJin:∀j,Jin j=true->J j=true:=(by grind)
 have hJr:∀c,K c=true->J (r c)=true:=(by grind)
 have hJinr:∀c,Kin c=true->Jin (r c)=true:=(by grind)
 have hJe:∀j,J j=true->K (s j)=true/\r (s j)=j:=(by grind)
 let γc:Gh:={ loc:=λc=>if Kin c then γ.loc (r c) else none,own:=λB=>K7.Qc Jin s (γ.own B),Qp:=γ.Qp }
 have hcown:∀B,γ.own B=none->γc.own B=none:=(by grind [K7.Qc])
 have trIn:∀b,Kin (s b)=true->r (s b)=b->Tr γ st.b st.u γc ins Qk s b:=λb h1 h2=>by
  obtain⟨k,k1,k2,_⟩:=hin _ h1
  rw[h2] at k1
  refine⟨λk' hk'=>?_,(by grind)⟩
  rw[k1] at hk';simp only[zy] at hk';subst hk'
  exact⟨_,k2,rfl,by simp[Qi.Qc],by grind⟩
 have hargs':U4 γc w ins Qk (N4 s cs) as:=⟨by rw[P5];exact has.1,λi c v hc hv=>by
  obtain⟨c0,k1,rfl⟩:=P6 hc
  exact(has.2 i c0 v k1 hv).Qc (γ1:=γ) (γ2:=γc) (by grind) (λ_ _ h=>h) (by grind [R2])⟩
 have hblk:∀b k,ins b=some k->Qk b=true/\D4 γc w ins Qk b k:=λc k' hk'=>by
  have hK:Kin c=true:=by
   grind
  obtain⟨k,k1,k2,k3⟩:=hin c hK
  rw[k2] at hk';simp only[zy] at hk';subst hk'
  refine⟨Hu (hKin c hK).2,?_⟩
  have hsc:=hrs c (hKin c hK).1
  have:=(hs.b _ k k1).Qc (γ2:=γc) (bs2:=ins) (u2:=Qk) (s:=s) (by grind) (λ_=>rfl) (by grind [K7.Qc]) (by grind [K7.Qc])
   (by grind)
  grind
 have hcb:∀B x,γc.own B=some x->B < w.heap.size:=λB x hx=>by
  cases hB:γ.own B with
  | none=>grind
  | some y=>exact hs.o B y hB
 refine(hc γc w as (λg cells hg=>hs.g g cells hg) hcb hargs' hblk).mono λe w' hp=>?_
 obtain⟨v,γe,rfl,hg,hpin,hrep,hbo,hown⟩:=hp
 let γ':Gh:={ loc:=λj=>if J j then γe.loc (s j) else γ.loc j,own:=λB=>if B < w.heap.size/\γc.own B=none then γ.own B else K7.Qc K r (γe.own B),Qp:=γe.Qp }
 have g:Qa γ w γ' w':=by
  refine⟨hg.os,hg.tape,hg.output,hg.size,λB o v hl hc=>hg.NS B o v hl hc,λB hB=>hg.Qp B hB,λB hB ho=>?_,hg.room⟩
  obtain⟨a1,a2,a3⟩:=hg.free B hB (hcown B ho)
  grind
 have fresh:∀j,J j=true->st.u j=true->Kin (s j)=true:=(by grind)
 have bl:F0 γ st.b st.u γ' (st.after J s r outs).b (st.after J s r outs).u:=by
  refine⟨(by grind [St.after]),λb hb hnb=>?_,λb k hk=>⟨by simp[St.after,hs.u b k hk],?_⟩⟩
  ·grind [St.after]
  ·simp only[St.after]
   cases hj:J b with
   | false=>grind
   | true=>
    have hK:=fresh b hj (hs.u b k hk)
    obtain⟨k0,k1,k2,_⟩:=hin _ hK
    rw[(hJe b hj).2,hk] at k1;simp only[zy] at k1;subst k1
    have hge:X1 (s b)=true:=(hKin _ hK).2
    obtain⟨_,hp⟩:=(hpin (s b) hge).2.2 _ k2
    rcases hp with hp|⟨k',p1,p2,p3,p4⟩
    ·grind
    ·right
     refine⟨k'.Qc r,by simp[p1],p2,by simpa[Qi.Qc] using p3,?_⟩
     grind
 have ownE:∀B x,γe.own B=some x->γ'.own B=K7.Qc K r (some x):=λB x hx=>by
  show (if B < w.heap.size/\γc.own B=none then γ.own B else K7.Qc K r (γe.own B))=_
  rw[if_neg,hx]
  rintro⟨h1,h2⟩
  have:=(hg.free B h1 h2).2.1
  grind
 have trOut:∀b,K b=true->Tr γe outs (λ_=>true) γ' (st.after J s r outs).b (st.after J s r outs).u r b:=λb hb=>by
  refine⟨λk hk=>⟨k.Qc r,?_,rfl,by simp[Qi.Qc],?_⟩,λhk _=>⟨?_,?_⟩⟩
  ·simp_all [if_true,ww,St.after]
  ·grind
  ·simp_all [if_true,Option.map_none,St.after]
  simp_all [Bool.true_or,St.after]
 have hs':Qs G γ' (st.after J s r outs) a.tmps w':=by
  refine⟨hs.n,λi=>(hs.t i).mono g bl,λb k hk=>?_,λb k hk=>?_,hs.g.grow g,λB x hx=>?_⟩
  ·have hk':=hk
   simp only[St.after] at hk
   cases hj:J b with
   | true=>
    simp only[hj,if_true] at hk
    obtain⟨k0,k1,rfl⟩:=zE.1 hk
    obtain⟨j1,j2⟩:=hJe b hj
    have:=(hbo _ k0 k1).Qc (γ2:=γ') (bs2:=(st.after J s r outs).b) (u2:=(st.after J s r outs).u) (s:=r) (by grind) (λ_=>rfl)
     (by grind [K7.Qc]) (by grind [K7.Qc]) (by grind)
    grind
   | false=>
    simp only[hj] at hk
    have hk:st.b b=some k:=by simpa using hk
    have hji:Jin b=false:=by
     grind
    rcases hs.b b k hk with⟨h0,h00⟩|hm'|⟨hM,B,o,cs',e,a1,a2,a3,a4,a5,a6,a7,a8⟩
    ·exact .inl (by grind)
    ·refine .inr (.inl (hm'.same (by simp only[γ',hj];simp) (λB _ hB=>?_) λc v hr=>hr.mono g bl))
     have hcn:γc.own B=none:=by simp[γc,hB,K7.Qc,hji]
     obtain⟨f1,f2,f3⟩:=hg.free B (hs.o B _ hB) hcn
     refine⟨?_,f1⟩
     show (if B < w.heap.size/\γc.own B=none then γ.own B else K7.Qc K r (γe.own B))=_
     rw[if_pos ⟨hs.o B _ hB,hcn⟩];exact hB
    have oc:∀B',(γ.own B'=some (.ZQ b)\/∃i j,γ.own B'=some (.nest b i j))->γc.own B'=none:=λB' hB'=>by
     rcases hB' with hB'|⟨i,j,hB'⟩<;>simp[γc,hB',K7.Qc,hji]
    have oB:∀B',(γ.own B'=some (.ZQ b)\/∃i j,γ.own B'=some (.nest b i j))->B' < w.heap.size:=λB' hB'=>by
     rcases hB' with hB'|⟨i,j,hB'⟩<;>exact hs.o B' _ hB'
    have fr:∀B',(γ.own B'=some (.ZQ b)\/∃i j,γ.own B'=some (.nest b i j))->w'.heap[B']?=w.heap[B']?/\γ'.own B'=γ.own B'/\γe.Qp B'=γ.Qp B':=λB' hB'=>by
     obtain⟨f1,f2,f3⟩:=hg.free B' (oB B' hB') (oc B' hB')
     refine⟨f1,?_,f3⟩
     show (if B' < w.heap.size/\γc.own B'=none then γ.own B' else K7.Qc K r (γe.own B'))=_
     rw[if_pos ⟨oB B' hB',oc B' hB'⟩]
    obtain⟨f1,f2,f3⟩:=fr B (.inl a2)
    refine .inr (.inr ⟨hM,B,o,cs',e,by simp only[γ',hj];simpa using a1,f2.trans a2,a3.of_eq f1,a4,a5,λi c hc=>?_,λhx=>f3.trans (a7 hx),by show γe.Qp B<=_;rw[f3];exact a8⟩)
    obtain⟨y,b1,b2,b3,b4⟩:=a6 i c hc
    refine⟨y,b1,b2.mono g bl,b3,?_⟩
    replace b4:=b4.grow g (λB hB=>by
     show γe.Qp B<=_;rw[(fr B (.inr ⟨_,_,hB⟩)).2.2];exact zI _)
    unfold D3 at b4 ⊢
    split at b4
    ·rename_i size rows ad l cp
     rcases b4 with b4|b4
     ·exact .inl b4
     obtain⟨q1,q2,q3⟩:=fr ad.block (.inr ⟨_,_,b4.1.1⟩)
     exact .inr ⟨⟨q2.trans b4.1.1,by show γe.Qp _<=_;rw[q3];exact b4.1.2⟩,b4.2⟩
    ·trivial
  ·simp only[St.after] at hk ⊢
   cases hj:J b with
   | true=>rfl
   | false=>simp only[hj] at hk;simpa using hs.u b k (by simpa using hk)
  ·by_cases hB:B < w.heap.size/\γc.own B=none
   ·exact wG hB.1 hg.size
   ·simp only[γ'] at hx
    rw[if_neg hB] at hx
    cases hB2:γe.own B with
    | none=>rw[hB2] at hx;simp[K7.Qc] at hx
    | some y=>exact hown B y hB2
 exact⟨v,γ',rfl,hs',hrep.Qc (γ1:=γe) (γ2:=γ') (bs2:=(st.after J s r outs).b) (u2:=(st.after J s r outs).u) (s:=r) (λB o v h1 h2=>⟨h1,h2⟩) (λ_ _ h=>h) λb hb=>trOut b (hres b hb),g0.trans g,p0.trans bl.JH⟩
end Go.EV
namespace Go.EV
open Go
def Ix(st:St)(o:Oper):List Nat:=match o.op with
 | .move _=>[]
 | .assign _=>[]
 | _=>(Y3 o).flatMap λt=>W2 (st.t t)
def Me(ops:Array Oper)(i:Nat)(st:St)(ex:List Nat):List Loc:=
 match ops[i]? with
 | none=>[]
 | some o=>JL ops o++(Y3 o).map .t++(Ix st o).map .b++ex.map .b++(match o.dst with|some d=>[.b d]|none=>[])
def mY(P:Program)(G:ze)(o:Oper)(st:St)(ex:List Nat)(ws:List Wr):Prop:=
 ∀st2:St,st2.n=st.n->(∀t,t∈Y3 o->st2.t t=st.t t)->(∀b,b∈Ix st o++ex->st2.b b=st.b b/\st2.u b=st.u b)->(∀d,o.dst=some d->st2.b d=st.b d/\st2.u d=st.u d)->I2 P G o st2 (st2.app ws)
theorem Em{ops:Array Oper}{i:Nat}{o:Oper}{st st2:St}{ex:List Nat}(hi:ops[i]?=some o)(hg:M6 ops st o=some true)(hn:st2.n=st.n)(hag:∀l,l∈Me ops i st ex->O0 st st2 l) :
  M6 ops st2 o=some true/\(∀t,t∈Y3 o->st2.t t=st.t t)/\(∀b,b∈Ix st o++ex->st2.b b=st.b b/\st2.u b=st.u b)/\∀d,o.dst=some d->st2.b d=st.b d/\st2.u d=st.u d:=by
 unfold Me at hag
 rw[hi] at hag
 simp only at hag
 refine⟨by grind [Ug],λt ht=>?_,λb hb=>?_,λd hd=>?_⟩
 ·exact Eq.symm (show st.t t=st2.t t from hag (.t t) (by simp[ht]))
 ·have:O0 st st2 (.b b):=(by grind)
  exact⟨this.1.symm,this.2.symm⟩
 ·have:O0 st st2 (.b d):=(by grind)
  exact⟨this.1.symm,this.2.symm⟩
theorem AV{P:Program}{G:ze}{ops:Array Oper}{i:Nat}{o:Oper}{st:St}{ex:List Nat}{ws:List Wr}(hi:ops[i]?=some o)(hg:M6 ops st o=some true)(h:mY P G o st ex ws) :
  X4 P G ops i st (Me ops i st ex) ws:=by
 intro st2 hn hag
 obtain⟨h1,h2,h3,h4⟩:=Em hi hg hn hag
 unfold P1
 rw[hi]
 exact .inl ⟨h1,h st2 hn h2 h3 h4⟩
def U9(p:Y4)(st:St):Nat->St
 | 0=>st
 | n+1=>(U9 p st n).app (p.ws n)
theorem Ux(p:Y4)(st:St)(i:Nat):∀n,p.st (λj=>decide (j < i)) st n=U9 p st (min i n)
 | 0=>by simp[Y4.st,U9]
 | n+1=>by
  simp only[Y4.st]
  rw[Ux p st i n]
  by_cases h:n < i
  ·rw[if_pos (by simpa using h),show min i n=n by omega,show min i (n+1)=n+1 by omega];rfl
  grind
theorem XX(p:Y4)(st:St):∀n,p.st (λ_=>true) st n=U9 p st n
 | 0=>rfl
 | n+1=>by simp only[Y4.st,if_true,XX p st n,U9]
theorem U6.Cf{P:Program}{G:ze}{ops:Array Oper}{Q:Exit->St->Prop}{p:Y4}{st:St}(h:∀i,i < ops.size->X4 P G ops i (U9 p st i) (p.rs i) (p.ws i))(hq:Q .normal (U9 p st ops.size)) :
  ∀n k,k+n=ops.size->U6 P G ops (List.range' k n) (U9 p st k) Q
 | 0,k,hk=>by
  grind [U6.nil]
 | n+1,k,hk=>by
  rw[List.range'_succ]
  exact U6.cons (h k (by omega) _ rfl (λl _=>O0.refl _ l)) (U6.Cf h hq n (k+1) (by omega))
def KK(ops:Array Oper)(p:Y4):Bool:=p.ok ops&&(ops.toList.zipIdx.all λx=>x.1.after.all λe=>!Region.binds .any e || decide (e.on < x.2))
def JK(ops:Array Oper)(i:Nat)(s:St):Option Oper:=
 match ops[i]? with
 | some o=>match M6 ops s o with
  | some true=>some o
  | _=>none
 | none=>none
theorem Ee{ops:Array Oper}{i:Nat}{s:St}{o:Oper}(h:JK ops i s=some o):ops[i]?=some o/\M6 ops s o=some true:=by
 grind [JK]
def St.Dy(G:ze)(s:St)(o:Oper):Operand->Option V:=(s.QV (Y3 o)).ev G
def St.QO(s:St)(o:Oper)(ex:List Nat):zg:=EZ s.b (Ix s o++ex)
theorem T5{G:ze}{s s2:St}{o:Oper}(h:∀t,t∈Y3 o->s2.t t=s.t t):(s2.QV (Y3 o)).ev G=s.Dy G o:=funext λx=>by
 unfold St.Dy
 have e:(s2.QV (Y3 o)).t=(s.QV (Y3 o)).t:=funext λj=>by
  show (if (Y3 o).contains j then s2.t j else .undef)=(if (Y3 o).contains j then s.t j else .undef)
  grind
 simp_all [St.ev]
theorem V2{s s2:St}{o:Oper}{ex:List Nat}(h:∀b,b∈Ix s o++ex->s2.b b=s.b b/\s2.u b=s.u b):EZ s2.b (Ix s o++ex)=s.QO o ex:=funext λj=>by
 simp_all [St.QO,EZ]
theorem Et{P:Program}{G:ze}{o:Oper}{s:St}{ex:List Nat}{c:V}(hd:H7 s.n o.dst=true)(h:YX P (s.Dy G o) (s.QO o ex) o.op=some c):mY P G o s ex (KW o.dst c):=by
 intro s2 hn ht hb _
 rw[HB]
 exact M4 (by grind) λγ a w hs=>Eu (hs.QV (Y3 o)) (XE (Yh s2.b (Ix s o++ex)) (by
  grind [T5,V2,YX,Y3]))
theorem V0{P:Program}{G:ze}{ops:Array Oper}{s:St}{i:Nat}{ex:List Nat}{ws:List Wr}
  (h:∃o,JK ops i s=some o/\mY P G o s ex ws):X4 P G ops i s (Me ops i s ex) ws:=by
 grind [Ee,AV]
section
variable {P:Program} {G:ze} {ops:Array Oper} {s:St} {i:Nat} {ex:List Nat}
def DX(P:Program)(t:TypeId):Option Nat:=match P.underlying t with
 | some (.slice e)=>(P.info? e).map (·.size)
 | _=>none
def jM(P:Program)(G:ze)(ops:Array Oper)(i:Nat)(s:St):Option (Nat×List (List V)×Int):=
 match JK ops i s with
 | some o=>match o.op,o.dst with
  | .indexAddr t x j,some d=>if d < s.n then match s.Dy G o x,s.Dy G o j with
    | some (.sl _ size rows),some (.int _ n)=>if DX P t=some size then some (d,rows,n) else none
    | _,_=>none
   else none
  | _,_=>none
 | none=>none
theorem Rl{d:Nat}{rows:List (List V)}{n:Int}{r:List V}(h1:jM P G ops i s=some (d,rows,n))(h0:0<=n)(hr:rows[n.toNat]?=some r):X4 P G ops i s (Me ops i s ex) ([.t d (.snap r)]):=V0 (by
 simp only[jM] at h1
 split at h1
 ·rename_i o ho
  refine⟨o,ho,?_⟩
  split at h1
  ·rename_i t x j d' hop hdst
   split at h1
   ·rename_i hd
    split at h1
    ·rename_i ow size rows' k n' hx hj
     split at h1<;>simp at h1
     rename_i hsz
     obtain⟨rfl,rfl,rfl⟩:=h1
     have:=Et (P:=P) (G:=G) (o:=o) (s:=s) (ex:=ex) (c:=.snap r) (by grind [H7]) (by
      rw[hop]
      simp only[YX,hx,hj,F7]
      unfold DX at hsz
      grind)
     rw[hdst] at this;exact this
    ·simp at h1
   ·simp at h1
  ·simp at h1
 ·simp at h1)
def Qej(P:Program)(G:ze)(ops:Array Oper)(ex:List Nat)(i:Nat)(s:St):Option (Nat×Nat×Nat×Nat×Int):=
 match JK ops i s with
 | some o=>match o.op,o.dst with
  | .indexAddr t x j,some d=>if d < s.n then match s.Dy G o x,s.Dy G o j with
    | some (.ref b off len),some (.int _ n)=>match s.QO o ex b with
     | some k=>if DX P t=some k.size then some (d,b,off,len,n) else none
     | none=>none
    | _,_=>none
   else none
  | _,_=>none
 | none=>none
def LM(G:ze)(ops:Array Oper)(ex:List Nat)(i:Nat)(s:St):Option (TypeId×Nat×List (List V)×Nat×Nat):=
 match JK ops i s with
 | some o=>match o.op,o.dst with
  | .load t x,some d=>if d < s.n then match s.Dy G o x with
    | some (.ptr b r off)=>match s.QO o ex b with
     | some k=>some (t,d,k.rows,r,off)
     | none=>none
    | _=>none
   else none
  | _,_=>none
 | none=>none
theorem OO{t:TypeId}{d j off:Nat}{rows:List (List V)}{r:List V}{c:V}(h1:LM G ops ex i s=some (t,d,rows,j,off))(hr:rows[j]?=some r)(hc:F6 P t (r.drop off)=some c) :
  X4 P G ops i s (Me ops i s ex) ([.t d c]):=V0 (by
 simp only[LM] at h1
 split at h1
 ·rename_i o ho
  refine⟨o,ho,?_⟩
  split at h1
  ·rename_i t' x d' hop hdst
   split at h1
   ·rename_i hd
    split at h1
    ·rename_i b r' off' hx
     split at h1<;>simp at h1
     rename_i k hk
     obtain⟨rfl,rfl,rfl,rfl,rfl⟩:=h1
     have:=Et (P:=P) (G:=G) (o:=o) (s:=s) (ex:=ex) (c:=c) (by grind [H7]) (by
      grind [YX,Ai,Jo])
     rw[hdst] at this;exact this
    ·simp at h1
   ·simp at h1
  ·simp at h1
 ·simp at h1)
def Wh(P:Program)(t:TypeId)(size:Nat)(r:List V)(off:Nat)(c:V):Option (List V):=
 match P.info? t,NY c with
 | some ti,some cs=>if ti.size=cs.length/\off+cs.length<=size then some (G1 r off cs) else none
 | _,_=>none
def Xf(G:ze)(ops:Array Oper)(ex:List Nat)(i:Nat)(s:St):Option (TypeId×Nat×Nat×List (List V)×Nat×Nat×V):=
 match JK ops i s with
 | some o=>match o.op,o.dst with
  | .store t x y,none=>match s.Dy G o x,s.Dy G o y with
   | some (.ptr b r off),some c=>match s.QO o ex b with
    | some k=>if k.Qn=true then some (t,b,k.size,k.rows,r,off,c) else none
    | none=>none
   | _,_=>none
  | _,_=>none
 | none=>none
theorem Xi{t:TypeId}{b size j off:Nat}{rows:List (List V)}{r r':List V}{c:V}(h1:Xf G ops ex i s=some (t,b,size,rows,j,off,c))(hr:rows[j]?=some r)(hc:Wh P t size r off c=some r') :
  ∃o,JK ops i s=some o/\mY P G o s ex [.b b (some ⟨size,true,rows.set j r'⟩)]:=(by
 simp only[Xf] at h1
 split at h1
 ·rename_i o ho
  refine⟨o,ho,?_⟩
  split at h1
  ·rename_i t' x y hop hdst
   split at h1
   ·rename_i b' r0 off' c' hx hy
    split at h1
    ·rename_i k hk
     split at h1<;>simp at h1
     rename_i hex
     obtain⟨rfl,rfl,rfl,rfl,rfl,rfl,rfl⟩:=h1
     intro s2 hn ht hb hu
     have hk2:EZ s2.b (Ix s o++ex) b'=some k:=by rw[V2 hb];exact hk
     have hkb:=Yh _ _ _ _ hk2
     have hst:C5 P t' k r0 off' c'=some ⟨k.size,true,k.rows.set r0 r'⟩:=by
      unfold Wh at hc
      unfold C5
      grind
     exact HO hop hdst (λ_ _ _ h=>(h.QV (Y3 o)).ev (by rw[T5 ht];exact hx)) (λ_ _ _ h=>(h.QV (Y3 o)).ev (by rw[T5 ht];exact hy)) hkb hst
    ·simp at h1
   ·simp at h1
  ·simp at h1
 ·simp at h1)
end
section
variable {P:Program} {G:ze} {ops:Array Oper} {s:St} {i:Nat} {ex:List Nat}
theorem uH{s:St}{ts:List Nat}{x:Operand}{c:V}(h:(s.QV ts).ev G x=some c):c=.undef\/s.ev G x=some c:=by
 cases x<;>try exact .inr h
 grind [Option.some.injEq,St.ev,St.QV]
def Tu(look:zg)(size:Nat)(c:V):Option (Src×Bool):=
 match c with
 | .Qj=>some (⟨none,0,size,true,[]⟩,true)
 | .ref b off len=>match look b with
  | some k=>some (⟨some b,off,size,k.Qn,(k.rows.drop off).take len⟩,k.size==size&&decide (off+len<=k.rows.length)&&(k.Qn || decide (off+len=k.rows.length)))
  | none=>none
 | _=>none
theorem Tj{look:zg}{size:Nat}{c:V}{d:Src}(h:Tu look size c=some (d,true)):LV look size c=some d:=by
 unfold Tu at h
 unfold LV
 grind
def BS(look:zg)(size:Nat)(dst:Option Nat)(c:V):Option (Src×Bool):=
 match c with
 | .Qj=>some (⟨none,0,size,true,[]⟩,true)
 | .sl _ s rows=>some (⟨none,0,size,true,rows.map (·.map V.strip)⟩,s==size)
 | .ref b off len=>match look b with
  | some k=>some ((if dst=some b then ⟨none,0,size,true,((k.rows.drop off).take len).map (·.map V.strip)⟩ else ⟨some b,off,size,true,(k.rows.drop off).take len⟩),k.size==size&&decide (off+len<=k.rows.length))
  | none=>none
 | _=>none
theorem BP{look:zg}{size:Nat}{dst:Option Nat}{c:V}{d:Src}(h:BS look size dst c=some (d,true)):Xs look size dst c=some d:=by
 unfold BS at h
 unfold Xs
 grind
def BZ(P:Program)(G:ze)(ops:Array Oper)(ex:List Nat)(i:Nat)(s:St):Option (Nat×Src×Src×Nat×Nat×Bool):=
  match JK ops i s with
  | some o=>match o.op,o.dst with
    | .call { callee:=.builtin .append,args:=as,argTypes:=ts },some d=>if d < s.n/\s.u d=false then match as.toList,ts.toList with
        | [x,y],[t,t2]=>match s.Dy G o x,s.Dy G o y,P.underlying t,P.underlying t2 with
          | some cx,some cy,some (.slice e),some (.slice _)=>match P.info? e with
            | some ei=>if 0 < ei.bytes/\(zeroV P e).map List.length=some ei.size then match Tu (s.QO o ex) ei.size cx with
                | some (ds,c1)=>match BS (s.QO o ex) ei.size ds.b cy with
                  | some (ss,c2)=>some (d,ds,ss,ei.size,ei.bytes,c1&&c2)
                  | none=>none
                | none=>none
              else none
            | none=>none
          | _,_,_,_=>none
        | _,_=>none
      else none
    | _,_=>none
  | none=>none
def Fz(b:Option Nat):List Wr:=match b with|some i=>[.b i none]|none=>[]
theorem Uy(s:St)(b:Option Nat)(ws:List Wr):s.app (Fz b++ws)=(s.QJ b).app ws:=by cases b<;>rfl
theorem Tz{l1 l2:zg}(h:G8 l1 l2){size:Nat}{c:V}{d:Src}(he:LV l1 size c=some d):LV l2 size c=some d:=by
 unfold LV at he ⊢
 split at he<;>try exact he
 rename_i b off len
 cases hb:l1 b with
 | none=>grind
 | some k=>rw[hb] at he;simp only[h b k hb];exact he
theorem BR{l1 l2:zg}(h:G8 l1 l2){size:Nat}{dst:Option Nat}{c:V}{d:Src}(he:Xs l1 size dst c=some d):Xs l2 size dst c=some d:=by
 unfold Xs at he ⊢
 split at he<;>try exact he
 rename_i b off len
 cases hb:l1 b with
 | none=>grind
 | some k=>rw[hb] at he;simp only[h b k hb];exact he
theorem OL{d size bytes m:Nat}{ds ss:Src}{c:Bool}{rows:List (List V)}(h1:BZ P G ops ex i s=some (d,ds,ss,size,bytes,c))(hc:c=true)(hb:(ds.rows.length+ss.rows.length) * bytes<=140737488355328)
  (hr:ds.rows++ss.rows=rows) (hm:ds.rows.length+ss.rows.length=m):∃o,JK ops i s=some o/\mY P G o s ex (Fz ds.b++(Fz ss.b++[.b d (some ⟨size,ds.Qn,rows⟩),.t d (.ref d 0 m)])):=(by
 subst hc hr hm
 simp only[BZ] at h1
 split at h1
 ·rename_i o ho
  refine⟨o,ho,?_⟩
  split at h1
  ·rename_i as ts d' hop hdst
   split at h1
   ·rename_i hd
    split at h1
    ·rename_i x y t t2 hxs hts
     split at h1
     ·rename_i cx cy e e2 hx hy ht ht2
      split at h1
      ·rename_i ei hi
       split at h1
       ·rename_i hz
        split at h1
        ·rename_i ds' c1 hds
         split at h1
         ·rename_i ss' c2 hss
          simp only[zy,zJ,zD] at h1
          obtain⟨rfl,rfl,rfl,rfl,rfl,rfl,rfl⟩:=h1
          intro s2 hn htm hbm hum
          have hax:as=#[x,y]:=(by grind)
          have hat:ts=#[t,t2]:=(by grind)
          subst hax hat
          have le:G8 (s.QO o ex) s2.b:=by rw[<-V2 hbm];exact Yh _ _
          have k1:=Tz le (Tj hds)
          have k2:=BR le (BP hss)
          have ex1:s2.ev G x=some cx:=by
           rcases uH (ts:=Y3 o) (s:=s2) (by rw[T5 htm];exact hx) with rfl|h
           ·simp[Tu] at hds
           ·exact h
          have ex2:s2.ev G y=some cy:=by
           rcases uH (ts:=Y3 o) (s:=s2) (by rw[T5 htm];exact hy) with rfl|h
           ·simp[BS] at hss
           ·exact h
          have:=Na (P:=P) (G:=G) (st:=s2) (ds0:=ds') (ss0:=ss') (k0:=⟨ei.size,ds'.Qn,ds'.rows++ss'.rows⟩) hop hdst (by grind) (by grind) ex1 ex2 (by
           simp_all [if_pos,MI])
          rw[Uy,Uy]
          exact this
         ·simp at h1
        ·simp at h1
       ·simp at h1
      ·simp at h1
     ·simp at h1
    ·simp at h1
   ·simp at h1
  ·simp at h1
 ·simp at h1)
def AA(P:Program)(G:ze)(ops:Array Oper)(i:Nat)(s:St):Option (Oper×FuncId×List V):=
 match JK ops i s with
 | some o=>match o.op with
  | .call { callee:=.value x,args:=xs,argTypes:=_ }=>if H7 s.n o.dst then match ZK G (s.QV (Y3 o)) x xs.toList with
    | some (f,cs)=>match P.funcs[f]? with
     | some fn=>if (fn.name== "runtime.NumGoroutine")=false/\fn.body.isNone=false then some (o,f,cs) else none
     | none=>none
    | none=>none
   else none
  | _=>none
 | none=>none
theorem MA{s s2:St}{o:Oper}(h:∀t,t∈Y3 o->s2.t t=s.t t)(x:Operand)(xs:List Operand):ZK G (s2.QV (Y3 o)) x xs=ZK G (s.QV (Y3 o)) x xs:=by
 unfold ZK
 rw[show (s2.QV (Y3 o)).ev G=(s.QV (Y3 o)).ev G from T5 h]
theorem Dk{s:St}{o:Oper}{f:FuncId}{cs:List V}(h:AA P G ops i s=some (o,f,cs)) :
  JK ops i s=some o/\H7 s.n o.dst=true/\∃x xs ts fn,o.op=.call { callee:=.value x,args:=xs,argTypes:=ts }/\ZK G (s.QV (Y3 o)) x xs.toList=some (f,cs)/\
   P.funcs[f]?=some fn/\(fn.name== "runtime.NumGoroutine")=false/\fn.body.isNone=false:=by
 unfold AA at h
 grind
def viewAt(P:Program)(G:ze)(ops:Array Oper)(ex:List Nat)(I1 i:Nat)(s:St):Option (Option Nat×FuncId×List V):=
 match AA P G ops i s with
 | some (o,f,cs)=>(K8 (E8 (s.QO o ex) I1) cs).map λds=>(o.dst,f,ds)
 | none=>none
theorem BL(I1:Nat){dst:Option Nat}{f:FuncId}{ds:List V}{r:V}(h1:viewAt P G ops ex I1 i s=some (dst,f,ds))(hc:kC P G f ds r)(hr:L9 r=true):X4 P G ops i s (Me ops i s ex) (KW dst r):=V0 (by
 simp only[viewAt] at h1
 split at h1
 ·rename_i o f' cs hca
  obtain⟨ds',hm,he⟩:=zE.1 h1
  simp only[zJ] at he
  obtain⟨rfl,rfl,rfl⟩:=he
  obtain⟨ho,hd,x,xs,ts,fn,hop,hcs,hfn,hna,hbo⟩:=Dk hca
  refine⟨o,ho,λs2 hn ht hb _=>?_⟩
  rw[HB]
  have le:G8 (s.QO o ex) s2.b:=by rw[<-V2 hb];exact Yh _ _
  exact AY (Y3 o) hop (by grind [MA]) hfn hna hbo (F5 hm λx y hx=>Xm le I1 x y hx) hc hr (by grind)
 ·simp at h1)
end
theorem PI{d:V}(hd:H4 d=true){γ:Gh}{w:World}{bs:zg}{u:zh}{v:Value}(hr:Qu γ w bs u d v):K3 γ.Qp w d v:=by
 cases hr with
 | data h=>exact h
 | undef=>simp[H4] at hd
 | ref=>simp[H4] at hd
 | Jk=>simp[H4] at hd
 | YW=>simp[H4] at hd
 | Qb=>simp[H4] at hd
 | ptr=>simp[H4] at hd
 | QK=>simp[H4] at hd
 | mp=>simp[H4] at hd
 | QT=>simp[H4] at hd
 | fn f first captured fs cs h1 h2 _ _=>
  simp only[H4,zD,List.isEmpty_iff] at hd
  obtain⟨rfl,rfl⟩:=hd
  exact .fn f [] [] fs cs h1 h2 (by grind) (by grind)
 | agg=>simp[H4] at hd
 | Qt=>simp[H4] at hd
def lZ(b:Nat)(k:Qi)(c:V):V:=
 match c with
 | .ref b' off len=>if b'=b then .sl false k.size ((k.rows.drop off).take len) else c
 | c=>c
theorem Qs.Vt{G:ze}{γ:Gh}{st:St}{tmps:Array Value}{w:World}(h:Qs G γ st tmps w){b:Nat}{k:Qi}(hb:st.b b=some k)(hd:∀r,r∈k.rows->∀c,c∈r->H4 c=true) :
  ∃γ',Qs G γ' (st.QC b) tmps w/\Qa γ w γ' w/\Zr γ st.b st.u γ' (st.QC b).b (st.QC b).u/\γ'.loc=γ.loc/\∀c v,Qu γ w st.b st.u c v->Qu γ' w (st.QC b).b (st.QC b).u (lZ b k c) v:=by
 let γ':Gh:={ loc:=γ.loc,own:=γ.own,Qp:=λB=>match γ.loc b with|some (B0,o)=>if B=B0 then max (γ.Qp B) (o+k.rows.length * k.size) else γ.Qp B|none=>γ.Qp B }
 have hlim:∀B,γ.Qp B<=γ'.Qp B/\(γ.own B≠some (.ZQ b)->γ'.Qp B=γ.Qp B):=λB=>by
  simp only[γ']
  rcases D4.at (h.b b k hb) with h0|⟨B0,o,a1,a2⟩
  ·grind
  grind
 have g:Qa γ w γ' w:=⟨rfl,rfl,rfl,zI _,λ_ _ _ _ h=>h,λB _=>(hlim B).1,(by grind),(by grind)⟩
 have bl:F0 γ st.b st.u γ' (st.QC b).b (st.QC b).u:=by
  refine⟨(by grind [St.QC]),(by grind [St.QC]),λx q hq=>⟨by simp only[St.QC];split;rfl;exact h.u x q hq,?_⟩⟩
  by_cases hx:x=b
  ·grind [St.QC]
  ·exact .inr ⟨q,by simp[St.QC,hx,hq],rfl,λ_=>rfl,rfl⟩
 refine⟨γ',⟨h.n,λi=>(h.t i).mono g bl,λx q hq=>?_,λx q hq=>?_,h.g.grow g,h.o⟩,g,bl.JH,rfl,λc v hr=>?_⟩
 ·have hne:x≠b:=(by grind [St.QC])
  have hq':st.b x=some q:=by grind [St.QC]
  rcases h.b x q hq' with h0|hm|⟨hM,B,o,cs,e,a1,a2,a3,a4,a5,a6,a7,a8⟩
  ·exact .inl h0
  ·exact .inr (.inl (hm.same rfl (by grind) λc v hr=>hr.mono g bl))
  have hl:γ'.Qp B=γ.Qp B:=(by grind)
  refine .inr (.inr ⟨hM,B,o,cs,e,a1,a2,a3,a4,a5,λi c hc=>?_,λhx=>hl.trans (a7 hx),by grind⟩)
  obtain⟨v,b1,b2,b3,b4⟩:=a6 i c hc
  exact⟨v,b1,b2.mono g bl,b3,b4.mono λB' hB'=>⟨hB',by simp_all⟩⟩
 ·simp only[St.QC] at hq ⊢
  split
  ·rfl
  ·rename_i hx;rw[if_neg hx] at hq;exact h.u x q hq
 ·cases c with
  | ref b' off len=>
   simp only[lZ]
   split
   rotate_left
   ·exact hr.mono g bl
   rename_i e
   subst e
   rcases hr.ZZ hb with⟨B,o,cap,rfl,hl,hlen,hcap,_,hM,_⟩|⟨B,rfl,rfl,_⟩|⟨rfl,rfl,_⟩
   ·rcases h.b b' k hb with⟨h0,_⟩|hm|⟨_,B',o',cs,e,g1,_,g3,g4,g5,g6,_,_⟩
    ·grind
    ·exact(hm.small hM).elim
    rw[hl] at g1;simp only[zy,zJ] at g1
    obtain⟨rfl,rfl⟩:=g1
    have hrl:((k.rows.drop off).take len).length=len:=by simp;omega
    have hat:∀(j:Nat) (c:V),((k.rows.drop off).take len).flatten[j]?=some c->∃x,(o+off * k.size+j < γ'.Qp B/\cellAt w B (o+off * k.size+j)=some x)/\K3 γ'.Qp w c x:=λj c hc=>by
     obtain⟨q1,_⟩:=HD k.rows g4 off len j c hc
     obtain⟨x,x1,x2,_⟩:=g6 _ c q1
     obtain⟨r,r1,r2⟩:=wO.1 (zQ q1)
     have hjl:off * k.size+j < k.rows.length * k.size:=by
      have e1:=(wh.1 q1).1
      have e2:k.rows.flatten.length=k.rows.length * k.size:=by
       rw[List.length_flatten]
       have:k.rows.map List.length=List.replicate k.rows.length k.size:=List.eq_replicate_iff.2 (by grind)
       simp_all
      omega
     refine⟨x,⟨?_,?_⟩,(PI (hd r r1 c r2) x2).mono (by grind)⟩
     ·grind
     ·rw[g3.cellAt]
      grind
    have:=K3.sl (Qp:=γ'.Qp) (w:=w) false k.size ((k.rows.drop off).take len) B (o+off * k.size) cap (λj=>(cellAt w B (o+off * k.size+j)).getD default) (by omega) (by grind)
     (by grind) (by grind)
    rw[hrl] at this
    exact .data this
   ·exact .data (by rw[List.take_zero];exact .Zc false k.size (some B))
   ·exact .data (by rw[List.take_zero];exact .Zc false k.size)
  | _=>exact hr.mono g bl
theorem Qs.share{G:ze}{γ:Gh}{st:St}{tmps:Array Value}{w:World}(h:Qs G γ st tmps w){b:Nat}{k:Qi}(hb:st.b b=some k)(hd:∀r,r∈k.rows->∀c,c∈r->H4 c=true) :
  ∃γ',Qs G γ' (st.QC b) tmps w/\Qa γ w γ' w/\Zr γ st.b st.u γ' (st.QC b).b (st.QC b).u/\∀c v,Qu γ w st.b st.u c v->Qu γ' w (st.QC b).b (st.QC b).u (lZ b k c) v:=by
 obtain⟨γ',h1,h2,h3,_,h4⟩:=h.Vt hb hd
 grind
def Sv(l:List (Nat×Qi))(c:V):V:=l.foldl (λc x=>lZ x.1 x.2 c) c
def St.Zs(st:St)(l:List (Nat×Qi)):St:=l.foldl (λs x=>s.QC x.1) st
theorem Qs.shares{G:ze}{tmps:Array Value}{w:World}:∀(l:List (Nat×Qi)) {γ:Gh} {st:St},Qs G γ st tmps w->(∀x,x∈l->st.b x.1=some x.2)->(l.map (·.1)).Nodup->
  (∀x,x∈l->∀r,r∈x.2.rows->∀c,c∈r->H4 c=true)->
  ∃γ',Qs G γ' (st.Zs l) tmps w/\Qa γ w γ' w/\Zr γ st.b st.u γ' (st.Zs l).b (st.Zs l).u/\∀c v,Qu γ w st.b st.u c v->Qu γ' w (st.Zs l).b (st.Zs l).u (Sv l c) v
 | [],γ,st,h,_,_,_=>⟨γ,h,.refl γ w,.refl h.u,λ_ _ h=>h⟩
 | x :: l,γ,st,h,hb,hn,hd=>by
  obtain⟨γ1,h1,g1,p1,r1⟩:=h.share (hb x (by simp)) (hd x (by simp))
  simp only[wj,List.nodup_cons] at hn
  obtain⟨γ2,h2,g2,p2,r2⟩:=Qs.shares l h1 (λy hy=>by
   have hne:y.1≠x.1:=(by grind)
   show (if y.1=x.1 then none else st.b y.1)=_
   grind) hn.2 (λy hy=>hd y (by simp[hy]))
  exact⟨γ2,h2,g1.trans g2,p1.trans p2,λc v hc=>r2 _ _ (r1 c v hc)⟩
theorem AU:∀(l:List (Nat×Qi)) (st:St),(st.Zs l).n=st.n/\(st.Zs l).t=st.t
 | [],_=>⟨rfl,rfl⟩
 | x :: l,st=>AU l (st.QC x.1)
theorem Ox:∀(l:List (Nat×Qi)) (st:St) (j:Nat),(∃x,x∈l/\x.1=j)->(st.Zs l).b j=none/\(st.Zs l).u j=true
 | [],st,j,h=>by grind
 | x :: l,st,j,h=>by
  by_cases hl:∃y,y∈l/\y.1=j
  ·exact Ox l (st.QC x.1) j hl
  ·have hx:x.1=j:=by
    grind
   have key:∀(l:List (Nat×Qi)) (st:St),(¬∃y,y∈l/\y.1=j)->(st.Zs l).b j=st.b j/\(st.Zs l).u j=st.u j:=by
    intro l
    induction l with
    | nil=>intro st _;exact⟨rfl,rfl⟩
    | cons y l ih=>
     intro st hn
     have:=ih (st.QC y.1) (λ⟨z,hz,e⟩=>hn ⟨z,by simp[hz],e⟩)
     have hne:j≠y.1:=(by grind)
     refine⟨this.1.trans ?_,this.2.trans ?_⟩
     ·show (if j=y.1 then none else st.b j)=_;grind
     ·show (if j=y.1 then true else st.u j)=_;grind
   have:=key l (st.QC x.1) hl
   refine⟨this.1.trans ?_,this.2.trans ?_⟩
   ·show (if j=x.1 then none else st.b j)=none;grind
   ·show (if j=x.1 then true else st.u j)=true;grind
theorem Uc:∀(l:List (Nat×Qi)) (st:St) (j:Nat),(¬∃x,x∈l/\x.1=j)->(st.Zs l).b j=st.b j/\(st.Zs l).u j=st.u j
 | [],st,j,_=>⟨rfl,rfl⟩
 | y :: l,st,j,hn=>by
  have:=Uc l (st.QC y.1) j (by grind)
  have hne:j≠y.1:=(by grind)
  refine⟨this.1.trans ?_,this.2.trans ?_⟩
  ·show (if j=y.1 then none else st.b j)=_;grind
  ·show (if j=y.1 then true else st.u j)=_;grind
theorem Oc(W:List (Nat×Option Qi))(st:St)(j:Nat)(h:¬∃x,x∈W/\x.1=j):(st.app (W.map λx=>.b x.1 x.2)).b j=st.b j/\(st.app (W.map λx=>.b x.1 x.2)).u j=st.u j:=
 O1 (l:=.b j) _ st λx hx e=>by
  obtain⟨y,hy,rfl⟩:=zH.1 hx
  grind [Loc.b.injEq,Wr.loc]
theorem MO(v:Option Qi):∀(W:List (Nat×Option Qi)) (st:St) (j:Nat),(∀x,x∈W->x.1=j->x.2=v)->(∃x,x∈W/\x.1=j)->(st.app (W.map λx=>.b x.1 x.2)).b j=v/\(st.app (W.map λx=>.b x.1 x.2)).u j=true
 | [],_,_,_,h=>by grind
 | x :: W,st,j,hv,h=>by
  by_cases hl:∃y,y∈W/\y.1=j
  ·exact MO v W (st.wr (.b x.1 x.2)) j (by grind) hl
  ·have hx:x.1=j:=by
    grind
   have k:=Oc W (st.wr (.b x.1 x.2)) j hl
   have hx2:=hv x (by simp) hx
   obtain⟨xa,xb⟩:=x
   simp only at hx hx2
   subst hx hx2
   refine⟨k.1.trans ?_,k.2.trans ?_⟩
   ·cases xb with
    | none=>show (if xa=xa then none else st.b xa)=none;simp
    | some q=>show (if xa=xa then some q else st.b xa)=some q;simp
   ·cases xb with
    | none=>show (if xa=xa then true else st.u xa)=true;simp
    | some q=>show (if xa=xa then true else st.u xa)=true;simp
theorem kD(W:List (Nat×Option Qi))(st:St):(st.app (W.map λx=>.b x.1 x.2)).n=st.n/\(st.app (W.map λx=>.b x.1 x.2)).t=st.t:=
 ⟨Ob _ _,funext λi=>O1 (l:=.t i) _ st λx hx e=>by
  obtain⟨y,_,rfl⟩:=zH.1 hx
  simp[Wr.loc] at e⟩
def J7(L:List (Nat×Nat))(c:Nat):Nat:=match L.find? (λx=>x.1==c) with|some x=>x.2|none=>0
def J5(L:List (Nat×Nat))(j:Nat):Nat:=match L.find? (λx=>x.2==j) with|some x=>x.1|none=>0
def Qe(l:List (Nat×Qi))(i:Nat):Option Qi:=match l.find? (λx=>x.1==i) with|some x=>some x.2|none=>none
abbrev Ie(L:List (Nat×Nat))(O:List (Nat×Qi))(sh:List Nat):List (Nat×Option Qi):=(L.map λ(x:Nat×Nat)=>(x.2,(Qe O x.1).map (Qi.Qc (J7 L))))++(sh.map λ(b:Nat)=>(b,none))
def ET(Li Lo:List (Nat×Nat))(sh:List Nat):Bool:=
 (Li++Lo).all (λx=>J7 (Li++Lo) x.1==x.2&&J5 (Li++Lo) x.2==x.1&&!sh.contains x.2)&&Li.all (λx=>X1 x.1)&&Lo.all (λx=>!(Li.any λy=>y.1==x.1))&&decide sh.Nodup
section
variable {P:Program} {G:ze} {ops:Array Oper} {s:St} {i:Nat} {ex:List Nat}
def MX(P:Program)(G:ze)(ops:Array Oper)(ex:List Nat)(Li Lo:List (Nat×Nat))(sh:List Nat)(i:Nat)(s:St):Option (Option Nat×FuncId×List V×List (Nat×Qi)×List (Nat×Qi)):=
 match AA P G ops i s with
 | some (o,f,cs)=>match K8 (λb=>(s.QO o ex b).map λk=>(b,k)) sh,K8 (λx=>(s.QO o ex x.2).map λk=>(x.1,k)) Li with
  | some shl,some bl=>if (E5 (cs.map (Sv shl))).all (λb=>Li.any λx=>x.2==b)=true/\Lo.all (λx=>ex.contains x.2&&!s.u x.2)=true then some (o.dst,f,N4 (J5 (Li++Lo)) (cs.map (Sv shl)),bl,shl) else none
  | _,_=>none
 | none=>none
theorem N0{l:List (Nat×Qi)}{c:Nat}{k:Qi}(h:Qe l c=some k):(c,k)∈l:=by
 grind [Option.some.injEq,List.mem_of_find?_eq_some,Qe]
theorem Xo(Li Lo:List (Nat×Nat))(sh:List Nat){dst:Option Nat}{f:FuncId}{as:List V}{bl shl I O:List (Nat×Qi)}{res:V}{E:Value->Ending}(hids:ET Li Lo sh=true)
  (h1:MX P G ops ex Li Lo sh i s=some (dst,f,as,bl,shl)) (hc:Wz P G f as (Qe I) E res (Qe O))
  (hI:bl.map (λx=>(x.1,x.2.Qc (J5 (Li++Lo))))=I) (hsd:∀x,x∈shl->∀r,r∈x.2.rows->∀c,c∈r->H4 c=true)
  (hbr:∀x,x∈bl->∀b,b∈E5 x.2.rows.flatten->(Li.any λx=>x.2==b)=true)
  (hO:∀x,x∈O->((Li++Lo).any λy=>y.1==x.1)=true/\∀b,b∈E5 x.2.rows.flatten->((Li++Lo).any λy=>y.1==b)=true)
  (hres:(W2 res).all (λb=>(Li++Lo).any λy=>y.1==b)=true) :
  ∃o,JK ops i s=some o/\(∀c,o.op≠.defer c)/\o.dst=dst/\H7 s.n o.dst=true/\∀s2:St,s2.n=s.n->(∀t,t∈Y3 o->s2.t t=s.t t)->(∀b,b∈Ix s o++ex->s2.b b=s.b b/\s2.u b=s.u b)->
   WJ P G o s2 f E (H8 (J7 (Li++Lo)) res) (s2.app ((Ie (Li++Lo) O sh).map λx=>Wr.b x.1 x.2)):=by
 subst hI
 simp only[MX] at h1
 split at h1
 ·rename_i o f' cs hca
  split at h1
  ·rename_i shl' bl' hshl hbl
   split at h1<;>simp at h1
   rename_i hcond
   obtain⟨rfl,rfl,rfl,rfl,rfl⟩:=h1
   obtain⟨ho,hd,x,xs,ts,fn,hop,hcs,hfn,hna,hbo⟩:=Dk hca
   refine⟨o,ho,(by grind),rfl,hd,λs2 hn ht hb=>?_⟩
   simp only[ET,zD,zG,beq_iff_eq,zC,wc] at hids
   obtain⟨⟨⟨i1,i2⟩,i3⟩,i4⟩:=hids
   have memAny:∀{l:List (Nat×Nat)} {c:Nat},(l.any λy=>y.1==c)=true->∃y,y∈l/\y.1=c:=(by grind)
   have memAny2:∀{l:List (Nat×Nat)} {c:Nat},(l.any λy=>y.2==c)=true->∃y,y∈l/\y.2=c:=(by grind)
   have anyMem:∀{l:List (Nat×Nat)} {y:Nat×Nat},y∈l->(l.any λz=>z.1==y.1)=true:=(by grind)
   have cr:∀y,y∈Li++Lo->J7 (Li++Lo) y.1=y.2:=λy hy=>(i1 y hy).1.1
   have ce:∀y,y∈Li++Lo->J5 (Li++Lo) y.2=y.1:=λy hy=>(i1 y hy).1.2
   have nsh:∀y,y∈Li++Lo->¬y.2∈sh:=(by grind)
   have inL:∀{y},y∈Li->y∈Li++Lo:=(by grind)
   have shfst:shl'.map (·.1)=sh:=by
    have:∀(l:List Nat) (r:List (Nat×Qi)),K8 (λb=>(s.QO o ex b).map λk=>(b,k)) l=some r->r.map (·.1)=l:=by
     intro l
     induction l with
     | nil=>grind [K8]
     | cons b l ih=>
      intro r h
      simp only[K8] at h
      split at h
      ·rename_i y r' e1 e2
       simp only[zy] at h;subst h
       obtain⟨k,_,rfl⟩:=zE.1 e1
       grind
      ·simp at h
    grind
   have le:∀b k,s.QO o ex b=some k->s2.b b=some k:=λb k h=>by rw[<-V2 hb] at h;exact Yh _ _ b k h
   have shb:∀y,y∈shl'->s2.b y.1=some y.2:=λy hy=>by
    obtain⟨j,hj⟩:=wI.1 hy
    obtain⟨b,_,e⟩:=L4 hshl j y hj
    obtain⟨k,e1,rfl⟩:=zE.1 e
    grind
   have shIn:∀j,(∃y,y∈shl'/\y.1=j)↔j∈sh:=(by grind)
   have ZQ:∀y,y∈Li->∃k,s.QO o ex y.2=some k/\(y.1,k)∈bl':=λy hy=>by
    obtain⟨j,hj⟩:=wI.1 hy
    have hlen:=Yc hbl
    have hjl:j < bl'.length:=by grind
    obtain⟨y',e0,e⟩:=L4 hbl j _ (wd hjl)
    grind [Option.some.injEq,Option.map_eq_some_iff,List.getElem_mem]
   have blFrom:∀z,z∈bl'->∃y,y∈Li/\y.1=z.1/\s.QO o ex y.2=some z.2:=λz hz=>by
    obtain⟨j,hj⟩:=wI.1 hz
    obtain⟨y,e0,e⟩:=L4 hbl j z hj
    grind
   let st1:=s2.Zs shl'
   have key:=PN (P:=P) (G:=G) (o:=o) (E:=E) (st0:=s2) (st:=st1) (cs:=cs.map (Sv shl')) (K:=λc=>(Li++Lo).any λy=>y.1==c) (Kin:=λc=>Li.any λy=>y.1==c) (J7 (Li++Lo)) (J5 (Li++Lo))
    (λγ a w hsim=>by
     obtain⟨γ1,q1,q2,q3,q4⟩:=hsim.shares shl' shb (by grind) hsd
     obtain⟨as,hrun,hargs⟩:=Ky (P:=P) (hsim.QV (Y3 o)) hop (by rw[MA ht];exact hcs) hfn hna hbo
     refine⟨γ1,as,q1,q2,q3,hrun,by rw[wq];exact hargs.1,λj c v hc hv=>?_⟩
     rw[zX,zE] at hc
     obtain⟨c0,k1,rfl⟩:=hc
     exact q4 c0 v (hargs.2 j c0 v k1 hv))
    (by grind)
    (by grind)
    (ins:=Qe (bl'.map λx=>(x.1,x.2.Qc (J5 (Li++Lo)))))
    (λc hK=>by
     obtain⟨y,hy,rfl⟩:=memAny hK
     obtain⟨k,e1,e2⟩:=ZQ y hy
     refine⟨k,?_,?_,λb hbk=>?_⟩
     ·grind [Uc,trans]
     ·unfold Qe
      cases hf:(bl'.map λx=>(x.1,x.2.Qc (J5 (Li++Lo)))).find? (λx=>x.1==y.1) with
      | none=>
       have:=List.find?_eq_none.1 hf (y.1,k.Qc (J5 (Li++Lo))) (by grind)
       simp at this
      | some z=>
       obtain⟨z0,z1,rfl⟩:=zH.1 (wW hf)
       have z2:z0.1=y.1:=by simpa using List.find?_some hf
       obtain⟨y',y1,y2,y3⟩:=blFrom z0 z1
       have:y'.2=y.2:=by rw[<-cr y' (inL y1),<-cr y (inL hy),y2,z2]
       rw[this,e1] at y3
       simp only[zy] at y3
       simp only[y3]
     ·obtain⟨z,hz,rfl⟩:=memAny2 (hbr _ e2 b hbk)
      rw[ce z (inL hz),cr z (inL hz)]
      exact⟨anyMem hz,rfl⟩)
    (λc hK=>by
     cases hf:Qe (bl'.map λx=>(x.1,x.2.Qc (J5 (Li++Lo)))) c with
     | none=>rfl
     | some k=>
      obtain⟨z0,z1,e⟩:=zH.1 (N0 hf)
      obtain⟨y,y1,y2,_⟩:=blFrom z0 z1
      simp only[zJ] at e
      have:=anyMem y1
      rw[y2,e.1,hK] at this;simp at this)
    (λc hK hKi=>by
     obtain⟨y,hy,rfl⟩:=memAny hK
     rw[cr y hy]
     have hyo:y∈Lo:=by
      rcases wa.1 hy with h|h
      ·have:=anyMem h;rw[hKi] at this;simp at this
      ·exact h
     have:=zG.1 hcond.2 y hyo
     simp only[zD,wc] at this
     have e:s2.u y.2=s.u y.2:=(hb y.2 (by have h:=this.1;simp at h;simp[h])).2
     exact(Uc shl' s2 y.2 (by rw[shIn];exact nsh y hy)).2.trans (e.trans this.2))
    (outs:=Qe O)
    (λc k hk=>by
     have:=hO _ (N0 hk)
     exact this)
    (λb hbr=>zG.1 hres b hbr)
    (λb hbr=>by
     obtain⟨z,hz,rfl⟩:=memAny2 (zG.1 hcond.1 b hbr)
     rw[ce z (inL hz),cr z (inL hz)]
     exact⟨anyMem hz,rfl⟩)
    hc
   have hst:st1.after (λj=>((Li++Lo).any λy=>y.1==J5 (Li++Lo) j)&&(J7 (Li++Lo) (J5 (Li++Lo) j)==j)) (J5 (Li++Lo)) (J7 (Li++Lo)) (Qe O) =
     s2.app ((Ie (Li++Lo) O sh).map λx=>Wr.b x.1 x.2):=by
    have nt:=kD (Ie (Li++Lo) O sh) s2
    refine St.ext' ((AU shl' s2).1.trans nt.1.symm) λl=>?_
    cases l with
    | t q=>exact congrFun ((AU shl' s2).2.trans nt.2.symm) q
    | b j=>
     by_cases hj:∃y,y∈Li++Lo/\y.2=j
     ·obtain⟨y,hy,rfl⟩:=hj
      have hJ:(((Li++Lo).any λz=>z.1==J5 (Li++Lo) y.2)&&(J7 (Li++Lo) (J5 (Li++Lo) y.2)==y.2))=true:=by
       rw[ce y hy,cr y hy,anyMem hy];simp
      obtain⟨k1,k2⟩:=MO ((Qe O y.1).map (Qi.Qc (J7 (Li++Lo)))) (Ie (Li++Lo) O sh) s2 y.2 (λz hz e=>by
       rcases wa.1 hz with hz|hz
       ·obtain⟨z0,hz0,rfl⟩:=zH.1 hz
        simp only at e ⊢
        rw[<-ce z0 hz0,e,ce y hy]
       ·obtain⟨b,hb0,rfl⟩:=zH.1 hz
        simp only at e
        exact absurd (e▸hb0) (nsh y hy)) ⟨_,wM _ (zH.2 ⟨y,hy,rfl⟩),rfl⟩
      refine⟨Eq.trans ?_ k1.symm,Eq.trans ?_ k2.symm⟩
      ·show (if _ then _ else _)=_
       rw[if_pos hJ,ce y hy]
      ·simp only[St.after,hJ,Bool.true_or]
     ·have hJ:(((Li++Lo).any λz=>z.1==J5 (Li++Lo) j)&&(J7 (Li++Lo) (J5 (Li++Lo) j)==j))=false:=by
       cases h:(((Li++Lo).any λz=>z.1==J5 (Li++Lo) j)&&(J7 (Li++Lo) (J5 (Li++Lo) j)==j)) with
       | false=>rfl
       | true=>
        simp only[zD,beq_iff_eq] at h
        obtain⟨z,hz,e⟩:=memAny h.1
        exact absurd ⟨z,hz,by rw[<-cr z hz,e];exact h.2⟩ hj
      have ha:(st1.after (λj=>((Li++Lo).any λy=>y.1==J5 (Li++Lo) j)&&(J7 (Li++Lo) (J5 (Li++Lo) j)==j)) (J5 (Li++Lo)) (J7 (Li++Lo)) (Qe O)).b j=st1.b j/\
        (st1.after (λj=>((Li++Lo).any λy=>y.1==J5 (Li++Lo) j)&&(J7 (Li++Lo) (J5 (Li++Lo) j)==j)) (J5 (Li++Lo)) (J7 (Li++Lo)) (Qe O)).u j=st1.u j:=by
       simp only[St.after,hJ];exact⟨rfl,rfl⟩
      by_cases hs':j∈sh
      ·obtain⟨k1,k2⟩:=MO none (Ie (Li++Lo) O sh) s2 j (λz hz e=>by
        rcases wa.1 hz with hz|hz
        ·obtain⟨z0,hz0,rfl⟩:=zH.1 hz
         exact absurd ⟨z0,hz0,e⟩ hj
        ·obtain⟨b,_,rfl⟩:=zH.1 hz
         rfl) ⟨_,List.mem_append_right _ (zH.2 ⟨j,hs',rfl⟩),rfl⟩
       obtain⟨d1,d2⟩:=Ox shl' s2 j ((shIn j).2 hs')
       exact⟨(ha.1.trans d1).trans k1.symm,(ha.2.trans d2).trans k2.symm⟩
      ·obtain⟨k1,k2⟩:=Oc (Ie (Li++Lo) O sh) s2 j (λ⟨z,hz,e⟩=>by
        rcases wa.1 hz with hz|hz
        ·obtain⟨z0,hz0,rfl⟩:=zH.1 hz
         exact hj ⟨z0,hz0,e⟩
        ·obtain⟨b,hb0,rfl⟩:=zH.1 hz
         exact hs' (e▸hb0))
       obtain⟨d1,d2⟩:=Uc shl' s2 j (by rw[shIn];exact hs')
       exact⟨(ha.1.trans d1).trans k1.symm,(ha.2.trans d2).trans k2.symm⟩
   rw[<-hst]
   exact key
  ·simp at h1
 ·simp at h1
theorem BF(Li Lo:List (Nat×Nat))(sh:List Nat){dst:Option Nat}{f:FuncId}{as:List V}{bl shl I O:List (Nat×Qi)}{res:V}{ws:List Wr}(hids:ET Li Lo sh=true)
  (h1:MX P G ops ex Li Lo sh i s=some (dst,f,as,bl,shl)) (hc:QR P G f as (Qe I) res (Qe O))
  (hI:bl.map (λx=>(x.1,x.2.Qc (J5 (Li++Lo))))=I) (hsd:∀x,x∈shl->∀r,r∈x.2.rows->∀c,c∈r->H4 c=true)
  (hbr:∀x,x∈bl->∀b,b∈E5 x.2.rows.flatten->(Li.any λx=>x.2==b)=true)
  (hO:∀x,x∈O->((Li++Lo).any λy=>y.1==x.1)=true/\∀b,b∈E5 x.2.rows.flatten->((Li++Lo).any λy=>y.1==b)=true)
  (hres:(W2 res).all (λb=>(Li++Lo).any λy=>y.1==b)=true)
  (hws:((Ie (Li++Lo) O sh).map λx=>Wr.b x.1 x.2)++KW dst (H8 (J7 (Li++Lo)) res)=ws) :
  X4 P G ops i s (Me ops i s ex) (ws):=V0 (by
 subst hws
 obtain⟨o,ho,_,rfl,hd,key⟩:=Xo Li Lo sh hids h1 hc hI hsd hbr hO hres
 refine⟨o,ho,λs2 hn ht hb _=>?_⟩
 rw[show ∀(A B:List Wr),s2.app (A++B)=(s2.app A).app B from λA B=>List.foldl_append ..,HB]
 exact(key s2 hn ht hb).Qes (by grind [Ob]))
theorem Rg(Li Lo:List (Nat×Nat))(sh:List Nat){dst:Option Nat}{f:FuncId}{as:List V}{bl shl I O:List (Nat×Qi)}{v:List PanicEntry}{ws:List Wr}(hids:ET Li Lo sh=true)
  (h1:MX P G ops ex Li Lo sh i s=some (dst,f,as,bl,shl)) (hc:MP P G f as (Qe I) v (Qe O))
  (hI:bl.map (λx=>(x.1,x.2.Qc (J5 (Li++Lo))))=I) (hsd:∀x,x∈shl->∀r,r∈x.2.rows->∀c,c∈r->H4 c=true)
  (hbr:∀x,x∈bl->∀b,b∈E5 x.2.rows.flatten->(Li.any λx=>x.2==b)=true)
  (hO:∀x,x∈O->((Li++Lo).any λy=>y.1==x.1)=true/\∀b,b∈E5 x.2.rows.flatten->((Li++Lo).any λy=>y.1==b)=true)
  (hws:((Ie (Li++Lo) O sh).map λx=>Wr.b x.1 x.2)=ws):KA P G ops i s (Me ops i s ex) (.panic v) ws:=by
 subst hws
 obtain⟨o,ho,hnd,_,_,key⟩:=Xo Li Lo sh hids h1 hc hI hsd hbr hO (by simp[W2])
 obtain⟨h3,h4⟩:=Ee ho
 intro s2 hn hag
 obtain⟨k1,k2,k3,_⟩:=Em h3 h4 hn hag
 exact⟨o,h3,hnd,k1,(key s2 hn k2 k3).Qep⟩
end
def QH(G:ze)(st st':St):Prop:=
 ∀(γ:Gh) (tmps:Array Value) (w:World),Qs G γ st tmps w->∃γ',Qs G γ' st' tmps w/\Qa γ w γ' w/\Zr γ st.b st.u γ' st'.b st'.u
theorem TV.ghost{P:Program}{G:ze}{c:Code}{st st':St}{Q:Exit->St->Prop}(g:QH G st st')(h:TV P G c st' Q):TV P G c st Q:=λfx γ a w hs hd=>by
 obtain⟨γ',h1,h2,h3⟩:=g γ a.tmps w hs
 exact wpIn_mono (h fx γ' a w h1 (hd.grow h2 hd.1)) λ_ _ _ hl=>hl.grow ⟨h2,h3⟩
theorem QH.trans{G:ze}{a b c:St}(h:QH G a b)(k:QH G b c):QH G a c:=λγ tmps w hs=>by
 obtain⟨γ1,h1,h2,h3⟩:=h γ tmps w hs
 obtain⟨γ2,k1,k2,k3⟩:=k γ1 tmps w h1
 exact⟨γ2,k1,h2.trans k2,h3.trans k3⟩
theorem QH.forget{G:ze}{st st':St}(f:F9 st st'):QH G st st':=λγ _ w hs=>⟨γ,f.Gq hs,.refl γ w,f.JH hs⟩
theorem Qs.Xk{G:ze}{γ:Gh}{st:St}{tmps:Array Value}{w:World}(h:Qs G γ st tmps w){d size:Nat}(hu:st.u d=false) :
  ∃γ',Qs G γ' (st.Qh d ⟨size,true,[]⟩) tmps w/\Qa γ w γ' w/\F0 γ st.b st.u γ' (st.Qh d ⟨size,true,[]⟩).b (st.Qh d ⟨size,true,[]⟩).u:=by
 let γ':Gh:={ loc:=λb=>if b=d then none else γ.loc b,own:=γ.own,Qp:=γ.Qp }
 have g:Qa γ w γ' w:=⟨rfl,rfl,rfl,zI _,λ_ _ _ _ h=>h,λ_ _=>zI _,(by grind),(by grind)⟩
 have bl:F0 γ st.b st.u γ' (st.Qh d ⟨size,true,[]⟩).b (st.Qh d ⟨size,true,[]⟩).u:=h.AO hu (by grind)
 refine⟨γ',⟨h.n,λi=>(h.t i).mono g bl,λb k hk=>?_,λb k hk=>?_,h.g.grow g,h.o⟩,g,bl⟩
 ·simp only[St.Qh] at hk
  by_cases hb:b=d
  ·subst hb
   rw[if_pos rfl] at hk
   simp only[zy] at hk;subst hk
   exact .inl ⟨by simp[γ'],rfl⟩
  ·rw[if_neg hb] at hk
   rcases h.b b k hk with⟨v1,v2⟩|hm|⟨hM,B,o,cs',e',h1,h2,h3,h4,h5,h6,h7,h8⟩
   ·exact .inl (by grind)
   ·exact .inr (.inl (hm.same (by grind) (by grind) λc v hr=>hr.mono g bl))
   ·refine .inr (.inr ⟨hM,B,o,cs',e',by grind,h2,h3,h4,h5,λi c hc=>?_,h7,h8⟩)
    obtain⟨v,a1,a2,a3,a4⟩:=h6 i c hc
    exact⟨v,a1,a2.mono g bl,a3,a4⟩
 ·simp only[St.Qh] at hk ⊢
  by_cases hb:b=d
  ·subst hb;simp
  ·rw[if_neg hb] at hk;rw[if_neg hb];exact h.u b k hk
theorem QH.oL{G:ze}{st:St}{d t:Nat}(size:Nat)(hM:size < Y8)(hu:st.u d=false)(ht:st.t t=.Qj):QH G st ((st.Qh d ⟨size,true,[]⟩).QG t (.ref d 0 0)):=λγ tmps w hs=>by
 obtain⟨γ',h1,h2,h3⟩:=hs.Xk (size:=size) hu
 refine⟨γ',⟨h1.n,λi=>?_,h1.b,h1.u,h1.g,h1.o⟩,h2,h3.JH⟩
 show Qu γ' w _ _ (if i=t then _ else st.t i) _
 by_cases hi:i=t
 ·subst hi
  rw[if_pos rfl]
  have inv:∀v:Value,Qu γ w st.b st.u .Qj v->v=.slice none 0 0:=λv hv=>by
   cases hv with
   | data h=>cases h;rfl
  have hv:tmps.getD i undef=.slice none 0 0:=inv _ (by rw[<-ht];exact hs.t i)
  rw[hv]
  exact .YW d 0 ⟨size,true,[]⟩ (by simp[St.Qh,St.QG]) hM rfl
 ·rw[if_neg hi];exact h1.t i
def cX(P:Program)(t:TypeId):Bool:=match P.underlying t with
 | some (.struct _)=>true
 | some (.array _ _)=>true
 | some _=>false
 | none=>true
def Wk(bs:zg)(u:zh)(c c':V):Prop:=∀(γ:Gh) (w:World) (v:Value),Qu γ w bs u c v->Qu γ w bs u c' v
theorem Wk.refl{bs:zg}{u:zh}(c:V):Wk bs u c c:=λ_ _ _ h=>h
def W9(R:V->V->Prop)(rows rows':List (List V)):Prop:=
 rows'.length=rows.length/\∀(i:Nat) (r':List V),rows'[i]?=some r'->∃r,rows[i]?=some r/\r'.length=r.length/\∀(j:Nat) (c':V),r'[j]?=some c'->∃c,r[j]?=some c/\R c c'
theorem W9.Vs{R:V->V->Prop}{rows rows':List (List V)}(h:W9 R rows rows'){s:Nat}(hs:∀r,r∈rows->r.length=s):∀r,r∈rows'->r.length=s:=λr' hr=>by
 obtain⟨i,hi⟩:=wI.1 hr
 obtain⟨r,h1,h2,_⟩:=h.2 i r' hi
 grind
theorem W9.flat{R:V->V->Prop}{rows rows':List (List V)}(h:W9 R rows rows'){s:Nat}(hs:∀r,r∈rows->r.length=s){i:Nat}{c':V}(hc:rows'.flatten[i]?=some c'):∃c,rows.flatten[i]?=some c/\R c c':=by
 have hs':=h.Vs hs
 rcases wV s with h0|hpos
 ·grind [List.flatten_eq_nil_iff,List.length_eq_zero_iff]
 ·have e:i=(i / s) * s+i % s:=by grind [Nat.mul_comm,Nat.div_add_mod]
  have hm:=Nat.mod_lt i hpos
  have hget:=U7 rows' hs' (i / s) (i % s) hm
  rw[<-e,hc] at hget
  cases hr:rows'[i / s]? with
  | none=>grind
  | some r'=>
   rw[hr] at hget
   simp only[wL] at hget
   obtain⟨r,h1,_,h3⟩:=h.2 _ r' hr
   grind [U7]
theorem QH.cells{G:ze}{st st':St}(hn:st'.n=st.n)(hu:st'.u=st.u)(ht:∀i,Wk st'.b st'.u (st.t i) (st'.t i))
  (hb:∀b,(st.b b=none/\st'.b b=none)\/∃k k',st.b b=some k/\st'.b b=some k'/\k'.size=k.size/\k'.Qn=k.Qn/\W9 (λc c'=>Wk st'.b st'.u c c'/\(c'.QN=true->c'=c\/c=.Qj)) k.rows k'.rows):QH G st st':=λγ tmps w h=>by
 have bl:F0 γ st.b st.u γ st'.b st'.u:=by
  refine⟨(by grind),λb _ hbn=>?_,λb k hk=>⟨by rw[hu];exact h.u b k hk,?_⟩⟩
  ·grind
  ·rcases hb b with⟨h1,_⟩|⟨k0,k',h1,h2,h3,_,h5⟩
   ·grind
   ·rw[h1] at hk;simp only[zy] at hk;subst hk
    exact .inr ⟨k',h2,h3,λ_=>h5.1,rfl⟩
 refine⟨γ,⟨by rw[hn];exact h.n,λi=>ht i _ _ _ ((h.t i).mono (.refl _ _) bl),λb k hk=>?_,λb k hk=>?_,h.g,h.o⟩,.refl γ w,bl.JH⟩
 ·rcases hb b with⟨_,h2⟩|⟨k0,k',h1,h2,h3,h4,h5⟩
  ·grind
  rw[h2] at hk;simp only[zy] at hk;subst hk
  rcases h.b b k0 h1 with⟨z0,z1⟩|hm|⟨hM,B,o,cs,e,a1,a2,a3,a4,a5,a6,a7,a8⟩
  ·refine .inl ⟨z0,wY.1 ?_⟩
   rw[h5.1,z1];rfl
  ·have hw:∀r,r∈k0.rows->r.length=mwd k0.size:=by obtain⟨_,_,_,_,_,_,_,_,q,_⟩:=hm;exact q
   refine .inr (.inl (hm.cW rfl (by grind) h3 h5.1 (h5.Vs hw) λi c' hc=>?_))
   obtain⟨c,c1,c2,c3⟩:=h5.flat hw hc
   exact⟨c,c1,λv hv=>c2 _ _ _ (hv.mono (.refl _ _) bl)⟩
  refine .inr (.inr ⟨by grind,B,o,cs,e,a1,a2,a3,by rw[h3];exact h5.Vs a4,by rw[h3,h5.1];exact a5,λi c' hc=>?_,(by grind),by rw[h3,h5.1];exact a8⟩)
  obtain⟨c,c1,c2,c3⟩:=h5.flat a4 hc
  obtain⟨v,v1,v2,v3,v4⟩:=a6 i c c1
  refine⟨v,v1,c2 _ _ _ (v2.mono (.refl _ _) bl),v3,?_⟩
  rw[h3]
  cases ho:c'.QN with
  | false=>exact .Zh ho
  | true=>
   rcases c3 ho with e|e
   ·grind
   ·subst e
    have:=v2.QI;grind [D3]
 ·rw[hu]
  rcases hb b with⟨_,h2⟩|⟨k0,k',h1,h2,_⟩
  ·grind
  ·exact h.u b k0 h1
theorem QH.Qd4{G:ze}{st:St}{d:Nat}(size:Nat)(hu:st.u d=false):QH G st (st.Qh d ⟨size,true,[]⟩):=λγ tmps w hs=>by
 obtain⟨γ',h1,h2,h3⟩:=hs.Xk (size:=size) hu
 exact⟨γ',h1,h2,h3.JH⟩
def K4(a b:Nat):Nat->Nat:=λc=>if c=a then b else c
def St.ZU(st:St)(a b:Nat):St where
 n:=st.n
 t:=λi=>H8 (K4 a b) (st.t i)
 b:=λc=>if c=b then (st.b a).map (Qi.Qc (K4 a b)) else if c=a then none else (st.b c).map (Qi.Qc (K4 a b))
 u:=λc=>if c=b then true else st.u c
theorem QH.ZU{G:ze}{st:St}{a b:Nat}(hab:a≠b)(hub:st.u b=false):QH G st (st.ZU a b):=λγ tmps w h=>by
 let f:=K4 a b
 let γ' : Gh := { loc := λc => if c = b then γ.loc a else γ.loc c, own := λB => match γ.own B with
  | some (.ZQ x)=>some (.ZQ (f x))
  | some (.nest x i j)=>some (.nest (f x) i j)
  | none => none, Qp := γ.Qp }
 have hbn:st.b b=none:=by
  cases hb:st.b b with
  | none=>rfl
  | some k=>rw[h.u b k hb] at hub;simp at hub
 have g:Qa γ w γ' w:=⟨rfl,rfl,rfl,zI _,λ_ _ _ _ h=>h,λ_ _=>zI _,(by grind),(by grind)⟩
 have tr:∀c,Tr γ st.b st.u γ' (st.ZU a b).b (st.ZU a b).u f c:=λc=>by
  refine⟨λk hk=>?_,λhn hu=>?_⟩
  ·have hcb:c≠b:=(by grind)
   by_cases hca:c=a
   ·subst hca
    refine⟨k.Qc f,by simp[St.ZU,f,K4,hk],rfl,by simp[Qi.Qc],by simp[γ',f,K4]⟩
   ·refine⟨k.Qc f,by grind [St.ZU,K4],rfl,by simp[Qi.Qc],by grind [K4]⟩
  grind [St.ZU,K4]
 have tmp:∀i,Qu γ' w (st.ZU a b).b (st.ZU a b).u (H8 f (st.t i)) (tmps.getD i undef):=λi=>
  Qu.Qc (γ1:=γ) (γ2:=γ') (w:=w) (w':=w) (bs1:=st.b) (u1:=st.u) (s:=f) (by grind) (λ_ _ h=>h) (h.t i) (λb _=>tr b)
 refine⟨γ',⟨h.n,tmp,λc k hk=>?_,λc k hk=>?_,h.g.grow g,λB x hx=>?_⟩,g,λc hc=>?_⟩
 ·have ob:∀x B,γ.own B=some (.ZQ x)->γ'.own B=some (.ZQ (f x)):=(by grind)
  have on:∀x B i j,γ.own B=some (.nest x i j)->γ'.own B=some (.nest (f x) i j):=(by grind)
  simp only[St.ZU] at hk
  by_cases hcb:c=b
  ·subst hcb
   rw[if_pos rfl] at hk
   obtain⟨k0,h0,rfl⟩:=zE.1 hk
   have:=(h.b a k0 h0).Qc (γ2:=γ') (bs2:=(st.ZU a c).b) (u2:=(st.ZU a c).u) (s:=f) (by simp[γ',f,K4]) (λ_=>rfl) (λB hB=>ob a B hB) (by grind) (λb' _=>tr b')
   grind [K4]
  ·rw[if_neg hcb] at hk
   by_cases hca:c=a
   ·grind
   ·rw[if_neg hca] at hk
    obtain⟨k0,h0,rfl⟩:=zE.1 hk
    have e:f c=c:=by simp[f,K4,hca]
    have:=(h.b c k0 h0).Qc (γ2:=γ') (bs2:=(st.ZU a b).b) (u2:=(st.ZU a b).u) (s:=f) (by grind) (λ_=>rfl) (λB hB=>ob c B hB) (by grind) (λb' _=>tr b')
    grind
 ·simp only[St.ZU] at hk ⊢
  split
  ·rfl
  ·rename_i hcb
   rw[if_neg hcb] at hk
   split at hk
   ·simp at hk
   ·obtain⟨k0,h0,_⟩:=zE.1 hk
    exact h.u c k0 h0
 ·simp only[γ'] at hx
  cases ho:γ.own B with
  | none=>grind
  | some y=>exact h.o B y ho
 ·refine⟨λhu=>?_,λhu hn=>?_,λk hk=>?_⟩
  ·grind [St.ZU]
  ·have hcb:c≠b:=(by grind)
   simp_all [if_neg,St.ZU]
  ·have hcb:c≠b:=(by grind)
   refine⟨by simp only[St.ZU,if_neg hcb];exact h.u c k hk,?_⟩
   by_cases hca:c=a
   ·grind [St.ZU]
   ·exact .inr ⟨k.Qc f,by grind [St.ZU],rfl,by simp[Qi.Qc],by grind⟩
def St.shr(st:St)(b:Nat)(g:V->V):St where
 n:=st.n
 t:=λi=>g (st.t i)
 b:=λc=>if c=b then none else (st.b c).map λk=>{ k with rows:=k.rows.map (·.map g) }
 u:=λc=>if c=b then true else st.u c
def EX(st:St)(b:Nat)(k:Qi)(g:V->V)(c:V):Prop:=
 ∀(γ γ':Gh) (w:World) (bs':zg) (u':zh),bs' b=none->u' b=true->(∀c v,Qu γ w st.b st.u c v->Qu γ' w bs' u' (lZ b k c) v)->∀v,Qu γ w st.b st.u c v->Qu γ' w bs' u' (g c) v
theorem QH.shr{G:ze}{st:St}{b:Nat}{k:Qi}(hb:st.b b=some k)(hd:∀r,r∈k.rows->∀c,c∈r->H4 c=true){g:V->V}
  (hgt:∀i,EX st b k g (st.t i)) (hgb:∀x q,x≠b->st.b x=some q->∀r,r∈q.rows->∀c,c∈r->EX st b k g c) (hown:∀c,(g c).QN=true->g c=c):QH G st (st.shr b g):=λγ tmps w h=>by
 obtain⟨γ',h1,h2,h3,hloc,h4⟩:=h.Vt hb hd
 have bl:F0 γ' (st.QC b).b (st.QC b).u γ' (st.shr b g).b (st.shr b g).u:=by
  refine⟨λc hc=>hc,λc hc hn=>?_,λc q hq=>⟨h1.u c q hq,?_⟩⟩
  ·simp_all [if_neg,St.QC,St.shr]
  ·simp only[St.QC] at hq
   split at hq
   ·simp at hq
   ·rename_i hcb
    exact .inr ⟨{ q with rows:=q.rows.map (·.map g) },by simp[St.shr,hcb,hq],rfl,by simp,rfl⟩
 have map:∀c v,Qu γ w st.b st.u c v->Qu γ' w (st.shr b g).b (st.shr b g).u (lZ b k c) v:=λc v hr=>(h4 c v hr).mono (.refl _ _) bl
 have key:∀c v,EX st b k g c->Qu γ w st.b st.u c v->Qu γ' w (st.shr b g).b (st.shr b g).u (g c) v:=λc v hc hr=>
  hc γ γ' w _ _ (by simp[St.shr]) (by simp[St.shr]) map v hr
 refine⟨γ',⟨h.n,λi=>key _ _ (hgt i) (h.t i),λc q hq=>?_,λc q hq=>?_,h1.g,h1.o⟩,h2,h3.trans bl.JH⟩
 ·simp only[St.shr] at hq
  split at hq
  ·simp at hq
  rename_i hcb
  obtain⟨q0,hq0,rfl⟩:=zE.1 hq
  have hq1:(st.QC b).b c=some q0:=by simp[St.QC,hcb,hq0]
  rcases h1.b c q0 hq1 with⟨z0,z1⟩|hm|⟨hM,B,o,cs,e,a1,a2,a3,a4,a5,a6,a7,a8⟩
  ·exact .inl ⟨z0,by simp[z1]⟩
  ·obtain⟨hM,B,es,clock,g1,g2,g3,g4,g5,g6,g7⟩:=hm
   refine .inr (.inl ⟨hM,B,es,clock,g1,g2,g3,by simpa using g4,λr hr=>?_,g6,λi c' hc'=>?_⟩)
   ·grind
   ·have hfl:(q0.rows.map (·.map g)).flatten=q0.rows.flatten.map g:=by grind
    simp only at hc'
    rw[hfl,zX,zE] at hc'
    obtain⟨c0,k1,rfl⟩:=hc'
    obtain⟨v,v1,v2,v3⟩:=g7 i c0 k1
    have old:Qu γ w st.b st.u c0 v:=by
     rcases h.b c q0 hq0 with⟨z0,z1⟩|hm2|hb2
     ·grind
     ·obtain⟨_,B2,es2,clock2,b1,b2,b3,b4,_,b6,b7⟩:=hm2
      grind
     ·exact absurd hb2.1 (Nat.not_lt_of_le hM)
    obtain⟨r0,hr0,hc0⟩:=wO.1 (zQ k1)
    grind
  have hsz:∀r,r∈q0.rows.map (·.map g)->r.length=q0.size:=(by grind)
  refine .inr (.inr ⟨hM,B,o,cs,e,a1,a2,a3,hsz,by simpa using a5,λi c' hc'=>?_,a7,by simpa using a8⟩)
  have hfl:(q0.rows.map (·.map g)).flatten=q0.rows.flatten.map g:=by grind
  simp only at hc'
  rw[hfl,zX,zE] at hc'
  obtain⟨c0,k1,rfl⟩:=hc'
  obtain⟨v,v1,v2,v3,v4⟩:=a6 i c0 k1
  have old:Qu γ w st.b st.u c0 v:=by
   rcases h.b c q0 hq0 with⟨z0,z1⟩|hm|⟨_,B2,o2,cs2,e2,b1,b2,b3,_,_,b6,_⟩
   ·grind
   ·exact(hm.small hM).elim
   ·obtain⟨x,x1,x2,_⟩:=b6 i c0 k1
    rw[hloc,b1] at a1
    simp only[zy,zJ] at a1
    obtain⟨rfl,rfl⟩:=a1
    obtain⟨rfl,rfl⟩:=a3.unique b3
    grind
  obtain⟨r0,hr0,hc0⟩:=wO.1 (zQ k1)
  refine⟨v,v1,(by grind),v3,?_⟩
  show D3 γ' w (.nest c (i / q0.size) (i % q0.size)) (g c0) v
  cases ho:(g c0).QN with
  | false=>exact .Zh ho
  | true=>grind
 ·simp only[St.shr] at hq ⊢
  split
  ·rfl
  ·rename_i hcb
   rw[if_neg hcb] at hq
   obtain⟨q0,hq0,_⟩:=zE.1 hq
   exact h.u c q0 hq0
structure Ty(α:Type) where
 c:α->List V
 d:α->List V
 cd:∀x,(c x).all H4=true
 dd:∀x,(d x).all H4=true
 vw:∀look x,K8 (λv=>I8 (E8 look 1 v)) (c x)=some (d x)
 st:∀x,(d x).map V.strip=d x
def J8(rows:List (List V)):Prop:=∀r,r∈rows->∀c,c∈r->H4 c=true
theorem Ty.data{α:Type}(t:Ty α)(l:List α):J8 (l.map t.c):=λr hr c hc=>by
 obtain⟨x,_,rfl⟩:=zH.1 hr
 exact zG.1 (t.cd x) c hc
structure Spec(P:Program)(G:ze)(α:Type) where
 f:FuncId
 args:List V
 ins:List (Nat×Qi)
 o:Option α
 res:α->V
 outs:α->List (Nat×Qi)
 dt:List Nat
 JC:∀r p,p∈outs r->p.1∈dt->J8 p.2.rows
 ok:∀r,o=some r->QR P G f args (Qe ins) (res r) (Qe (outs r))
structure O5(P:Program)(G:ze)(α β:Type) where
 f:FuncId
 args:List V
 ins:List (Nat×Qi)
 o:Option (α⊕β)
 res:α->V
 outs:α->List (Nat×Qi)
 UX:β->List PanicEntry
 Zu:β->List (Nat×Qi)
 dt:List Nat
 JC:∀r p,p∈outs r->p.1∈dt->J8 p.2.rows
 Qzj:∀r p,p∈Zu r->p.1∈dt->J8 p.2.rows
 ok:∀r,o=some (.inl r)->QR P G f args (Qe ins) (res r) (Qe (outs r))
 okp:∀r,o=some (.inr r)->MP P G f args (Qe ins) (UX r) (Qe (Zu r))
structure Ext where
 ex:Exit
 ts:List (Nat×V)
 bs:List (Nat×Qi)
 dt:List Nat
 JC:∀p,p∈bs->p.1∈dt->J8 p.2.rows
def Ext.l(ex:Exit)(ts:List (Nat×V))(bs:List (Nat×Qi)):Ext:=⟨ex,ts,bs,[],λ_ _ h=>by simp at h⟩
structure BT where
 id:Nat
 k:Qi
 JC:J8 k.rows
def BT.of{α:Type}(id:Nat)(t:Ty α)(size:Nat)(l:List α)(Qn:Bool:=true):BT:=⟨id,⟨size,Qn,l.map t.c⟩,t.data l⟩
theorem Fw(tb:List BT){p:Nat×Qi}(h:p∈tb.map λx=>(x.id,x.k)):J8 p.2.rows:=by
 obtain⟨x,_,rfl⟩:=zH.1 h
 exact x.JC
def Ext.of(ex:Exit)(ts:List (Nat×V))(bs:List (Nat×Qi))(tb:List BT)(h:(bs.all λp=>!(tb.any λx=>x.id==p.1))=true):Ext:=
 ⟨ex,ts,bs++tb.map λx=>(x.id,x.k),tb.map (·.id),λp hp hd=>by
  grind [Fw]⟩
structure Yo where
 a:List Wr
 b:List Wr
 h:a=b
 dt:List Nat
 JC:∀i k,Wr.b i (some k)∈b->i∈dt->J8 k.rows
structure QE:Type 1 where
 b:Nat
 α:Type
 ty:Ty α
 rows:List (List V)
 n:Nat
 l:List α
 w:Bool
 h:rows.take n=l.map ty.c
 hw:w=true->n=rows.length
def QE.o(b:Nat){α:Type}(ty:Ty α)(l:List α):QE:=⟨b,α,ty,l.map ty.c,l.length,l,true,by grind [List.length_map,List.take_length],(by grind)⟩
def QE.part(b:Nat){α:Type}(ty:Ty α)(l:List α)(n:Nat):QE:=⟨b,α,ty,l.map ty.c,n,l.take n,false,List.map_take.symm,λh=>by simp at h⟩
def Qqk(vs:List QE):Bool:=vs.all λv=>v.w || (vs.filter λx=>x.b==v.b).length==1
inductive GhW:Type 1 where
 | Xk (d t size:Nat)
 | IJ (d b j size:Nat)
 | Qc (a b:Nat)
 | share (v:QE) (n:Nat)
 | drop (bs:List Nat)
 | tell (b:Nat) (es:List (List V))
 | len (b m:Nat) (ns:List Nat) (h:∀n,n∈ns->n=m)
structure Qw(P:Program)(G:ze)(β:Type) where
 op:Op
 dst:Option Nat
 ZY:List (Operand×V)
 Zb:List (Nat×Qi)
 o:Option β
 ws:β->List Wr
 dt:List Nat
 JC:∀r i k,Wr.b i (some k)∈ws r->i∈dt->J8 k.rows
 ok:∀r,o=some r->∀(x:Oper) (st:St),x.op=op->x.dst=dst->(∀p,p∈ZY->mZ G st p.1 p.2)->(∀p,p∈Zb->st.b p.1=some p.2)->
  (∀d,dst=some d->d < st.n/\st.u d=false)->I2 P G x st (st.app (ws r))
structure Sub(P:Program)(G:ze)(ε:Type) where
 c:Code
 n:Nat
 x:Ext
 o:Option ε
 E:ε->Ext
 ok:∀r,o=some r->TV P G c (E6 n x.ts x.bs (x.bs.map (·.1))) (λe s=>e=(E r).ex/\QH G s (E6 n (E r).ts (E r).bs ((E r).bs.map (·.1))))
inductive T(P:Program)(G:ze):Type->Type 1 where
 | done {ρ:Type} (r:ρ):T P G ρ
 | fail {ρ:Type}:T P G ρ
 | br {ρ:Type} (a:Nat) (c:Bool) (x y:T P G ρ):T P G ρ
 | tt {ρ:Type} (k:T P G ρ):T P G ρ
 | ff {ρ:Type} (k:T P G ρ):T P G ρ
 | Qd {ρ:Type} (a:Nat) (c:Bool) (k:T P G ρ):T P G ρ
 | re {ρ:Type} (a:Nat) (w:Yo) (k:T P G ρ):T P G ρ
 | row {ρ α:Type} (a:Nat) (ty:Ty α) (l:List α) (j:Nat) (c:Bool) (k:α->T P G ρ):T P G ρ
 | app {ρ α:Type} (a:Nat) (ty:Ty α) (l x:List α) (bytes:Nat) (fl:Bool) (h:fl=true->∀y,ty.c y=ty.d y) (k:T P G ρ):T P G ρ
 | call {ρ α:Type} (a:Nat) (s:Spec P G α) (Li Lo:List (Nat×Nat)) (k:α->T P G ρ):T P G ρ
 | call2 {ρ α β:Type} (a:Nat) (s:Spec P G (α⊕β)) (Li Lo:List (Nat×Nat)) (k:α->T P G ρ) (k2:β->T P G ρ):T P G ρ
 | view {ρ α:Type} (a:Nat) (s:Spec P G α) (vs:List QE) (k:α->T P G ρ):T P G ρ
 | Qo {ρ α β:Type} (a:Nat) (s:O5 P G α β) (Li Lo:List (Nat×Nat)) (k:α->T P G ρ) (k2:β->T P G ρ):T P G ρ
 | UX {ρ:Type} (a:Nat) (k:T P G ρ):T P G ρ
 | fact {ρ:Type} (p:Prop) (i:Decidable p) (k:p->T P G ρ):T P G ρ
 | QD {ρ ε:Type} (id:Nat) (ts:List Nat) (first:T P G ε) (E:ε->List V) (k:ε->T P G ρ):T P G ρ
 | bind {ρ ε:Type} (j:Nat) (first:T P G ε) (E:ε->Ext) (k:ε->T P G ρ):T P G ρ
 | QM {ρ ε ζ:Type} (j:Nat) (first:T P G (ε⊕ζ)) (E:ε->Ext) (E2:ζ->Ext) (k:ε->T P G ρ) (k2:ζ->T P G ρ):T P G ρ
 | lp {σ ε:Type} (S:σ->Ext) (body:σ->T P G (σ⊕ε)) (x:σ):T P G ε
 | gh {ρ:Type} (a:Nat) (g:GhW) (k:T P G ρ):T P G ρ
 | Qy {ρ β:Type} (a:Nat) (R:Qw P G β) (k:β->T P G ρ):T P G ρ
 | sub {ρ ε:Type} (S:Sub P G ε) (k:ε->T P G ρ):T P G ρ
 | Ez {ρ ε ζ:Type} (S:Sub P G (ε⊕ζ)) (k:ε->T P G ρ) (k2:ζ->T P G ρ):T P G ρ
 | Yi {ρ:Type} (a:Nat) (n:Int) (vs:List Int) (k:Int->T P G ρ):T P G ρ
def X7{σ ε:Type}(f:σ->Option (σ⊕ε))(n:Nat):σ->Option ε:=
 Nat.rec (λ_=>none) (λ_ ih x=>match f x with
  | none=>none
  | some (.inl y)=>ih y
  | some (.inr e)=>some e) n
def ZN:Nat:=18446744073709551616
def T.run{P:Program}{G:ze}:{ρ:Type}->T P G ρ->Option ρ
 | _,.done r=>some r
 | _,.fail=>none
 | _,.br _ c x y=>bif c then x.run else y.run
 | _,.tt k=>k.run
 | _,.ff k=>k.run
 | _,.Qd _ c k=>bif c then k.run else none
 | _,.re _ _ k=>k.run
 | _,.row _ _ l j c k=>bif c then (match l[j]? with|some x=>(k x).run|none=>none) else none
 | _,.app _ _ l x bytes _ _ k=>bif decide ((l.length+x.length) * bytes<=140737488355328) then k.run else none
 | _,.call _ s _ _ k=>match s.o with|some r=>(k r).run|none=>none
 | _,.call2 _ s _ _ k k2=>match s.o with|some (.inl r)=>(k r).run|some (.inr r)=>(k2 r).run|none=>none
 | _,.view _ s _ k=>match s.o with|some r=>(k r).run|none=>none
 | _,.Qo _ s _ _ k k2=>match s.o with|some (.inl r)=>(k r).run|some (.inr r)=>(k2 r).run|none=>none
 | _,.UX _ k=>k.run
 | _,.fact _ i k=>match i with|.isTrue h=>(k h).run|.isFalse _=>none
 | _,.QD _ _ first _ k=>match first.run with|some e=>(k e).run|none=>none
 | _,.bind _ first _ k=>match first.run with|some e=>(k e).run|none=>none
 | _,.QM _ first _ _ k k2=>match first.run with|some (.inl e)=>(k e).run|some (.inr e)=>(k2 e).run|none=>none
 | _,.lp _ body x=>X7 (λy=>(body y).run) ZN x
 | _,.gh _ _ k=>k.run
 | _,.Qy _ R k=>match R.o with|some r=>(k r).run|none=>none
 | _,.sub S k=>match S.o with|some r=>(k r).run|none=>none
 | _,.Ez S k k2=>match S.o with|some (.inl r)=>(k r).run|some (.inr r)=>(k2 r).run|none=>none
 | _,.Yi _ n vs k=>bif vs.contains n then (k n).run else none
inductive C:Type 1 where
 | stuck (why:Nat)
 | fail
 | fin (v:Option V) (e:Option Exit) (ts:List (Nat×V)) (bs:List (Nat×Option Qi))
 | vZ (ts:List V)
 | br (c:Bool) (x y:C)
 | Qd (c:Bool) (k:C)
 | re (w:List Wr) (k:C)
 | row {α:Type} (rows:List (List V)) (j:Nat) (c:Bool) (k:α->C)
 | app (rows:List (List V)) (len:Nat) (ZJ:List (List V)) (bytes:Nat) (fl:Bool) (k:C)
 | call {α:Type} (f:FuncId) (args:List V) (ins:List (Nat×Qi)) (k:α->C)
 | call2 {α β:Type} (f:FuncId) (args:List V) (ins:List (Nat×Qi)) (k:α->C) (k2:β->C)
 | view {α:Type} (f:FuncId) (args:List V) (eqs:List (Nat×List (List V)×Nat)) (k:α->C)
 | bind {ε:Type} (x:C) (k:ε->C)
 | QM {ε ζ:Type} (x:C) (k:ε->C) (k2:ζ->C)
 | loop {σ:Type} (ts:List (Nat×V)) (bs:List (Nat×Option Qi)) (body:σ->C)
 | gh (eqs:List (Nat×List (List V)×Nat)) (k:C)
 | fact (p:Prop) (k:p->C)
 | sub {ε:Type} (c:Code) (n:Nat) (ts:List (Nat×V)) (bs:List (Nat×Option Qi)) (k:ε->C)
 | Ez {ε ζ:Type} (c:Code) (n:Nat) (ts:List (Nat×V)) (bs:List (Nat×Option Qi)) (k:ε->C) (k2:ζ->C)
 | pC {β:Type} (op:Op) (dst:Option Nat) (ZY:List (Option V)) (Zb:List (Option Qi)) (k:β->C)
inductive Yw:Type->Type 1 where
 | fn {ρ:Type} (rs:List ResultVar) (res:ρ->V) (outs:ρ->List (Nat×Qi)):Yw ρ
 | LW {ρ:Type} (E:ρ->Ext):Yw ρ
 | reg {ρ:Type} (ts:List Nat) (E:ρ->List V):Yw ρ
 | VP {σ ε:Type} (S:σ->Ext) (E:ε->Ext):Yw (σ⊕ε)
 | iX {α β:Type} (rs:List ResultVar) (res:α->V) (outs:α->List (Nat×Qi)) (ex:β->Exit) (Zu:β->List (Nat×Qi)):Yw (α⊕β)
def V9(f:V->V->V):List V->List V->List V
 | e :: es,c :: cs=>f e c :: V9 f es cs
 | _,cs=>cs
def D8:Nat->V->V->V
 | 0,_,c=>c
 | n+1,e,c=>match c with
  | .Qj=>match e with
   | .sl o z _=>.sl o z []
   | _=>.Qj
  | .sl o z r=>match e with
   | .sl false _ _=>.sl false z r
   | _=>.sl o z r
  | .agg cs=>match e with
   | .agg es=>.agg (V9 (D8 n) es cs)
   | _=>.agg cs
  | .Qt cs=>match e with
   | .Qt es=>.Qt (V9 (D8 n) es cs)
   | _=>.Qt cs
  | c=>c
def HI(e:Exit)(x:Ext):C:=.fin none (some e) x.ts (x.bs.map λp=>(p.1,some p.2))
def QE.iN(v:QE):Nat×List (List V)×Nat:=(v.b,v.rows,v.n)
def GhW.eqs:GhW->List (Nat×List (List V)×Nat)
 | .share v n=>List.replicate (n+1) v.iN
 | .len b _ ns _=>ns.map λn=>(b,[],n)
 | _=>[]
def T.expect{P:Program}{G:ze}:{ρ:Type}->Yw ρ->T P G ρ->C
 | _,F,.done r=>match F with
  | .fn _ res outs=>.fin (some (res r)) none [] ((outs r).map λp=>(p.1,some p.2))
  | .LW E=>HI (E r).ex (E r)
  | .reg _ E=>.vZ (E r)
  | .VP S E=>match r with
   | .inl y=>HI (S y).ex (S y)
   | .inr e=>HI (E e).ex (E e)
  | .iX _ res outs ex Zu=>match r with
   | .inl r=>.fin (some (res r)) none [] ((outs r).map λp=>(p.1,some p.2))
   | .inr z=>.fin none (some (ex z)) [] ((Zu z).map λp=>(p.1,some p.2))
 | _,_,.fail=>.fail
 | _,F,.br _ c x y=>.br c (x.expect F) (y.expect F)
 | _,F,.tt k=>k.expect F
 | _,F,.ff k=>k.expect F
 | _,F,.Qd _ c k=>.Qd c (k.expect F)
 | _,F,.re _ w k=>.re w.a (k.expect F)
 | _,F,.row _ ty l j c k=>.row (l.map ty.c) j c λx=>(k x).expect F
 | _,F,.app _ ty l x bytes fl _ k=>.app (l.map ty.c) l.length (x.map ty.c) bytes fl (k.expect F)
 | _,F,.call _ s _ _ k=>.call s.f s.args s.ins λr=>(k r).expect F
 | _,F,.call2 _ s _ _ k k2=>.call2 s.f s.args s.ins (λr=>(k r).expect F) λr=>(k2 r).expect F
 | _,F,.Qo _ s _ _ k k2=>.call2 s.f s.args s.ins (λr=>(k r).expect F) λr=>(k2 r).expect F
 | _,F,.UX _ k=>k.expect F
 | _,F,.fact p _ k=>.fact p λh=>(k h).expect F
 | _,F,.view _ s vs k=>.view s.f s.args (vs.map QE.iN) λr=>(k r).expect F
 | _,F,.QD _ ts first E k=>.bind (first.expect (.reg ts E)) λe=>(k e).expect F
 | _,F,.bind _ first E k=>.bind (first.expect (.LW E)) λe=>(k e).expect F
 | _,F,.QM _ first E E2 k k2=>.QM (first.expect (.LW (Sum.elim E E2))) (λe=>(k e).expect F) λe=>(k2 e).expect F
 | _,F,.lp S body x=>match F with
  | .LW E=>.loop (S x).ts ((S x).bs.map λp=>(p.1,some p.2)) λy=>(body y).expect (.VP S E)
  | _=>.fail
 | _,F,.gh _ g k=>.gh g.eqs (k.expect F)
 | _,F,.Qy _ R k=>.pC R.op R.dst (R.ZY.map λp=>some p.2) (R.Zb.map λp=>some p.2) λr=>(k r).expect F
 | _,F,.sub S k=>.sub S.c S.n S.x.ts (S.x.bs.map λp=>(p.1,some p.2)) λr=>(k r).expect F
 | _,F,.Ez S k k2=>.Ez S.c S.n S.x.ts (S.x.bs.map λp=>(p.1,some p.2)) (λr=>(k r).expect F) λr=>(k2 r).expect F
 | _,F,.Yi _ n vs k=>vs.foldr (λv r=>.br (n==v) ((k v).expect F) r) .fail
end Go.EV
