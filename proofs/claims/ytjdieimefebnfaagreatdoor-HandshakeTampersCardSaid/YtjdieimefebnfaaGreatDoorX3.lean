/- Part X3. -/
import Derived.Test.YtjdieimefebnfaaGreatDoorX2
set_option linter.all false
namespace Go.EV
open Go
def P1(a b:zj):Prop:=∀i k,a i=some k->b i=some k
theorem RQ{P:Program}{l1 l2:zj}(h:P1 l1 l2){t:TypeId}{x y:V}{r:Bool}(he:eqV P l1 t x y=some r):eqV P l2 t x y=some r:=by
 unfold eqV at he ⊢;split at he<;>try exact he
 ·rename_i b i off;cases hb:l1 b with
  | none=>grind
  | some k=>rw[hb] at he;rw[h b k hb];exact he
 ·rename_i b off n;cases hb:l1 b with
  | none=>grind
  | some k=>rw[hb] at he;rw[h b k hb];exact he
theorem qJ{P:Program}{l1 l2:zj}(h:P1 l1 l2){op:BinOp}{t:TypeId}{x y c:V}(he:RT P l1 op t x y=some c):RT P l2 op t x y=some c:=by
 unfold RT at he ⊢;split at he<;>try exact he
 split at he
 ·obtain⟨r,h1,h2⟩:=zJ.1 he;rw[RQ h h1];grind
 ·obtain⟨r,h1,h2⟩:=zJ.1 he;rw[RQ h h1];grind
 ·simp at he
theorem RX{l1 l2:zj}(h:P1 l1 l2){c:V}{cs:List V}(he:JR l1 c=some cs):JR l2 c=some cs:=by
 unfold JR at he ⊢;split at he<;>try exact he
 rename_i b i off;cases hb:l1 b with
 | none=>grind
 | some k=>rw[hb] at he;rw[h b k hb];exact he
theorem SS{P:Program}{l1 l2:zj}(h:P1 l1 l2){t:TypeId}{c d:V}(he:Ie P l1 t c=some d):Ie P l2 t c=some d:=by
 grind [Option.bind_eq_some_iff,RX,Ie]
theorem Xg{P:Program}{l1 l2:zj}(h:P1 l1 l2){s:TypeId}{c d:V}{f:Nat}(he:ZE P l1 s c f=some d):ZE P l2 s c f=some d:=by
 unfold ZE at he ⊢;split at he<;>try exact he
 split at he<;>try exact he
 split at he<;>try exact he
 split at he
 ·simp at he
 rename_i hz;rw[if_neg hz];split at he<;>try exact he
 rename_i b r off;cases hb:l1 b with
 | none=>grind
 | some k=>rw[hb] at he;simp only[h b k hb];exact he
theorem Xl{P:Program}{l1 l2:zj}(h:P1 l1 l2){t:TypeId}{c x d:V}(he:N6 P l1 t c x=some d):N6 P l2 t c x=some d:=by
 unfold N6 at he ⊢;split at he<;>try exact he
 split at he<;>try exact he
 ·split at he<;>try exact he
  split at he
  rotate_left
  ·simp at he
  rename_i hb;rw[if_pos hb];split at he<;>try exact he
  rename_i b r off;cases hb:l1 b with
  | none=>grind
  | some k=>rw[hb] at he;simp only[h b k hb];exact he
 ·split at he<;>try exact he
  split at he<;>try exact he
  rename_i b off len;cases hb:l1 b with
  | none=>grind
  | some k=>rw[hb] at he;simp only[h b k hb];exact he
theorem Ns{P:Program}{l1 l2:zj}(h:P1 l1 l2){t:TypeId}{c d:V}{lo hi mx:Option V}(he:HS P l1 t c lo hi mx=some d):HS P l2 t c lo hi mx=some d:=by
 unfold HS at he ⊢;split at he<;>try exact he
 split at he<;>try exact he
 split at he<;>try exact he
 rename_i b off len;cases hb:l1 b with
 | none=>grind
 | some k=>rw[hb] at he;simp only[h b k hb];exact he
theorem VQ{P:Program}{l1 l2:zj}(h:P1 l1 l2){t:TypeId}{c d:V}(he:VZ P l1 t c=some d):VZ P l2 t c=some d:=by
 unfold VZ at he ⊢;split at he<;>try exact he
 rename_i b off len _;cases hb:l1 b with
 | none=>grind
 | some k=>rw[hb] at he;simp only[h b k hb];exact he
theorem Bp{P:Program}{l1 l2:zj}(h:P1 l1 l2){s t:TypeId}{c d:V}(he:DS P l1 s t c=some d):DS P l2 s t c=some d:=by
 unfold DS at he ⊢;split at he<;>try exact he
 split at he<;>try exact he
 split at he<;>try exact he
 rename_i b off len _ _ _ _ _ _ _;cases hb:l1 b with
 | none=>grind
 | some k=>rw[hb] at he;simp only[h b k hb];exact he
theorem AZ{P:Program}{e:Operand->Option V}{l1 l2:zj}(h:P1 l1 l2){op:Op}{c:V}(he:Jp P e l1 op=some c):Jp P e l2 op=some c:=by
 unfold Jp at he ⊢;split at he<;>try exact he
 ·
  split at he<;>try exact he
  rename_i b i off hx;cases hb:l1 b with
  | none=>grind
  | some k=>rw[hb] at he;simp only[h b k hb];exact he
 ·grind [qJ]
 ·grind [Option.bind_eq_some_iff,Bp]
 ·grind [Option.bind_eq_some_iff,SS]
 ·grind [Option.bind_eq_some_iff,Xg]
 ·grind [Xl]
 ·grind [Ns]
 ·obtain⟨d,h1,h2⟩:=wq.1 he;rw[h1];simp only[qf];unfold IG at h2 ⊢;grind [VQ]
def Y5(o:Oper):List Nat:=o.op.operands.toList.filterMap fun|.tmp t=>some t|_=>none
mutual
def K1:V->List Nat
 | .ref b _ _=>[b]
 | .ptr b _ _=>[b]
 | .mp b=>[b]
 | .fn _ a c=>D0 a++D0 c
 | .agg l=>D0 l
 | .Qc l=>D0 l
 | _=>[]
def D0:List V->List Nat
 | []=>[]
 | c :: l=>K1 c++D0 l
end
def St.QV(st:St)(ts:List Nat):St:={ st with t:=λi=>if ts.contains i then st.t i else .undef }
def Dr(b:zj)(bs:List Nat):zj:=λi=>if bs.contains i then b i else none
theorem YM(b:zj)(bs:List Nat):P1 (Dr b bs) b:=λi k h=>by
 grind [Dr]
theorem Qs.QV{G:zi}{γ:Gh}{st:St}{tmps:Array Value}{w:World}(h:Qs G γ st tmps w)(ts:List Nat):Qs G γ (st.QV ts) tmps w:=
 ⟨h.n,λi=>by
  show Qz γ w st.b st.u (if ts.contains i then st.t i else .undef) _;split
  ·exact h.t i
  ·exact .undef _,h.b,h.u,h.g,h.o⟩
def Ug(ops:Array Oper)(o:Oper):List Loc:=
 match o.guard with
 | none=>[]
 | some (j,_)=>match (ops[j]?).bind (·.dst) with
  | some d=>[.t d]
  | none=>[]
def Mb(dst:Option Nat)(c:V):List Wr:=match dst with|some d=>[.t d c]|none=>[]
theorem WK(st:St)(dst:Option Nat)(c:V):st.app (Mb dst c)=st.put dst c:=by cases dst<;>rfl
def xQ(P:Program)(G:zi)(o:Oper)(st:St)(bs:List Nat):Option (List Wr):=
 match o.op,o.dst with
 | .alloc e,some d=>if d < st.n/\st.u d=false then (zeroV P e).map λcs=>[.b d (some ⟨cs.length,true,[cs]⟩),.t d (.ptr d 0 0)] else none
 | .box _ x,some d=>if d < st.n/\st.u d=false then ((st.ev G x).bind RB).map λcs=>[.b d (some ⟨cs.length,true,[cs]⟩),.t d (.ptr d 0 0)] else none
 | .store t x y,none=>match st.ev G x,st.ev G y with
  | some (.ptr b i off),some c=>match Dr st.b bs b with
   | some k=>(ZQ P t k i off c).map λk'=>[.b b (some k')]
   | none=>none
  | _,_=>none
 | .buildSlice t n ps,some d=>if d < st.n/\st.u d=false then ((Hj (st.ev G) ps.toList).bind (Yd P t n)).map λk=>[.b d (some k),.t d (.ref d 0 n)] else none
 | op,dst=>if W2 st.n dst then (Jp P (st.ev G) (Dr st.b bs) op).map (Mb dst) else none
theorem VG{P:Program}{G:zi}{o:Oper}{st:St}{ts bs:List Nat}{ws:List Wr}(h:xQ P G o (st.QV ts) bs=some ws):I9 P G o st (st.app ws):=by
 unfold xQ at h;split at h
 ·rename_i e d ho hd;split at h
  ·rename_i hc;obtain⟨cs,hz,rfl⟩:=zJ.1 h;exact IJ ho hd hc.1 hc.2 hz
  ·simp at h
 ·rename_i e x d ho hd;split at h
  ·rename_i hc;obtain⟨cs,hz,rfl⟩:=zJ.1 h;obtain⟨c,h1,h2⟩:=wq.1 hz;refine M7 λγ a w hs=>?_;obtain⟨k1,k2⟩:=UH h2 ((hs.QV ts).ev h1);obtain⟨γ',g,pn,hs'⟩:=hs.SO (e:=e) (O7 h2).2 hc.2 hc.1 k1 k2;refine⟨_,_,γ',?_,g,pn,by rw[hd];exact hs'⟩;simp[execOp,ho,Instr.box,newVar,newRow]
  ·simp at h
 ·rename_i t x y ho hd;split at h
  ·rename_i b i off c hx hy;split at h
   ·rename_i k hk;obtain⟨k',hs',rfl⟩:=zJ.1 h;have hk':=YM _ _ _ _ hk;exact Wv ho hd (λ_ _ _ hs=>(hs.QV ts).ev hx) (λ_ _ _ hs=>(hs.QV ts).ev hy) hk' hs'
   ·simp at h
  ·simp at h
 ·rename_i t n ps d ho hd;split at h
  ·rename_i hc;obtain⟨k,hz,rfl⟩:=zJ.1 h;obtain⟨parts,h1,h2⟩:=wq.1 hz;exact Us ho hd hc.1 hc.2 (λ_ _ _ hs=>JW (hs.QV ts) h1) h2
  ·simp at h
 ·rename_i op dst;split at h
  ·rename_i hd;obtain⟨c,hr,rfl⟩:=zJ.1 h;rw[WK];exact E3 hd λγ a w hs=>EG (hs.QV ts) (AZ (YM _ _) hr)
  ·simp at h
def NL(o:Oper)(l:List Nat):List Nat:=match o.op with
 | .move _=>[]
 | .assign _=>[]
 | _=>l
def HN(P:Program)(G:zi)(ops:Array Oper)(i:Nat)(st:St):Option (List Loc×List Wr):=
 match ops[i]? with
 | none=>some ([],[])
 | some o=>match E4 ops st o with
  | some true=>
   let ts:=Y5 o
   let bs:=NL o (ts.flatMap λt=>K1 (st.t t))
   (xQ P G o (st.QV ts) bs).map λws=>(Ug ops o++ts.map .t++bs.map .b++(match o.dst with|some d=>[.b d]|none=>[]),ws)
  | some false=>if W2 st.n o.dst then some (Ug ops o,Mb o.dst (.Qc [])) else none
  | none=>none
theorem UC{ops:Array Oper}{st st2:St}{o:Oper}(hn:st2.n=st.n)(h:∀l,l∈Ug ops o->O5 st st2 l):E4 ops st2 o=E4 ops st o:=by
 unfold E4;unfold Ug at h;cases hg:o.guard with
 | none=>rfl
 | some x=>
  obtain⟨j,want⟩:=x;rw[hg] at h;simp only at h ⊢;cases hd:(ops[j]?).bind (·.dst) with
  | none=>rfl
  | some d=>
   rw[hd] at h;have:st.t d=st2.t d:=h (.t d) (by simp);grind
theorem Jn{P:Program}{G:zi}{ops:Array Oper}{i:Nat}{st:St}{R:List Loc}{ws:List Wr}(h:HN P G ops i st=some (R,ws)):A7 P G ops i st R ws:=by
 intro st2 hn hag;unfold HN at h;unfold C1;split at h
 ·rename_i hi;simp only[zG,zT] at h;obtain⟨rfl,rfl⟩:=h;rw[hi];rfl
 ·rename_i o hi;rw[hi];split at h
  ·rename_i hg;obtain⟨ws',hw,he⟩:=zJ.1 h;simp only[zT] at he;obtain⟨rfl,rfl⟩:=he;have hg2:E4 ops st2 o=some true:=by grind [UC]
   refine .inl ⟨hg2,?_⟩;have ht:∀t,t∈Y5 o->st.t t=st2.t t:=λt ht=>hag (.t t) (by simp[ht]);have hbs:NL o ((Y5 o).flatMap λt=>K1 (st.t t))=NL o ((Y5 o).flatMap λt=>K1 (st2.t t)):=by
    grind [List.map_congr_left]
   have hcutT:(st.QV (Y5 o)).t=(st2.QV (Y5 o)).t:=funext λj=>by
    show (if (Y5 o).contains j then st.t j else .undef)=(if (Y5 o).contains j then st2.t j else .undef);grind
   have hcutB:Dr st.b (NL o ((Y5 o).flatMap λt=>K1 (st.t t)))=Dr st2.b (NL o ((Y5 o).flatMap λt=>K1 (st.t t))):=funext λj=>by
    unfold Dr;split
    ·rename_i hc;have:O5 st st2 (.b j):=(by grind);exact this.1
    ·rfl
   have hud:∀d,o.dst=some d->st.u d=st2.u d:=λd hd=>by
    have:O5 st st2 (.b d):=(by grind);exact this.2
   have hev:(st2.QV (Y5 o)).ev G=(st.QV (Y5 o)).ev G:=funext λx=>by
    simp_all [St.ev]
   have key:xQ P G o (st2.QV (Y5 o)) (NL o ((Y5 o).flatMap λt=>K1 (st.t t)))=some ws':=by
    rw[<-hw];unfold xQ;have e1:(st2.QV (Y5 o)).n=(st.QV (Y5 o)).n:=hn;have e2:Dr (st2.QV (Y5 o)).b (NL o ((Y5 o).flatMap λt=>K1 (st.t t)))=Dr (st.QV (Y5 o)).b (NL o ((Y5 o).flatMap λt=>K1 (st.t t))):=hcutB.symm;rw[hev,e1,e2];cases hd:o.dst with
    | none=>cases o.op<;>rfl
    | some d=>
     have e3:(st2.QV (Y5 o)).u d=(st.QV (Y5 o)).u d:=(hud d hd).symm;cases o.op<;>simp only[e3]
   exact VG key
  ·rename_i hg;split at h<;>simp at h;rename_i hd;obtain⟨rfl,rfl⟩:=h;grind [UC,WK]
  ·simp at h
end Go.EV
namespace Go.EV
open Go
def M4{α β:Type}(f:α->Option β):List α->Option (List β)
 | []=>some []
 | x :: l=>match f x,M4 f l with
  | some y,some r=>some (y :: r)
  | _,_=>none
theorem Jy{α β:Type}{f:α->Option β}:∀{l:List α} {r:List β},M4 f l=some r->r.length=l.length
 | [],r,h=>by grind [M4]
 | x :: l,r,h=>by
  simp only[M4] at h;split at h
  ·rename_i y r' h1 h2;simp only[zG] at h;subst h;simp[Jy h2]
  ·simp at h
theorem F3{α β:Type}{f:α->Option β}:∀{l:List α} {r:List β},M4 f l=some r->∀(i:Nat) (y:β),r[i]?=some y->∃x,l[i]?=some x/\f x=some y
 | [],r,h,i,y,hy=>by grind [M4]
 | x :: l,r,h,i,y,hy=>by
  simp only[M4] at h;split at h
  ·rename_i y' r' h1 h2;simp only[zG] at h;subst h;cases i with
   | zero=>grind
   | succ i=>
    obtain⟨x',a,b⟩:=F3 h2 i y (by simpa using hy);grind
  ·simp at h
theorem N4{α β:Type}{f g:α->Option β}:∀{l:List α} {r:List β},M4 f l=some r->(∀x y,f x=some y->g x=some y)->M4 g l=some r
 | [],r,h,_=>h
 | x :: l,r,h,hg=>by
  simp only[M4] at h ⊢;split at h
  ·rename_i y r' h1 h2;rw[hg x y h1,N4 h2 hg];exact h
  ·simp at h
def H3:V->Bool
 | .fn _ a c=>a.isEmpty&&c.isEmpty
 | .agg _|.Qc _|.undef|.ref _ _ _|.ptr _ _ _|.mp _=>false
 | _=>true
def O3(c:Option V):Option V:=match c with
 | some d=>if H3 d then some d else none
 | none=>none
theorem ZL{c:Option V}{d:V}(h:O3 c=some d):c=some d/\H3 d=true:=by
 unfold O3 at h;grind
def D4(look:zj):Nat->V->Option V
 | 0,_=>none
 | _+1,.int k n=>some (.int k n)
 | _+1,.bool b=>some (.bool b)
 | _+1,.str s=>some (.str s)
 | _+1,.Zi=>some .Zi
 | _+1,.Zd=>some .Zd
 | _+1,.QP l=>some (.QP l)
 | _+1,.Qu=>some .Qu
 | _+1,.Zu x=>some (.Zu x)
 | _+1,.sl _ s r=>some (.sl false s r)
 | _+1,.snap c=>some (.snap c)
 | n+1,.ref b off len=>match look b with
  | some k=>(M4 (M4 λc=>O3 (D4 look n c)) ((k.rows.drop off).take len)).map (.sl false k.size)
  | none=>none
 | n+1,.ptr b i off=>match look b with
  | some k=>match k.rows[i]? with
   | some r=>(M4 (λc=>O3 (D4 look n c)) (r.drop off)).map .snap
   | none=>none
  | none=>none
 | n+1,.fn f a c=>match M4 (D4 look n) a,M4 (D4 look n) c with
  | some a',some c'=>some (.fn f a' c')
  | _,_=>none
 | n+1,.agg l=>(M4 (D4 look n) l).map .agg
 | n+1,.Qc l=>(M4 (D4 look n) l).map .Qc
 | _+1,.undef=>none
 | _+1,.mp _=>none
theorem Ww{f g:V->Option V}(h:∀x y,f x=some y->g x=some y)(x y:V)(hx:O3 (f x)=some y):O3 (g x)=some y:=by
 grind [ZL,O3]
theorem XT{l1 l2:zj}(h:P1 l1 l2):∀(n:Nat) (c d:V),D4 l1 n c=some d->D4 l2 n c=some d
 | 0,_,_,h=>by simp[D4] at h
 | n+1,c,d,hd=>by
  have ih:=XT h n;cases c<;>simp only[D4] at hd ⊢<;>try exact hd
  case ref b off len=>
   cases hb:l1 b with
   | none=>grind
   | some k=>
    rw[hb] at hd;rw[h b k hb];simp only at hd ⊢;obtain⟨r,h1,h2⟩:=zJ.1 hd;rw[N4 h1 λx y hx=>N4 hx (Ww ih)];grind
  case ptr b i off=>
   cases hb:l1 b with
   | none=>grind
   | some k=>
    rw[hb] at hd;rw[h b k hb];simp only at hd ⊢;split at hd
    ·obtain⟨r,h1,h2⟩:=zJ.1 hd;rw[N4 h1 (Ww ih)];grind
    ·simp at hd
  case fn f a c=>
   grind [N4]
  case agg l=>
   obtain⟨r,h1,h2⟩:=zJ.1 hd;rw[N4 h1 ih];grind
  case Qc l=>
   obtain⟨r,h1,h2⟩:=zJ.1 hd;rw[N4 h1 ih];grind
def Wf(w:World)(B:Nat):Nat:=match w.heap[B]? with|some (.cells cs _ _)=>cs.size|_=>0
theorem Dw{w:World}{B o:Nat}{v:Value}(h:cellAt w B o=some v):o < Wf w B:=by
 unfold cellAt World.cell? at h;unfold Wf;grind
def Is(w:World):Gh:={ loc:=λ_=>none,own:=λ_=>none,Qr:=Wf w }
theorem K9.all{Qr:Nat->Nat}{w:World}{c:V}{v:Value}(h:K9 Qr w c v):K9 (Wf w) w c v:=h.mono λ_ _ _ _ hc=>⟨Dw hc,hc⟩
theorem K9.pG{Qr:Nat->Nat}{w:World}{o:Bool}{s:Nat}{r:List (List V)}{v:Value}(h:K9 Qr w (.sl o s r) v):K9 Qr w (.sl false s r) v:=by
 cases h with
 | sl _ _ _ B o cap vs h1 h2 h3 h4=>exact .sl false s r B o cap vs h1 h2 h3 h4
 | Zc _ _ a=>exact .Zc false s a
theorem IH{d:V}(hd:H3 d=true){w:World}{v:Value}(hr:Qz (Is w) w Ot Qw d v):K9 (Wf w) w d v:=by
 cases hr with
 | data h=>exact h
 | undef=>simp[H3] at hd
 | ref _ _ _ _ _ _ _ h1=>simp[Ot] at h1
 | ZC _ _ _ _ h1=>simp[Ot] at h1
 | ZY _ _ _ h1=>simp[Ot] at h1
 | Qp=>simp[H3] at hd
 | ptr _ _ _ _ _ _ h1=>simp[Ot] at h1
 | QH=>simp[H3] at hd
 | mp=>simp[H3] at hd
 | QX=>simp[H3] at hd
 | fn f first captured fs cs h1 h2 _ _=>
  simp only[H3,zL,List.isEmpty_iff] at hd;obtain⟨rfl,rfl⟩:=hd;exact .fn f [] [] fs cs h1 h2 (by grind) (by grind)
 | agg=>simp[H3] at hd
 | Qc=>simp[H3] at hd
theorem Ew{f:V->Option V}:∀{l:List (List V)} {r:List (List V)},M4 (M4 f) l=some r->M4 f l.flatten=some r.flatten
 | [],r,h=>by grind [M4]
 | x :: l,r,h=>by
  simp only[M4] at h;split at h
  ·rename_i y r' h1 h2;simp only[zG] at h;subst h;have ih:=Ew h2;simp only[List.flatten_cons];have app:∀{a:List V} {b:List V} {a' b':List V},M4 f a=some a'->M4 f b=some b'->M4 f (a++b)=some (a'++b'):=by
    intro a;induction a with
    | nil=>grind [M4]
    | cons z a iha=>
     intro b a' b' ha hb;simp only[M4] at ha;split at ha
     ·rename_i y2 r2 k1 k2;simp only[zG] at ha;subst ha;simp_all [List.cons_append,M4]
     ·simp at ha
   grind
  ·simp at h
theorem OO{γ:Gh}{w:World}{bs:zj}{u:zl}(hb:∀b k,bs b=some k->X3 γ w bs u b k):∀(n:Nat) (c d:V) (v:Value),D4 bs n c=some d->Qz γ w bs u c v->Qz (Is w) w Ot Qw d v
 | 0,_,_,_,h,_=>by simp[D4] at h
 | n+1,c,d,v,h,hr=>by
  have ih:=OO hb n;have cells:∀(l r:List V),M4 (D4 bs n) l=some r->∀(vs:List Value),vs.length=l.length->(∀(i:Nat) (c:V) (v:Value),l[i]?=some c->vs[i]?=some v->Qz γ w bs u c v)->
    vs.length=r.length/\∀(i:Nat) (c:V) (v:Value),r[i]?=some c->vs[i]?=some v->Qz (Is w) w Ot Qw c v:=by
   intro l r hm vs hl hv;refine⟨by grind [Jy],λi c v hc hx=>?_⟩;obtain⟨x,h1,h2⟩:=F3 hm i c hc;grind
  cases c<;>simp only[D4] at h
  case int=>simp only[zG] at h;subst h;cases hr with|data h=>exact .data h.all
  case Zu=>simp only[zG] at h;subst h;cases hr with|data h=>exact .data h.all
  case bool=>simp only[zG] at h;subst h;cases hr with|data h=>exact .data h.all
  case str=>simp only[zG] at h;subst h;cases hr with|data h=>exact .data h.all
  case Zi=>simp only[zG] at h;subst h;cases hr with|data h=>exact .data h.all
  case QP=>simp only[zG] at h;subst h;cases hr with|data h=>exact .data h.all
  case Zd=>simp only[zG] at h;subst h;cases hr with|data h=>exact .data h.all
  case Qu=>simp only[zG] at h;subst h;cases hr with|data h=>exact .data h.all
  case sl=>simp only[zG] at h;subst h;cases hr with|data h=>exact .data h.all.pG
  case snap=>simp only[zG] at h;subst h;cases hr with|data h=>exact .data h.all
  case undef=>simp at h
  case mp=>simp at h
  case agg l=>
   obtain⟨r,h1,rfl⟩:=zJ.1 h;obtain⟨vs,rfl,hl,hv⟩:=hr.QD;obtain⟨a1,a2⟩:=cells l r h1 vs hl hv;exact .agg r vs a1 a2
  case Qc l=>
   obtain⟨r,h1,rfl⟩:=zJ.1 h;obtain⟨vs,rfl,hl,hv⟩:=hr.WI;obtain⟨a1,a2⟩:=cells l r h1 vs hl hv;exact .Qc r vs a1 a2
  case fn f a c=>
   split at h
   ·rename_i a' c' h1 h2;simp only[zG] at h;subst h;obtain⟨fs,cs,rfl,l1,l2,p1,p2⟩:=hr.Hq;obtain⟨a1,a2⟩:=cells a a' h1 fs l1 p1;obtain⟨b1,b2⟩:=cells c c' h2 cs l2 p2;exact .fn f a' c' fs cs a1 b1 a2 b2
   ·simp at h
  case ptr b i off=>
   cases hk:bs b with
   | none=>grind
   | some k=>
    rw[hk] at h;simp only at h;split at h
    ·rename_i r Zr;obtain⟨r',h1,rfl⟩:=zJ.1 h;obtain⟨B,o,rfl,hl⟩:=hr.Zh hk;have hat:∀(j:Nat) (c:V),r'[j]?=some c->∃x,cellAt w B (o+(i * k.size+off)+j)=some x/\K9 (Wf w) w c x:=λj c hc=>by
      obtain⟨c0,k1,k2⟩:=F3 h1 j c hc;obtain⟨k2,k3⟩:=ZL k2;obtain⟨x,x1,x2⟩:=(((hb b k hk).row hl Zr (hr.Za hk)).drop off) j c0 k1;grind [IH]
     refine .data (.snap r' B _ (λj=>(cellAt w B (o+(i * k.size+off)+j)).getD default) (λj c hc=>?_) (λj c hc=>?_))
     ·obtain⟨x,x1,x2⟩:=hat j c hc;rw[x1];exact⟨Dw x1,rfl⟩
     ·obtain⟨x,x1,x2⟩:=hat j c hc;rw[x1];exact x2
    ·simp at h
  case ref b off len=>
   cases hk:bs b with
   | none=>grind
   | some k=>
    rw[hk] at h;simp only at h
    ·have hlen:off+len<=k.rows.length:=by
      rcases hr.ZO hk with⟨B,o,cap,_,_,h0,_⟩|⟨B,_,hz,h0,_⟩|⟨_,hz,h0,_⟩
      ·exact h0
      ·omega
      ·omega
     obtain⟨r',h1,rfl⟩:=zJ.1 h;have hrl:r'.length=len:=by rw[Jy h1];simp;omega
     rcases hr.ZO hk with⟨B,o,cap,rfl,hl,_,hcap,_,hM,_⟩|⟨B,rfl,rfl,_⟩|⟨rfl,rfl,_⟩
     ·rcases hb b k hk with⟨h0,_⟩|hm|⟨_,B',o',cs,e,g1,_,g3,g4,g5,g6,_,_⟩
      ·grind
      ·exact(hm.small hM).elim
      rw[hl] at g1;simp only[zG,zT] at g1;obtain⟨rfl,rfl⟩:=g1;have hat:∀(j:Nat) (c:V),r'.flatten[j]?=some c->∃x,cellAt w B (o+off * k.size+j)=some x/\K9 (Wf w) w c x:=λj c hc=>by
       obtain⟨c0,k1,k2⟩:=F3 (Ew h1) j c hc;obtain⟨k2,k3⟩:=ZL k2;obtain⟨q1,_⟩:=Ws k.rows g4 off len j c0 k1;obtain⟨x,x1,x2,_⟩:=g6 _ c0 q1;refine⟨x,?_,IH k3 (ih c0 c x k2 x2)⟩;rw[g3.cellAt];grind
      have:=K9.sl (Qr:=Wf w) (w:=w) false k.size r' B (o+off * k.size) cap (λj=>(cellAt w B (o+off * k.size+j)).getD default) (by omega) (λr hr=>by
       obtain⟨j,hj⟩:=qb.1 hr;obtain⟨q,q1,q2⟩:=F3 h1 j r hj;rw[Jy q2];grind) (λj c hc=>by
       obtain⟨x,x1,x2⟩:=hat j c hc;rw[x1];exact⟨Dw x1,rfl⟩) (by grind)
      rw[hrl] at this;exact .data this
     ·obtain rfl:r'=[]:=(by grind);exact .data (.Zc false k.size (some B))
     ·obtain rfl:r'=[]:=(by grind);exact .data (.Zc false k.size)
theorem IY{P:Program}{G:zi}{o:Oper}{st:St}{x:Operand}{xs:Array Operand}{ts:Array TypeId}{f:FuncId}{cs ds:List V}{fn:Func}{r:V}{G3:Nat}(tl:List Nat)
  (ho:o.op=.call { callee:=.value x,args:=xs,argTypes:=ts }) (h:Ye G (st.QV tl) x xs.toList=some (f,cs)) (hfn:P.funcs[f]?=some fn) (hname:(fn.name== "runtime.NumGoroutine")=false) (hbody:fn.body.isNone=false)
  (hd:M4 (D4 st.b G3) cs=some ds) (hc:iY P G f ds r) (hr:G6 r=true) (hdst:W2 st.n o.dst=true):I9 P G o st (st.put o.dst r):=by
 intro fx γ a w hs had next Q hn
 obtain⟨as,hrun,hargs⟩:=KR (hs.QV tl) ho h hfn hname hbody;show o.upon P a next Q _
 rw[hrun,Oper.upon_enter];have hargs':U4 (Is w) w Ot Qw ds as:=⟨by rw[Jy hd];exact hargs.1,λi c v hc hv=>by
  obtain⟨c0,k1,k2⟩:=F3 hd i c hc;exact OO hs.b G3 c0 c v k2 (hargs.2 i c0 v k1 hv)⟩
 have hglob:Ha G (Is w) w:=λg cells hg=>(hs.g g cells hg).all;refine(hc (Is w) w as hglob (by grind [Is]) hargs' (by grind [Ot])).mono λe w' hp=>?_;obtain⟨v,γe,rfl,hg,_,hrep,_,hown⟩:=hp;have fr:∀B,B < w.heap.size->w'.heap[B]?=w.heap[B]?:=λB hB=>(hg.free B hB rfl).1;have hcell:∀B o v,cellAt w B o=some v->cellAt w' B o=some v:=(by grind [UU,cellAt,World.cell?])
 have g:Qe γ w γ w':=⟨hg.os,hg.tape,hg.output,hg.size,(by grind),λB _=>zQ _,(by grind),(by grind)⟩
 have bl:G7 γ st.b st.u γ st.b st.u:=.refl hs.u;have hs':Qs G γ st a.tmps w':=by
  refine⟨hs.n,λi=>(hs.t i).mono g bl,λb k hk=>?_,hs.u,hs.g.grow g,λB x hx=>wZ (hs.o B x hx) hg.size⟩;rcases hs.b b k hk with h0|hm|⟨hM,B,o,cs',e,a1,a2,a3,a4,a5,a6,a7,a8⟩
  ·exact .inl h0
  ·exact .inr (.inl (hm.same rfl (λB _ hB=>⟨hB,fr B (hs.o B _ hB)⟩) λc v hr=>hr.mono g bl))
  refine .inr (.inr ⟨hM,B,o,cs',e,a1,a2,a3.of_eq (fr B (hs.o B _ a2)),a4,a5,λi c hc=>?_,a7,a8⟩);obtain⟨y,b1,b2,b3,b4⟩:=a6 i c hc;exact⟨y,b1,b2.mono g bl,b3,b4.grow g⟩
 refine hn _ _ γ (hs'.put hdst (hrep.flat hr)) g ?_ (by rw[X4];exact had);cases o.dst<;>exact bl.Ue
mutual
def W3(s:Nat->Nat):V->V
 | .ref b off len=>.ref (s b) off len
 | .ptr b i off=>.ptr (s b) i off
 | .mp b=>.mp (s b)
 | .fn f a c=>.fn f (S9 s a) (S9 s c)
 | .agg l=>.agg (S9 s l)
 | .Qc l=>.Qc (S9 s l)
 | .int k n=>.int k n
 | .bool b=>.bool b
 | .str x=>.str x
 | .Zi=>.Zi
 | .Zd=>.Zd
 | .QP l=>.QP l
 | .Qu=>.Qu
 | .Zu x=>.Zu x
 | .sl o z r=>.sl o z r
 | .snap c=>.snap c
 | .undef=>.undef
def S9(s:Nat->Nat):List V->List V
 | []=>[]
 | c :: l=>W3 s c :: S9 s l
end
theorem WN(s:Nat->Nat):∀l:List V,S9 s l=l.map (W3 s)
 | []=>rfl
 | c :: l=>by simp only[S9,wE,WN s l]
theorem C7(s:Nat->Nat)(l:List V):(S9 s l).length=l.length:=by rw[WN];simp
theorem C8{s:Nat->Nat}{l:List V}{i:Nat}{c:V}(h:(S9 s l)[i]?=some c):∃c0,l[i]?=some c0/\c=W3 s c0:=by
 rw[WN,wm,zJ] at h;grind
def Qd.Qb(s:Nat->Nat)(k:Qd):Qd:={ k with rows:=k.rows.map (S9 s) }
theorem Jr(s:Nat->Nat):∀rows:List (List V),(rows.map (S9 s)).flatten=S9 s rows.flatten
 | []=>rfl
 | r :: rows=>by simp only[wE,List.flatten_cons,Jr s rows,WN,wW]
theorem B6:∀{l:List V} {i:Nat} {c:V} {b:Nat},l[i]?=some c->b∈K1 c->b∈D0 l
 | [],i,c,b,h,_=>by simp at h
 | x :: l,i,c,b,h,hb=>by
  simp only[D0,ww];cases i with
  | zero=>grind
  | succ i=>exact .inr (B6 (by simpa using h) hb)
theorem K9.Qb{Qr lim':Nat->Nat}{w w':World}(hm:∀B o v,o < Qr B->cellAt w B o=some v->o < lim' B/\cellAt w' B o=some v)(s:Nat->Nat){c:V}{v:Value}(h:K9 Qr w c v):K9 lim' w' (W3 s c) v:=by
 induction h with
 | int k n=>exact .int k n
 | bool b=>exact .bool b
 | str s=>exact .str s
 | Zi=>exact .Zi
 | Zd=>exact .Zd
 | QP l=>exact .QP l
 | Qu=>exact .Qu
 | Zu x hx=>exact .Zu x hx
 | sl own size rows B o cap vs h1 h2 h3 h4 _=>exact(K9.sl own size rows B o cap vs h1 h2 h3 h4).mono hm
 | Zc own size a=>exact .Zc own size a
 | snap cells B o vs h3 h4 _=>exact(K9.snap cells B o vs h3 h4).mono hm
 | fn f first captured fs cs h1 h2 _ _ ih1 ih2=>
  refine .fn f _ _ fs cs (by rw[C7];exact h1) (by rw[C7];exact h2) (λi c v hc hv=>?_) (λi c v hc hv=>?_)
  ·obtain⟨c0,k1,rfl⟩:=C8 hc;grind
  ·obtain⟨c0,k1,rfl⟩:=C8 hc;grind
def Tr(γ1:Gh)(bs1:zj)(u1:zl)(γ2:Gh)(bs2:zj)(u2:zl)(s:Nat->Nat)(b:Nat):Prop:=
 (∀k,bs1 b=some k->∃k',bs2 (s b)=some k'/\k'.size=k.size/\k'.rows.length=k.rows.length/\γ2.loc (s b)=γ1.loc b)/\
  (bs1 b=none->u1 b=true->bs2 (s b)=none/\u2 (s b)=true)
theorem Qz.Qb{γ1 γ2:Gh}{w w':World}{bs1 bs2:zj}{u1 u2:zl}{s:Nat->Nat}(hm:∀B o v,o < γ1.Qr B->cellAt w B o=some v->o < γ2.Qr B/\cellAt w' B o=some v)(hroom:∀B n,JV w B n->JV w' B n)
  {c:V} {v:Value} (h:Qz γ1 w bs1 u1 c v):(∀b,b∈K1 c->Tr γ1 bs1 u1 γ2 bs2 u2 s b)->Qz γ2 w' bs2 u2 (W3 s c) v:=by
 induction h with
 | data h=>exact λ_=>.data (h.Qb hm s)
 | undef v=>exact λ_=>.undef v
 | ref b off len B o cap k h1 h2 h3 h4 h5 h6 h7=>
  intro ht;obtain⟨k',a1,a2,a3,a4⟩:=(ht b (by simp[K1])).1 k h1;rw[<-a2];exact .ref (s b) off len B o cap k' a1 (a4.trans h2) (by omega) h4 (by grind) (by grind) (by omega)
 | ZC b off B k h1 h6 h2=>
  intro ht;obtain⟨k',a1,a2,a3,a4⟩:=(ht b (by simp[K1])).1 k h1;exact .ZC (s b) off B k' a1 (by grind) (by omega)
 | ZY b off k h1 h6 h2=>
  intro ht;obtain⟨k',a1,a2,a3,a4⟩:=(ht b (by simp[K1])).1 k h1;exact .ZY (s b) off k' a1 (by grind) (by omega)
 | Qp b off len v h1 h2 h3=>
  intro ht;obtain⟨a1,a2⟩:=(ht b (by simp[K1])).2 h1 h2;exact .Qp (s b) off len v a1 a2 h3
 | ptr b i off B o k h1 h2 h3=>
  intro ht;obtain⟨k',a1,a2,a3,a4⟩:=(ht b (by simp[K1])).1 k h1;rw[<-a2];exact .ptr (s b) i off B o k' a1 (a4.trans h2) (by grind)
 | mp b B k h1 h2 h3=>
  intro ht;obtain⟨k',a1,a2,a3,a4⟩:=(ht b (by simp[K1])).1 k h1;exact .mp (s b) B k' a1 (a4.trans h2) (by grind)
 | QX b v h1 h2 h3=>
  intro ht;obtain⟨a1,a2⟩:=(ht b (by simp[K1])).2 h1 h2;exact .QX (s b) v a1 a2 h3
 | QH b i off v h1 h2 h3=>
  intro ht;obtain⟨a1,a2⟩:=(ht b (by simp[K1])).2 h1 h2;exact .QH (s b) i off v a1 a2 h3
 | fn f first captured fs cs h1 h2 _ _ ih1 ih2=>
  intro ht;refine .fn f _ _ fs cs (by rw[C7];exact h1) (by rw[C7];exact h2) (λi c v hc hv=>?_) (λi c v hc hv=>?_)
  ·obtain⟨c0,k1,rfl⟩:=C8 hc;grind [B6,K1]
  ·obtain⟨c0,k1,rfl⟩:=C8 hc;grind [B6,K1]
 | agg cells vs h1 _ ih=>
  intro ht;refine .agg _ vs (by rw[C7];exact h1) λi c v hc hv=>?_;obtain⟨c0,k1,rfl⟩:=C8 hc;grind [B6,K1]
 | Qc cells vs h1 _ ih=>
  intro ht;refine .Qc _ vs (by rw[C7];exact h1) λi c v hc hv=>?_;obtain⟨c0,k1,rfl⟩:=C8 hc;grind [B6,K1]
theorem uL(s:Nat->Nat)(γ:Gh)(w:World)(t:M3)(c:V)(v:Value):D6 γ w t (W3 s c) v=D6 γ w t c v:=by
 cases c<;>rfl
def M3.Qb(K:zl)(s:Nat->Nat):Option M3->Option M3
 | some (.Zs b)=>if K b then some (.Zs (s b)) else none
 | some (.nest b i j)=>if K b then some (.nest (s b) i j) else none
 | none=>none
def St.after(st:St)(J:zl)(s r:Nat->Nat)(outs:zj):St:=
 { st with b:=λj=>if J j then (outs (s j)).map (·.Qb r) else st.b j,u:=λj=>J j || st.u j }
theorem X3.Qb{γ1 γ2:Gh}{w:World}{bs1 bs2:zj}{u1 u2:zl}{s:Nat->Nat}{b:Nat}{k:Qd}(h:X3 γ1 w bs1 u1 b k)
  (hl:γ2.loc (s b)=γ1.loc b) (hm:∀B,γ2.Qr B=γ1.Qr B) (hob:∀B,γ1.own B=some (.Zs b)->γ2.own B=some (.Zs (s b))) (hon:∀B i j,γ1.own B=some (.nest b i j)->γ2.own B=some (.nest (s b) i j))
  (hr:∀b',b'∈D0 k.rows.flatten->Tr γ1 bs1 u1 γ2 bs2 u2 s b'):X3 γ2 w bs2 u2 (s b) (k.Qb s):=by
 rcases h with⟨h0,h00⟩|hm'|⟨hM,B,o,cs,e,a1,a2,a3,a4,a5,a6,a7,a8⟩
 ·exact .inl (by grind [Qd.Qb])
 ·refine .inr (.inl (hm'.nV hl (by grind) rfl (by simp[Qd.Qb]) (λr hr=>?_) λi c hc=>?_))
  ·obtain⟨r0,h1,rfl⟩:=zP.1 hr;obtain⟨_,_,_,_,_,_,_,_,h5,_⟩:=hm';grind [C7]
  ·have hc':(S9 s k.rows.flatten)[i]?=some c:=by rw[<-Jr];exact hc
   obtain⟨c0,k1,rfl⟩:=C8 hc';exact⟨c0,k1,λv hv=>hv.Qb (by grind) (λ_ _ h=>h) (by grind [B6])⟩
 refine .inr (.inr ⟨hM,B,o,cs,e,hl.trans a1,hob B a2,a3,λr hr=>?_,by simpa[Qd.Qb] using a5,λi c hc=>?_,λhx=>(hm B).trans (a7 hx),by grind [Qd.Qb]⟩)
 ·obtain⟨r0,h1,rfl⟩:=zP.1 hr;rw[C7];exact a4 r0 h1
 ·have hc':(S9 s k.rows.flatten)[i]?=some c:=by rw[<-Jr];exact hc
  obtain⟨c0,k1,rfl⟩:=C8 hc';obtain⟨v,v1,v2,v3,v4⟩:=a6 i c0 k1;refine⟨v,v1,v2.Qb (by grind) (λ_ _ h=>h) (by grind [B6]),v3,?_⟩;show D6 γ2 w (.nest (s b) (i / k.size) (i % k.size)) (W3 s c0) v;rw[uL];unfold D6 at v4 ⊢;grind
def Kp(P:Program)(G:zi)(o:Oper)(st0:St)(f:FuncId)(E:Value->Ending)(res:V)(st:St):Prop:=
 ∀(γ0:Gh) (a:Act) (w:World),Qs G γ0 st0 a.tmps w->∃as,(execOp a.eval o).run P w=.ok (.enter f as) w/\Calls P f as w λe w'=>∃v γ',e=E v/\Qs G γ' st a.tmps w'/\
  Qz γ' w' st.b st.u res v/\Qe γ0 w γ' w'/\Zf γ0 st0.b st0.u γ' st.b st.u
theorem Kp.Qi8{P:Program}{G:zi}{o:Oper}{st0 st:St}{f:FuncId}{res:V}(h:Kp P G o st0 f .returned res st)(hdst:W2 st.n o.dst=true):I9 P G o st0 (st.put o.dst res):=by
 intro fx γ0 a w hs0 had next Q hn0
 obtain⟨as,hrun,hcs⟩:=h γ0 a w hs0;show o.upon P a next Q _
 rw[hrun,Oper.upon_enter];refine hcs.mono λe w' hp=>?_;obtain⟨v,γ',rfl,hs',hrep,g,p⟩:=hp;refine hn0 _ _ γ' (hs'.put (dst:=o.dst) hdst hrep) g ?_ (by rw[X4];exact had);cases o.dst<;>exact p
theorem Kp.Qi7{P:Program}{G:zi}{o:Oper}{st0 st:St}{f:FuncId}{res:V}{ch:List PanicEntry}(h:Kp P G o st0 f (λ_=>.panicked ch) res st):Qd5 P G o st0 (.panic ch) st:=by
 intro fx γ0 a w hs0 had next Q hq
 obtain⟨as,hrun,hcs⟩:=h γ0 a w hs0;show o.upon P a next Q _
 rw[hrun,Oper.upon_enter];refine hcs.mono λe w' hp=>?_;grind
theorem Bc{P:Program}{G:zi}{o:Oper}{st0 st:St}{f:FuncId}{cs:List V}{res:V}{E:Value->Ending}{ins outs:zj}(K Kin:zl)(r s:Nat->Nat)
  (hcall:∀(γ:Gh) (a:Act) (w:World),Qs G γ st0 a.tmps w->∃(γ1:Gh) (as:Array Value),Qs G γ1 st a.tmps w/\Qe γ w γ1 w/\Zf γ st0.b st0.u γ1 st.b st.u/\(execOp a.eval o).run P w=.ok (.enter f as) w/\U4 γ1 w st.b st.u cs as)
  (hrs:∀c,K c=true->s (r c)=c) (hKin:∀c,Kin c=true->K c=true/\X8 c=true)
  (hin:∀c,Kin c=true->∃k,st.b (r c)=some k/\ins c=some (k.Qb s)/\∀b,b∈D0 k.rows.flatten->Kin (s b)=true/\r (s b)=b)
  (hins:∀c,Kin c=false->ins c=none) (hfresh:∀c,K c=true->Kin c=false->st.u (r c)=false)
  (hout:∀c k,outs c=some k->K c=true/\∀b,b∈D0 k.rows.flatten->K b=true) (hres:∀b,b∈K1 res->K b=true)
  (hargs:∀b,b∈D0 cs->Kin (s b)=true/\r (s b)=b)
  (hc:WX P G f (S9 s cs) ins E res outs) :
  Kp P G o st0 f E (W3 r res) (st.after (λj=>K (s j)&&(r (s j)==j)) s r outs):=by
 intro γ0 a w hs0;obtain⟨γ,as,hs,g0,p0,hrun,has⟩:=hcall γ0 a w hs0;refine⟨as,hrun,?_⟩;let J:Nat->Bool:=λj=>K (s j)&&(r (s j)==j);let Jin:Nat->Bool:=λj=>Kin (s j)&&(r (s j)==j);have hJin:∀j,Jin j=true->J j=true:=(by grind);have hJr:∀c,K c=true->J (r c)=true:=(by grind);have hJinr:∀c,Kin c=true->Jin (r c)=true:=(by grind);have hJe:∀j,J j=true->K (s j)=true/\r (s j)=j:=(by grind);let γc:Gh:={ loc:=λc=>if Kin c then γ.loc (r c) else none,own:=λB=>M3.Qb Jin s (γ.own B),Qr:=γ.Qr };have hcown:∀B,γ.own B=none->γc.own B=none:=(by grind [M3.Qb]);have trIn:∀b,Kin (s b)=true->r (s b)=b->Tr γ st.b st.u γc ins Qw s b:=λb h1 h2=>by
  obtain⟨k,k1,k2,_⟩:=hin _ h1;rw[h2] at k1;refine⟨λk' hk'=>?_,(by grind)⟩;rw[k1] at hk';simp only[zG] at hk';subst hk';exact⟨_,k2,rfl,by simp[Qd.Qb],by grind⟩
 have hargs':U4 γc w ins Qw (S9 s cs) as:=⟨by rw[C7];exact has.1,λi c v hc hv=>by
  obtain⟨c0,k1,rfl⟩:=C8 hc;exact(has.2 i c0 v k1 hv).Qb (γ1:=γ) (γ2:=γc) (by grind) (λ_ _ h=>h) (by grind [B6])⟩
 have hblk:∀b k,ins b=some k->Qw b=true/\X3 γc w ins Qw b k:=λc k' hk'=>by
  have hK:Kin c=true:=by
   grind
  obtain⟨k,k1,k2,k3⟩:=hin c hK;rw[k2] at hk';simp only[zG] at hk';subst hk';refine⟨HA (hKin c hK).2,?_⟩;have hsc:=hrs c (hKin c hK).1;have:=(hs.b _ k k1).Qb (γ2:=γc) (bs2:=ins) (u2:=Qw) (s:=s) (by grind) (λ_=>rfl) (by grind [M3.Qb]) (by grind [M3.Qb])
   (by grind)
  grind
 have hcb:∀B x,γc.own B=some x->B < w.heap.size:=λB x hx=>by
  cases hB:γ.own B with
  | none=>grind
  | some y=>exact hs.o B y hB
 refine(hc γc w as (λg cells hg=>hs.g g cells hg) hcb hargs' hblk).mono λe w' hp=>?_;obtain⟨v,γe,rfl,hg,hpin,hrep,hbo,hown⟩:=hp;let γ':Gh:={ loc:=λj=>if J j then γe.loc (s j) else γ.loc j,own:=λB=>if B < w.heap.size/\γc.own B=none then γ.own B else M3.Qb K r (γe.own B),Qr:=γe.Qr };have g:Qe γ w γ' w':=by
  refine⟨hg.os,hg.tape,hg.output,hg.size,λB o v hl hc=>hg.Pf B o v hl hc,λB hB=>hg.Qr B hB,λB hB ho=>?_,hg.room⟩;obtain⟨a1,a2,a3⟩:=hg.free B hB (hcown B ho);grind
 have fresh:∀j,J j=true->st.u j=true->Kin (s j)=true:=(by grind)
 have bl:G7 γ st.b st.u γ' (st.after J s r outs).b (st.after J s r outs).u:=by
  refine⟨(by grind [St.after]),λb hb hnb=>?_,λb k hk=>⟨by simp[St.after,hs.u b k hk],?_⟩⟩
  ·grind [St.after]
  ·simp only[St.after];cases hj:J b with
   | false=>grind
   | true=>
    have hK:=fresh b hj (hs.u b k hk);obtain⟨k0,k1,k2,_⟩:=hin _ hK;rw[(hJe b hj).2,hk] at k1;simp only[zG] at k1;subst k1;have hge:X8 (s b)=true:=(hKin _ hK).2;obtain⟨_,hp⟩:=(hpin (s b) hge).2.2 _ k2;rcases hp with hp|⟨k',p1,p2,p3,p4⟩
    ·grind
    ·right;refine⟨k'.Qb r,by simp[p1],p2,by simpa[Qd.Qb] using p3,?_⟩;grind
 have ownE:∀B x,γe.own B=some x->γ'.own B=M3.Qb K r (some x):=λB x hx=>by
  show (if B < w.heap.size/\γc.own B=none then γ.own B else M3.Qb K r (γe.own B))=_;rw[if_neg,hx];rintro⟨h1,h2⟩;have:=(hg.free B h1 h2).2.1;grind
 have trOut:∀b,K b=true->Tr γe outs (λ_=>true) γ' (st.after J s r outs).b (st.after J s r outs).u r b:=λb hb=>by
  refine⟨λk hk=>⟨k.Qb r,?_,rfl,by simp[Qd.Qb],?_⟩,λhk _=>⟨?_,?_⟩⟩
  ·simp_all [if_true,wQ,St.after]
  ·grind
  ·simp_all [if_true,Option.map_none,St.after]
  simp_all [Bool.true_or,St.after]
 have hs':Qs G γ' (st.after J s r outs) a.tmps w':=by
  refine⟨hs.n,λi=>(hs.t i).mono g bl,λb k hk=>?_,λb k hk=>?_,hs.g.grow g,λB x hx=>?_⟩
  ·have hk':=hk;simp only[St.after] at hk;cases hj:J b with
   | true=>
    simp only[hj,if_true] at hk;obtain⟨k0,k1,rfl⟩:=zJ.1 hk;obtain⟨j1,j2⟩:=hJe b hj;have:=(hbo _ k0 k1).Qb (γ2:=γ') (bs2:=(st.after J s r outs).b) (u2:=(st.after J s r outs).u) (s:=r) (by grind) (λ_=>rfl)
     (by grind [M3.Qb]) (by grind [M3.Qb]) (by grind)
    grind
   | false=>
    simp only[hj] at hk;have hk:st.b b=some k:=by simpa using hk
    have hji:Jin b=false:=by
     grind
    rcases hs.b b k hk with⟨h0,h00⟩|hm'|⟨hM,B,o,cs',e,a1,a2,a3,a4,a5,a6,a7,a8⟩
    ·exact .inl (by grind)
    ·refine .inr (.inl (hm'.same (by simp only[γ',hj];simp) (λB _ hB=>?_) λc v hr=>hr.mono g bl));have hcn:γc.own B=none:=by simp[γc,hB,M3.Qb,hji]
     obtain⟨f1,f2,f3⟩:=hg.free B (hs.o B _ hB) hcn;refine⟨?_,f1⟩;show (if B < w.heap.size/\γc.own B=none then γ.own B else M3.Qb K r (γe.own B))=_;rw[if_pos ⟨hs.o B _ hB,hcn⟩];exact hB
    have oc:∀B',(γ.own B'=some (.Zs b)\/∃i j,γ.own B'=some (.nest b i j))->γc.own B'=none:=λB' hB'=>by
     rcases hB' with hB'|⟨i,j,hB'⟩<;>simp[γc,hB',M3.Qb,hji]
    have oB:∀B',(γ.own B'=some (.Zs b)\/∃i j,γ.own B'=some (.nest b i j))->B' < w.heap.size:=λB' hB'=>by
     rcases hB' with hB'|⟨i,j,hB'⟩<;>exact hs.o B' _ hB'
    have fr:∀B',(γ.own B'=some (.Zs b)\/∃i j,γ.own B'=some (.nest b i j))->w'.heap[B']?=w.heap[B']?/\γ'.own B'=γ.own B'/\γe.Qr B'=γ.Qr B':=λB' hB'=>by
     obtain⟨f1,f2,f3⟩:=hg.free B' (oB B' hB') (oc B' hB');refine⟨f1,?_,f3⟩;show (if B' < w.heap.size/\γc.own B'=none then γ.own B' else M3.Qb K r (γe.own B'))=_;rw[if_pos ⟨oB B' hB',oc B' hB'⟩]
    obtain⟨f1,f2,f3⟩:=fr B (.inl a2);refine .inr (.inr ⟨hM,B,o,cs',e,by simp only[γ',hj];simpa using a1,f2.trans a2,a3.of_eq f1,a4,a5,λi c hc=>?_,λhx=>f3.trans (a7 hx),by show γe.Qr B<=_;rw[f3];exact a8⟩);obtain⟨y,b1,b2,b3,b4⟩:=a6 i c hc;refine⟨y,b1,b2.mono g bl,b3,?_⟩;replace b4:=b4.grow g (λB hB=>by
     show γe.Qr B<=_;rw[(fr B (.inr ⟨_,_,hB⟩)).2.2];exact zQ _)
    unfold D6 at b4 ⊢;split at b4
    ·rename_i size rows ad l cp;rcases b4 with b4|b4
     ·exact .inl b4
     obtain⟨q1,q2,q3⟩:=fr ad.block (.inr ⟨_,_,b4.1.1⟩);exact .inr ⟨⟨q2.trans b4.1.1,by show γe.Qr _<=_;rw[q3];exact b4.1.2⟩,b4.2⟩
    ·trivial
  ·simp only[St.after] at hk ⊢;cases hj:J b with
   | true=>rfl
   | false=>simp only[hj] at hk;simpa using hs.u b k (by simpa using hk)
  ·by_cases hB:B < w.heap.size/\γc.own B=none
   ·exact wZ hB.1 hg.size
   ·simp only[γ'] at hx;rw[if_neg hB] at hx;cases hB2:γe.own B with
    | none=>rw[hB2] at hx;simp[M3.Qb] at hx
    | some y=>exact hown B y hB2
 exact⟨v,γ',rfl,hs',hrep.Qb (γ1:=γe) (γ2:=γ') (bs2:=(st.after J s r outs).b) (u2:=(st.after J s r outs).u) (s:=r) (λB o v h1 h2=>⟨h1,h2⟩) (λ_ _ h=>h) λb hb=>trOut b (hres b hb),g0.trans g,p0.trans bl.Ue⟩
end Go.EV
namespace Go.EV
open Go
def Ob(st:St)(o:Oper):List Nat:=match o.op with
 | .move _=>[]
 | .assign _=>[]
 | _=>(Y5 o).flatMap λt=>K1 (st.t t)
def MW(ops:Array Oper)(i:Nat)(st:St)(ex:List Nat):List Loc:=
 match ops[i]? with
 | none=>[]
 | some o=>Ug ops o++(Y5 o).map .t++(Ob st o).map .b++ex.map .b++(match o.dst with|some d=>[.b d]|none=>[])
def iK(P:Program)(G:zi)(o:Oper)(st:St)(ex:List Nat)(ws:List Wr):Prop:=
 ∀st2:St,st2.n=st.n->(∀t,t∈Y5 o->st2.t t=st.t t)->(∀b,b∈Ob st o++ex->st2.b b=st.b b/\st2.u b=st.u b)->(∀d,o.dst=some d->st2.b d=st.b d/\st2.u d=st.u d)->I9 P G o st2 (st2.app ws)
theorem EB{ops:Array Oper}{i:Nat}{o:Oper}{st st2:St}{ex:List Nat}(hi:ops[i]?=some o)(hg:E4 ops st o=some true)(hn:st2.n=st.n)(hag:∀l,l∈MW ops i st ex->O5 st st2 l) :
  E4 ops st2 o=some true/\(∀t,t∈Y5 o->st2.t t=st.t t)/\(∀b,b∈Ob st o++ex->st2.b b=st.b b/\st2.u b=st.u b)/\∀d,o.dst=some d->st2.b d=st.b d/\st2.u d=st.u d:=by
 unfold MW at hag;rw[hi] at hag;simp only at hag;refine⟨by grind [UC],λt ht=>?_,λb hb=>?_,λd hd=>?_⟩
 ·exact Eq.symm (show st.t t=st2.t t from hag (.t t) (by simp[ht]))
 ·have:O5 st st2 (.b b):=(by grind);exact⟨this.1.symm,this.2.symm⟩
 ·have:O5 st st2 (.b d):=(by grind);exact⟨this.1.symm,this.2.symm⟩
theorem Ow{P:Program}{G:zi}{ops:Array Oper}{i:Nat}{o:Oper}{st:St}{ex:List Nat}{ws:List Wr}(hi:ops[i]?=some o)(hg:E4 ops st o=some true)(h:iK P G o st ex ws) :
  A7 P G ops i st (MW ops i st ex) ws:=by
 intro st2 hn hag;obtain⟨h1,h2,h3,h4⟩:=EB hi hg hn hag;unfold C1;rw[hi];exact .inl ⟨h1,h st2 hn h2 h3 h4⟩
def H7(p:Y6)(st:St):Nat->St
 | 0=>st
 | n+1=>(H7 p st n).app (p.ws n)
theorem UF(p:Y6)(st:St)(i:Nat):∀n,p.st (λj=>decide (j < i)) st n=H7 p st (min i n)
 | 0=>by simp[Y6.st,H7]
 | n+1=>by
  simp only[Y6.st];rw[UF p st i n];by_cases h:n < i
  ·rw[if_pos (by simpa using h),show min i n=n by omega,show min i (n+1)=n+1 by omega];rfl
  grind
theorem AU(p:Y6)(st:St):∀n,p.st (λ_=>true) st n=H7 p st n
 | 0=>rfl
 | n+1=>by simp only[Y6.st,if_true,AU p st n,H7]
theorem U8.Vj{P:Program}{G:zi}{ops:Array Oper}{Q:Exit->St->Prop}{p:Y6}{st:St}(h:∀i,i < ops.size->A7 P G ops i (H7 p st i) (p.rs i) (p.ws i))(hq:Q .normal (H7 p st ops.size)) :
  ∀n k,k+n=ops.size->U8 P G ops (List.range' k n) (H7 p st k) Q
 | 0,k,hk=>by
  grind [U8.nil]
 | n+1,k,hk=>by
  rw[List.range'_succ];exact U8.cons (h k (by omega) _ rfl (λl _=>O5.refl _ l)) (U8.Vj h hq n (k+1) (by omega))
def Mc(ops:Array Oper)(p:Y6):Bool:=p.ok ops&&(ops.toList.zipIdx.all λx=>x.1.after.all λe=>!Region.binds .any e || decide (e.on < x.2))
def Ud(ops:Array Oper)(i:Nat)(s:St):Option Oper:=
 match ops[i]? with
 | some o=>match E4 ops s o with
  | some true=>some o
  | _=>none
 | none=>none
theorem EC{ops:Array Oper}{i:Nat}{s:St}{o:Oper}(h:Ud ops i s=some o):ops[i]?=some o/\E4 ops s o=some true:=by
 grind [Ud]
def St.DP(G:zi)(s:St)(o:Oper):Operand->Option V:=(s.QV (Y5 o)).ev G
def St.QO(s:St)(o:Oper)(ex:List Nat):zj:=Dr s.b (Ob s o++ex)
theorem ZX{G:zi}{s s2:St}{o:Oper}(h:∀t,t∈Y5 o->s2.t t=s.t t):(s2.QV (Y5 o)).ev G=s.DP G o:=funext λx=>by
 unfold St.DP;have e:(s2.QV (Y5 o)).t=(s.QV (Y5 o)).t:=funext λj=>by
  show (if (Y5 o).contains j then s2.t j else .undef)=(if (Y5 o).contains j then s.t j else .undef);grind
 simp_all [St.ev]
theorem Yj{s s2:St}{o:Oper}{ex:List Nat}(h:∀b,b∈Ob s o++ex->s2.b b=s.b b/\s2.u b=s.u b):Dr s2.b (Ob s o++ex)=s.QO o ex:=funext λj=>by
 simp_all [St.QO,Dr]
theorem Df{P:Program}{G:zi}{o:Oper}{s:St}{ex:List Nat}{c:V}(hd:W2 s.n o.dst=true)(h:Jp P (s.DP G o) (s.QO o ex) o.op=some c):iK P G o s ex (Mb o.dst c):=by
 intro s2 hn ht hb _;rw[WK];exact E3 (by grind) λγ a w hs=>EG (hs.QV (Y5 o)) (AZ (YM s2.b (Ob s o++ex)) (by
  grind [ZX,Yj,Jp,Y5]))
theorem ZP{P:Program}{G:zi}{ops:Array Oper}{s:St}{i:Nat}{ex:List Nat}{ws:List Wr}
  (h:∃o,Ud ops i s=some o/\iK P G o s ex ws):A7 P G ops i s (MW ops i s ex) ws:=by
 grind [EC,Ow]
section
variable {P:Program} {G:zi} {ops:Array Oper} {s:St} {i:Nat} {ex:List Nat}
def Xv(P:Program)(t:TypeId):Option Nat:=match P.underlying t with
 | some (.slice e)=>(P.info? e).map (·.size)
 | _=>none
def mV(P:Program)(G:zi)(ops:Array Oper)(i:Nat)(s:St):Option (Nat×List (List V)×Int):=
 match Ud ops i s with
 | some o=>match o.op,o.dst with
  | .indexAddr t x j,some d=>if d < s.n then match s.DP G o x,s.DP G o j with
    | some (.sl _ size rows),some (.int _ n)=>if Xv P t=some size then some (d,rows,n) else none
    | _,_=>none
   else none
  | _,_=>none
 | none=>none
theorem PE{d:Nat}{rows:List (List V)}{n:Int}{r:List V}(h1:mV P G ops i s=some (d,rows,n))(h0:0<=n)(hr:rows[n.toNat]?=some r):A7 P G ops i s (MW ops i s ex) ([.t d (.snap r)]):=ZP (by
 simp only[mV] at h1;split at h1
 ·rename_i o ho;refine⟨o,ho,?_⟩;split at h1
  ·rename_i t x j d' hop hdst;split at h1
   ·rename_i hd;split at h1
    ·rename_i ow size rows' k n' hx hj;split at h1<;>simp at h1;rename_i hsz;obtain⟨rfl,rfl,rfl⟩:=h1;have:=Df (P:=P) (G:=G) (o:=o) (s:=s) (ex:=ex) (c:=.snap r) (by grind [W2]) (by
      rw[hop];simp only[Jp,hx,hj,N6];unfold Xv at hsz;grind)
     rw[hdst] at this;exact this
    ·simp at h1
   ·simp at h1
  ·simp at h1
 ·simp at h1)
def Qai(P:Program)(G:zi)(ops:Array Oper)(ex:List Nat)(i:Nat)(s:St):Option (Nat×Nat×Nat×Nat×Int):=
 match Ud ops i s with
 | some o=>match o.op,o.dst with
  | .indexAddr t x j,some d=>if d < s.n then match s.DP G o x,s.DP G o j with
    | some (.ref b off len),some (.int _ n)=>match s.QO o ex b with
     | some k=>if Xv P t=some k.size then some (d,b,off,len,n) else none
     | none=>none
    | _,_=>none
   else none
  | _,_=>none
 | none=>none
def FT(G:zi)(ops:Array Oper)(ex:List Nat)(i:Nat)(s:St):Option (TypeId×Nat×List (List V)×Nat×Nat):=
 match Ud ops i s with
 | some o=>match o.op,o.dst with
  | .load t x,some d=>if d < s.n then match s.DP G o x with
    | some (.ptr b r off)=>match s.QO o ex b with
     | some k=>some (t,d,k.rows,r,off)
     | none=>none
    | _=>none
   else none
  | _,_=>none
 | none=>none
theorem LV{t:TypeId}{d j off:Nat}{rows:List (List V)}{r:List V}{c:V}(h1:FT G ops ex i s=some (t,d,rows,j,off))(hr:rows[j]?=some r)(hc:N5 P t (r.drop off)=some c) :
  A7 P G ops i s (MW ops i s ex) ([.t d c]):=ZP (by
 simp only[FT] at h1;split at h1
 ·rename_i o ho;refine⟨o,ho,?_⟩;split at h1
  ·rename_i t' x d' hop hdst;split at h1
   ·rename_i hd;split at h1
    ·rename_i b r' off' hx;split at h1<;>simp at h1;rename_i k hk;obtain⟨rfl,rfl,rfl,rfl,rfl⟩:=h1;have:=Df (P:=P) (G:=G) (o:=o) (s:=s) (ex:=ex) (c:=c) (by grind [W2]) (by
      grind [Jp,Ie,JR])
     rw[hdst] at this;exact this
    ·simp at h1
   ·simp at h1
  ·simp at h1
 ·simp at h1)
def WL(P:Program)(t:TypeId)(size:Nat)(r:List V)(off:Nat)(c:V):Option (List V):=
 match P.info? t,RB c with
 | some ti,some cs=>if ti.size=cs.length/\off+cs.length<=size then some (N9 r off cs) else none
 | _,_=>none
def Aw(G:zi)(ops:Array Oper)(ex:List Nat)(i:Nat)(s:St):Option (TypeId×Nat×Nat×List (List V)×Nat×Nat×V):=
 match Ud ops i s with
 | some o=>match o.op,o.dst with
  | .store t x y,none=>match s.DP G o x,s.DP G o y with
   | some (.ptr b r off),some c=>match s.QO o ex b with
    | some k=>if k.Ql=true then some (t,b,k.size,k.rows,r,off,c) else none
    | none=>none
   | _,_=>none
  | _,_=>none
 | none=>none
theorem Aj{t:TypeId}{b size j off:Nat}{rows:List (List V)}{r r':List V}{c:V}(h1:Aw G ops ex i s=some (t,b,size,rows,j,off,c))(hr:rows[j]?=some r)(hc:WL P t size r off c=some r') :
  ∃o,Ud ops i s=some o/\iK P G o s ex [.b b (some ⟨size,true,rows.set j r'⟩)]:=(by
 simp only[Aw] at h1;split at h1
 ·rename_i o ho;refine⟨o,ho,?_⟩;split at h1
  ·rename_i t' x y hop hdst;split at h1
   ·rename_i b' r0 off' c' hx hy;split at h1
    ·rename_i k hk;split at h1<;>simp at h1;rename_i hex;obtain⟨rfl,rfl,rfl,rfl,rfl,rfl,rfl⟩:=h1;intro s2 hn ht hb hu;have hk2:Dr s2.b (Ob s o++ex) b'=some k:=by rw[Yj hb];exact hk
     have hkb:=YM _ _ _ _ hk2;have hst:ZQ P t' k r0 off' c'=some ⟨k.size,true,k.rows.set r0 r'⟩:=by
      unfold WL at hc;unfold ZQ;grind
     exact Wv hop hdst (λ_ _ _ h=>(h.QV (Y5 o)).ev (by rw[ZX ht];exact hx)) (λ_ _ _ h=>(h.QV (Y5 o)).ev (by rw[ZX ht];exact hy)) hkb hst
    ·simp at h1
   ·simp at h1
  ·simp at h1
 ·simp at h1)
end
section
variable {P:Program} {G:zi} {ops:Array Oper} {s:St} {i:Nat} {ex:List Nat}
theorem dF{s:St}{ts:List Nat}{x:Operand}{c:V}(h:(s.QV ts).ev G x=some c):c=.undef\/s.ev G x=some c:=by
 cases x<;>try exact .inr h
 grind [Option.some.injEq,St.ev,St.QV]
def VB(look:zj)(size:Nat)(c:V):Option (Src×Bool):=
 match c with
 | .Qu=>some (⟨none,0,size,true,[]⟩,true)
 | .ref b off len=>match look b with
  | some k=>some (⟨some b,off,size,k.Ql,(k.rows.drop off).take len⟩,k.size==size&&decide (off+len<=k.rows.length)&&(k.Ql || decide (off+len=k.rows.length)))
  | none=>none
 | _=>none
theorem VS{look:zj}{size:Nat}{c:V}{d:Src}(h:VB look size c=some (d,true)):Gb look size c=some d:=by
 unfold VB at h;unfold Gb;grind
def TE(look:zj)(size:Nat)(dst:Option Nat)(c:V):Option (Src×Bool):=
 match c with
 | .Qu=>some (⟨none,0,size,true,[]⟩,true)
 | .sl _ s rows=>some (⟨none,0,size,true,rows.map (·.map V.strip)⟩,s==size)
 | .ref b off len=>match look b with
  | some k=>some ((if dst=some b then ⟨none,0,size,true,((k.rows.drop off).take len).map (·.map V.strip)⟩ else ⟨some b,off,size,true,(k.rows.drop off).take len⟩),k.size==size&&decide (off+len<=k.rows.length))
  | none=>none
 | _=>none
theorem TM{look:zj}{size:Nat}{dst:Option Nat}{c:V}{d:Src}(h:TE look size dst c=some (d,true)):Ad look size dst c=some d:=by
 unfold TE at h;unfold Ad;grind
def Ta(P:Program)(G:zi)(ops:Array Oper)(ex:List Nat)(i:Nat)(s:St):Option (Nat×Src×Src×Nat×Nat×Bool):=
  match Ud ops i s with
  | some o=>match o.op,o.dst with
    | .call { callee:=.builtin .append,args:=as,argTypes:=ts },some d=>if d < s.n/\s.u d=false then match as.toList,ts.toList with
        | [x,y],[t,t2]=>match s.DP G o x,s.DP G o y,P.underlying t,P.underlying t2 with
          | some cx,some cy,some (.slice e),some (.slice _)=>match P.info? e with
            | some ei=>if 0 < ei.bytes/\(zeroV P e).map List.length=some ei.size then match VB (s.QO o ex) ei.size cx with
                | some (ds,c1)=>match TE (s.QO o ex) ei.size ds.b cy with
                  | some (ss,c2)=>some (d,ds,ss,ei.size,ei.bytes,c1&&c2)
                  | none=>none
                | none=>none
              else none
            | none=>none
          | _,_,_,_=>none
        | _,_=>none
      else none
    | _,_=>none
  | none=>none
def Gc(b:Option Nat):List Wr:=match b with|some i=>[.b i none]|none=>[]
theorem UK(s:St)(b:Option Nat)(ws:List Wr):s.app (Gc b++ws)=(s.QJ b).app ws:=by cases b<;>rfl
theorem VP{l1 l2:zj}(h:P1 l1 l2){size:Nat}{c:V}{d:Src}(he:Gb l1 size c=some d):Gb l2 size c=some d:=by
 unfold Gb at he ⊢;split at he<;>try exact he
 rename_i b off len;cases hb:l1 b with
 | none=>grind
 | some k=>rw[hb] at he;simp only[h b k hb];exact he
theorem TK{l1 l2:zj}(h:P1 l1 l2){size:Nat}{dst:Option Nat}{c:V}{d:Src}(he:Ad l1 size dst c=some d):Ad l2 size dst c=some d:=by
 unfold Ad at he ⊢;split at he<;>try exact he
 rename_i b off len;cases hb:l1 b with
 | none=>grind
 | some k=>rw[hb] at he;simp only[h b k hb];exact he
theorem Fq{d size bytes m:Nat}{ds ss:Src}{c:Bool}{rows:List (List V)}(h1:Ta P G ops ex i s=some (d,ds,ss,size,bytes,c))(hc:c=true)(hb:(ds.rows.length+ss.rows.length) * bytes<=140737488355328)
  (hr:ds.rows++ss.rows=rows) (hm:ds.rows.length+ss.rows.length=m):∃o,Ud ops i s=some o/\iK P G o s ex (Gc ds.b++(Gc ss.b++[.b d (some ⟨size,ds.Ql,rows⟩),.t d (.ref d 0 m)])):=(by
 subst hc hr hm;simp only[Ta] at h1;split at h1
 ·rename_i o ho;refine⟨o,ho,?_⟩;split at h1
  ·rename_i as ts d' hop hdst;split at h1
   ·rename_i hd;split at h1
    ·rename_i x y t t2 hxs hts;split at h1
     ·rename_i cx cy e e2 hx hy ht ht2;split at h1
      ·rename_i ei hi;split at h1
       ·rename_i hz;split at h1
        ·rename_i ds' c1 hds;split at h1
         ·rename_i ss' c2 hss;simp only[zG,zT,zL] at h1;obtain⟨rfl,rfl,rfl,rfl,rfl,rfl,rfl⟩:=h1;intro s2 hn htm hbm hum;have hax:as=#[x,y]:=(by grind);have hat:ts=#[t,t2]:=(by grind);subst hax hat;have le:P1 (s.QO o ex) s2.b:=by rw[<-Yj hbm];exact YM _ _
          have k1:=VP le (VS hds);have k2:=TK le (TM hss);have ex1:s2.ev G x=some cx:=by
           rcases dF (ts:=Y5 o) (s:=s2) (by rw[ZX htm];exact hx) with rfl|h
           ·simp[VB] at hds
           ·exact h
          have ex2:s2.ev G y=some cy:=by
           rcases dF (ts:=Y5 o) (s:=s2) (by rw[ZX htm];exact hy) with rfl|h
           ·simp[TE] at hss
           ·exact h
          have:=RZ (P:=P) (G:=G) (st:=s2) (ds0:=ds') (ss0:=ss') (k0:=⟨ei.size,ds'.Ql,ds'.rows++ss'.rows⟩) hop hdst (by grind) (by grind) ex1 ex2 (by
           simp_all [if_pos,Eb])
          rw[UK,UK];exact this
         ·simp at h1
        ·simp at h1
       ·simp at h1
      ·simp at h1
     ·simp at h1
    ·simp at h1
   ·simp at h1
  ·simp at h1
 ·simp at h1)
def IF(P:Program)(G:zi)(ops:Array Oper)(i:Nat)(s:St):Option (Oper×FuncId×List V):=
 match Ud ops i s with
 | some o=>match o.op with
  | .call { callee:=.value x,args:=xs,argTypes:=_ }=>if W2 s.n o.dst then match Ye G (s.QV (Y5 o)) x xs.toList with
    | some (f,cs)=>match P.funcs[f]? with
     | some fn=>if (fn.name== "runtime.NumGoroutine")=false/\fn.body.isNone=false then some (o,f,cs) else none
     | none=>none
    | none=>none
   else none
  | _=>none
 | none=>none
theorem Ep{s s2:St}{o:Oper}(h:∀t,t∈Y5 o->s2.t t=s.t t)(x:Operand)(xs:List Operand):Ye G (s2.QV (Y5 o)) x xs=Ye G (s.QV (Y5 o)) x xs:=by
 unfold Ye;rw[show (s2.QV (Y5 o)).ev G=(s.QV (Y5 o)).ev G from ZX h]
theorem DV{s:St}{o:Oper}{f:FuncId}{cs:List V}(h:IF P G ops i s=some (o,f,cs)) :
  Ud ops i s=some o/\W2 s.n o.dst=true/\∃x xs ts fn,o.op=.call { callee:=.value x,args:=xs,argTypes:=ts }/\Ye G (s.QV (Y5 o)) x xs.toList=some (f,cs)/\
   P.funcs[f]?=some fn/\(fn.name== "runtime.NumGoroutine")=false/\fn.body.isNone=false:=by
 unfold IF at h;grind
def viewAt(P:Program)(G:zi)(ops:Array Oper)(ex:List Nat)(G3 i:Nat)(s:St):Option (Option Nat×FuncId×List V):=
 match IF P G ops i s with
 | some (o,f,cs)=>(M4 (D4 (s.QO o ex) G3) cs).map λds=>(o.dst,f,ds)
 | none=>none
theorem TZ(G3:Nat){dst:Option Nat}{f:FuncId}{ds:List V}{r:V}(h1:viewAt P G ops ex G3 i s=some (dst,f,ds))(hc:iY P G f ds r)(hr:G6 r=true):A7 P G ops i s (MW ops i s ex) (Mb dst r):=ZP (by
 simp only[viewAt] at h1;split at h1
 ·rename_i o f' cs hca;obtain⟨ds',hm,he⟩:=zJ.1 h1;simp only[zT] at he;obtain⟨rfl,rfl,rfl⟩:=he;obtain⟨ho,hd,x,xs,ts,fn,hop,hcs,hfn,hna,hbo⟩:=DV hca;refine⟨o,ho,λs2 hn ht hb _=>?_⟩;rw[WK];have le:P1 (s.QO o ex) s2.b:=by rw[<-Yj hb];exact YM _ _
  exact IY (Y5 o) hop (by grind [Ep]) hfn hna hbo (N4 hm λx y hx=>XT le G3 x y hx) hc hr (by grind)
 ·simp at h1)
end
theorem Br{d:V}(hd:H3 d=true){γ:Gh}{w:World}{bs:zj}{u:zl}{v:Value}(hr:Qz γ w bs u d v):K9 γ.Qr w d v:=by
 cases hr with
 | data h=>exact h
 | undef=>simp[H3] at hd
 | ref=>simp[H3] at hd
 | ZC=>simp[H3] at hd
 | ZY=>simp[H3] at hd
 | Qp=>simp[H3] at hd
 | ptr=>simp[H3] at hd
 | QH=>simp[H3] at hd
 | mp=>simp[H3] at hd
 | QX=>simp[H3] at hd
 | fn f first captured fs cs h1 h2 _ _=>
  simp only[H3,zL,List.isEmpty_iff] at hd;obtain⟨rfl,rfl⟩:=hd;exact .fn f [] [] fs cs h1 h2 (by grind) (by grind)
 | agg=>simp[H3] at hd
 | Qc=>simp[H3] at hd
def sQ(b:Nat)(k:Qd)(c:V):V:=
 match c with
 | .ref b' off len=>if b'=b then .sl false k.size ((k.rows.drop off).take len) else c
 | c=>c
theorem Qs.jO{G:zi}{γ:Gh}{st:St}{tmps:Array Value}{w:World}(h:Qs G γ st tmps w){b:Nat}{k:Qd}(hb:st.b b=some k)(hd:∀r,r∈k.rows->∀c,c∈r->H3 c=true) :
  ∃γ',Qs G γ' (st.QT b) tmps w/\Qe γ w γ' w/\Zf γ st.b st.u γ' (st.QT b).b (st.QT b).u/\γ'.loc=γ.loc/\∀c v,Qz γ w st.b st.u c v->Qz γ' w (st.QT b).b (st.QT b).u (sQ b k c) v:=by
 let γ':Gh:={ loc:=γ.loc,own:=γ.own,Qr:=λB=>match γ.loc b with|some (B0,o)=>if B=B0 then max (γ.Qr B) (o+k.rows.length * k.size) else γ.Qr B|none=>γ.Qr B }
 have hlim:∀B,γ.Qr B<=γ'.Qr B/\(γ.own B≠some (.Zs b)->γ'.Qr B=γ.Qr B):=λB=>by
  simp only[γ'];rcases X3.at (h.b b k hb) with h0|⟨B0,o,a1,a2⟩
  ·grind
  grind
 have g:Qe γ w γ' w:=⟨rfl,rfl,rfl,zQ _,λ_ _ _ _ h=>h,λB _=>(hlim B).1,(by grind),(by grind)⟩
 have bl:G7 γ st.b st.u γ' (st.QT b).b (st.QT b).u:=by
  refine⟨(by grind [St.QT]),(by grind [St.QT]),λx q hq=>⟨by simp only[St.QT];split;rfl;exact h.u x q hq,?_⟩⟩;by_cases hx:x=b
  ·grind [St.QT]
  ·exact .inr ⟨q,by simp[St.QT,hx,hq],rfl,λ_=>rfl,rfl⟩
 refine⟨γ',⟨h.n,λi=>(h.t i).mono g bl,λx q hq=>?_,λx q hq=>?_,h.g.grow g,h.o⟩,g,bl.Ue,rfl,λc v hr=>?_⟩
 ·have hne:x≠b:=(by grind [St.QT])
  have hq':st.b x=some q:=by grind [St.QT]
  rcases h.b x q hq' with h0|hm|⟨hM,B,o,cs,e,a1,a2,a3,a4,a5,a6,a7,a8⟩
  ·exact .inl h0
  ·exact .inr (.inl (hm.same rfl (by grind) λc v hr=>hr.mono g bl))
  have hl:γ'.Qr B=γ.Qr B:=(by grind);refine .inr (.inr ⟨hM,B,o,cs,e,a1,a2,a3,a4,a5,λi c hc=>?_,λhx=>hl.trans (a7 hx),by grind⟩);obtain⟨v,b1,b2,b3,b4⟩:=a6 i c hc;exact⟨v,b1,b2.mono g bl,b3,b4.mono λB' hB'=>⟨hB',by simp_all⟩⟩
 ·simp only[St.QT] at hq ⊢;split
  ·rfl
  ·rename_i hx;rw[if_neg hx] at hq;exact h.u x q hq
 ·cases c with
  | ref b' off len=>
   simp only[sQ];split
   rotate_left
   ·exact hr.mono g bl
   rename_i e;subst e;rcases hr.ZO hb with⟨B,o,cap,rfl,hl,hlen,hcap,_,hM,_⟩|⟨B,rfl,rfl,_⟩|⟨rfl,rfl,_⟩
   ·rcases h.b b' k hb with⟨h0,_⟩|hm|⟨_,B',o',cs,e,g1,_,g3,g4,g5,g6,_,_⟩
    ·grind
    ·exact(hm.small hM).elim
    rw[hl] at g1;simp only[zG,zT] at g1;obtain⟨rfl,rfl⟩:=g1;have hrl:((k.rows.drop off).take len).length=len:=by simp;omega
    have hat:∀(j:Nat) (c:V),((k.rows.drop off).take len).flatten[j]?=some c->∃x,(o+off * k.size+j < γ'.Qr B/\cellAt w B (o+off * k.size+j)=some x)/\K9 γ'.Qr w c x:=λj c hc=>by
     obtain⟨q1,_⟩:=Ws k.rows g4 off len j c hc;obtain⟨x,x1,x2,_⟩:=g6 _ c q1;obtain⟨r,r1,r2⟩:=wU.1 (wd q1);have hjl:off * k.size+j < k.rows.length * k.size:=by
      have e1:=(wF.1 q1).1;have e2:k.rows.flatten.length=k.rows.length * k.size:=by
       rw[List.length_flatten];have:k.rows.map List.length=List.replicate k.rows.length k.size:=List.eq_replicate_iff.2 (by grind);simp_all
      omega
     refine⟨x,⟨?_,?_⟩,(Br (hd r r1 c r2) x2).mono (by grind)⟩
     ·grind
     ·rw[g3.cellAt];grind
    have:=K9.sl (Qr:=γ'.Qr) (w:=w) false k.size ((k.rows.drop off).take len) B (o+off * k.size) cap (λj=>(cellAt w B (o+off * k.size+j)).getD default) (by omega) (by grind)
     (by grind) (by grind)
    rw[hrl] at this;exact .data this
   ·exact .data (by rw[List.take_zero];exact .Zc false k.size (some B))
   ·exact .data (by rw[List.take_zero];exact .Zc false k.size)
  | _=>exact hr.mono g bl
theorem Qs.share{G:zi}{γ:Gh}{st:St}{tmps:Array Value}{w:World}(h:Qs G γ st tmps w){b:Nat}{k:Qd}(hb:st.b b=some k)(hd:∀r,r∈k.rows->∀c,c∈r->H3 c=true) :
  ∃γ',Qs G γ' (st.QT b) tmps w/\Qe γ w γ' w/\Zf γ st.b st.u γ' (st.QT b).b (st.QT b).u/\∀c v,Qz γ w st.b st.u c v->Qz γ' w (st.QT b).b (st.QT b).u (sQ b k c) v:=by
 obtain⟨γ',h1,h2,h3,_,h4⟩:=h.jO hb hd;grind
def Cz(l:List (Nat×Qd))(c:V):V:=l.foldl (λc x=>sQ x.1 x.2 c) c
def St.Zn(st:St)(l:List (Nat×Qd)):St:=l.foldl (λs x=>s.QT x.1) st
theorem Qs.shares{G:zi}{tmps:Array Value}{w:World}:∀(l:List (Nat×Qd)) {γ:Gh} {st:St},Qs G γ st tmps w->(∀x,x∈l->st.b x.1=some x.2)->(l.map (·.1)).Nodup->
  (∀x,x∈l->∀r,r∈x.2.rows->∀c,c∈r->H3 c=true)->
  ∃γ',Qs G γ' (st.Zn l) tmps w/\Qe γ w γ' w/\Zf γ st.b st.u γ' (st.Zn l).b (st.Zn l).u/\∀c v,Qz γ w st.b st.u c v->Qz γ' w (st.Zn l).b (st.Zn l).u (Cz l c) v
 | [],γ,st,h,_,_,_=>⟨γ,h,.refl γ w,.refl h.u,λ_ _ h=>h⟩
 | x :: l,γ,st,h,hb,hn,hd=>by
  obtain⟨γ1,h1,g1,p1,r1⟩:=h.share (hb x (by simp)) (hd x (by simp));simp only[wE,List.nodup_cons] at hn;obtain⟨γ2,h2,g2,p2,r2⟩:=Qs.shares l h1 (λy hy=>by
   have hne:y.1≠x.1:=(by grind)
   show (if y.1=x.1 then none else st.b y.1)=_;grind) hn.2 (λy hy=>hd y (by simp[hy]))
  exact⟨γ2,h2,g1.trans g2,p1.trans p2,λc v hc=>r2 _ _ (r1 c v hc)⟩
theorem IU:∀(l:List (Nat×Qd)) (st:St),(st.Zn l).n=st.n/\(st.Zn l).t=st.t
 | [],_=>⟨rfl,rfl⟩
 | x :: l,st=>IU l (st.QT x.1)
theorem Lp:∀(l:List (Nat×Qd)) (st:St) (j:Nat),(∃x,x∈l/\x.1=j)->(st.Zn l).b j=none/\(st.Zn l).u j=true
 | [],st,j,h=>by grind
 | x :: l,st,j,h=>by
  by_cases hl:∃y,y∈l/\y.1=j
  ·exact Lp l (st.QT x.1) j hl
  ·have hx:x.1=j:=by
    grind
   have key:∀(l:List (Nat×Qd)) (st:St),(¬∃y,y∈l/\y.1=j)->(st.Zn l).b j=st.b j/\(st.Zn l).u j=st.u j:=by
    intro l;induction l with
    | nil=>intro st _;exact⟨rfl,rfl⟩
    | cons y l ih=>
     intro st hn;have:=ih (st.QT y.1) (λ⟨z,hz,e⟩=>hn ⟨z,by simp[hz],e⟩);have hne:j≠y.1:=(by grind);refine⟨this.1.trans ?_,this.2.trans ?_⟩
     ·show (if j=y.1 then none else st.b j)=_;grind
     ·show (if j=y.1 then true else st.u j)=_;grind
   have:=key l (st.QT x.1) hl;refine⟨this.1.trans ?_,this.2.trans ?_⟩
   ·show (if j=x.1 then none else st.b j)=none;grind
   ·show (if j=x.1 then true else st.u j)=true;grind
theorem Hh:∀(l:List (Nat×Qd)) (st:St) (j:Nat),(¬∃x,x∈l/\x.1=j)->(st.Zn l).b j=st.b j/\(st.Zn l).u j=st.u j
 | [],st,j,_=>⟨rfl,rfl⟩
 | y :: l,st,j,hn=>by
  have:=Hh l (st.QT y.1) j (by grind);have hne:j≠y.1:=(by grind);refine⟨this.1.trans ?_,this.2.trans ?_⟩
  ·show (if j=y.1 then none else st.b j)=_;grind
  ·show (if j=y.1 then true else st.u j)=_;grind
theorem LJ(W:List (Nat×Option Qd))(st:St)(j:Nat)(h:¬∃x,x∈W/\x.1=j):(st.app (W.map λx=>.b x.1 x.2)).b j=st.b j/\(st.app (W.map λx=>.b x.1 x.2)).u j=st.u j:=
 O6 (l:=.b j) _ st λx hx e=>by
  obtain⟨y,hy,rfl⟩:=zP.1 hx;grind [Loc.b.injEq,Wr.loc]
theorem Ec(v:Option Qd):∀(W:List (Nat×Option Qd)) (st:St) (j:Nat),(∀x,x∈W->x.1=j->x.2=v)->(∃x,x∈W/\x.1=j)->(st.app (W.map λx=>.b x.1 x.2)).b j=v/\(st.app (W.map λx=>.b x.1 x.2)).u j=true
 | [],_,_,_,h=>by grind
 | x :: W,st,j,hv,h=>by
  by_cases hl:∃y,y∈W/\y.1=j
  ·exact Ec v W (st.wr (.b x.1 x.2)) j (by grind) hl
  ·have hx:x.1=j:=by
    grind
   have k:=LJ W (st.wr (.b x.1 x.2)) j hl;have hx2:=hv x (by simp) hx;obtain⟨xa,xb⟩:=x;simp only at hx hx2;subst hx hx2;refine⟨k.1.trans ?_,k.2.trans ?_⟩
   ·cases xb with
    | none=>show (if xa=xa then none else st.b xa)=none;simp
    | some q=>show (if xa=xa then some q else st.b xa)=some q;simp
   ·cases xb with
    | none=>show (if xa=xa then true else st.u xa)=true;simp
    | some q=>show (if xa=xa then true else st.u xa)=true;simp
theorem aX(W:List (Nat×Option Qd))(st:St):(st.app (W.map λx=>.b x.1 x.2)).n=st.n/\(st.app (W.map λx=>.b x.1 x.2)).t=st.t:=
 ⟨LY _ _,funext λi=>O6 (l:=.t i) _ st λx hx e=>by
  obtain⟨y,_,rfl⟩:=zP.1 hx;simp[Wr.loc] at e⟩
def J8(L:List (Nat×Nat))(c:Nat):Nat:=match L.find? (λx=>x.1==c) with|some x=>x.2|none=>0
def J6(L:List (Nat×Nat))(j:Nat):Nat:=match L.find? (λx=>x.2==j) with|some x=>x.1|none=>0
def Qm(l:List (Nat×Qd))(i:Nat):Option Qd:=match l.find? (λx=>x.1==i) with|some x=>some x.2|none=>none
abbrev Og(L:List (Nat×Nat))(O:List (Nat×Qd))(sh:List Nat):List (Nat×Option Qd):=(L.map λ(x:Nat×Nat)=>(x.2,(Qm O x.1).map (Qd.Qb (J8 L))))++(sh.map λ(b:Nat)=>(b,none))
def DN(Li Lo:List (Nat×Nat))(sh:List Nat):Bool:=
 (Li++Lo).all (λx=>J8 (Li++Lo) x.1==x.2&&J6 (Li++Lo) x.2==x.1&&!sh.contains x.2)&&Li.all (λx=>X8 x.1)&&Lo.all (λx=>!(Li.any λy=>y.1==x.1))&&decide sh.Nodup
section
variable {P:Program} {G:zi} {ops:Array Oper} {s:St} {i:Nat} {ex:List Nat}
def Er(P:Program)(G:zi)(ops:Array Oper)(ex:List Nat)(Li Lo:List (Nat×Nat))(sh:List Nat)(i:Nat)(s:St):Option (Option Nat×FuncId×List V×List (Nat×Qd)×List (Nat×Qd)):=
 match IF P G ops i s with
 | some (o,f,cs)=>match M4 (λb=>(s.QO o ex b).map λk=>(b,k)) sh,M4 (λx=>(s.QO o ex x.2).map λk=>(x.1,k)) Li with
  | some shl,some bl=>if (D0 (cs.map (Cz shl))).all (λb=>Li.any λx=>x.2==b)=true/\Lo.all (λx=>ex.contains x.2&&!s.u x.2)=true then some (o.dst,f,S9 (J6 (Li++Lo)) (cs.map (Cz shl)),bl,shl) else none
  | _,_=>none
 | none=>none
theorem P7{l:List (Nat×Qd)}{c:Nat}{k:Qd}(h:Qm l c=some k):(c,k)∈l:=by
 grind [Option.some.injEq,List.mem_of_find?_eq_some,Qm]
theorem Au(Li Lo:List (Nat×Nat))(sh:List Nat){dst:Option Nat}{f:FuncId}{as:List V}{bl shl I O:List (Nat×Qd)}{res:V}{E:Value->Ending}(hids:DN Li Lo sh=true)
  (h1:Er P G ops ex Li Lo sh i s=some (dst,f,as,bl,shl)) (hc:WX P G f as (Qm I) E res (Qm O))
  (hI:bl.map (λx=>(x.1,x.2.Qb (J6 (Li++Lo))))=I) (hsd:∀x,x∈shl->∀r,r∈x.2.rows->∀c,c∈r->H3 c=true)
  (hbr:∀x,x∈bl->∀b,b∈D0 x.2.rows.flatten->(Li.any λx=>x.2==b)=true)
  (hO:∀x,x∈O->((Li++Lo).any λy=>y.1==x.1)=true/\∀b,b∈D0 x.2.rows.flatten->((Li++Lo).any λy=>y.1==b)=true)
  (hres:(K1 res).all (λb=>(Li++Lo).any λy=>y.1==b)=true) :
  ∃o,Ud ops i s=some o/\(∀c,o.op≠.defer c)/\o.dst=dst/\W2 s.n o.dst=true/\∀s2:St,s2.n=s.n->(∀t,t∈Y5 o->s2.t t=s.t t)->(∀b,b∈Ob s o++ex->s2.b b=s.b b/\s2.u b=s.u b)->
   Kp P G o s2 f E (W3 (J8 (Li++Lo)) res) (s2.app ((Og (Li++Lo) O sh).map λx=>Wr.b x.1 x.2)):=by
 subst hI;simp only[Er] at h1;split at h1
 ·rename_i o f' cs hca;split at h1
  ·rename_i shl' bl' hshl hbl;split at h1<;>simp at h1;rename_i hcond;obtain⟨rfl,rfl,rfl,rfl,rfl⟩:=h1;obtain⟨ho,hd,x,xs,ts,fn,hop,hcs,hfn,hna,hbo⟩:=DV hca;refine⟨o,ho,(by grind),rfl,hd,λs2 hn ht hb=>?_⟩;simp only[DN,zL,zN,beq_iff_eq,zM,wC] at hids;obtain⟨⟨⟨i1,i2⟩,i3⟩,i4⟩:=hids;have memAny:∀{l:List (Nat×Nat)} {c:Nat},(l.any λy=>y.1==c)=true->∃y,y∈l/\y.1=c:=(by grind);have memAny2:∀{l:List (Nat×Nat)} {c:Nat},(l.any λy=>y.2==c)=true->∃y,y∈l/\y.2=c:=(by grind);have anyMem:∀{l:List (Nat×Nat)} {y:Nat×Nat},y∈l->(l.any λz=>z.1==y.1)=true:=(by grind);have cr:∀y,y∈Li++Lo->J8 (Li++Lo) y.1=y.2:=λy hy=>(i1 y hy).1.1;have ce:∀y,y∈Li++Lo->J6 (Li++Lo) y.2=y.1:=λy hy=>(i1 y hy).1.2;have nsh:∀y,y∈Li++Lo->¬y.2∈sh:=(by grind);have inL:∀{y},y∈Li->y∈Li++Lo:=(by grind);have shfst:shl'.map (·.1)=sh:=by
    have:∀(l:List Nat) (r:List (Nat×Qd)),M4 (λb=>(s.QO o ex b).map λk=>(b,k)) l=some r->r.map (·.1)=l:=by
     intro l;induction l with
     | nil=>grind [M4]
     | cons b l ih=>
      intro r h;simp only[M4] at h;split at h
      ·rename_i y r' e1 e2;simp only[zG] at h;subst h;obtain⟨k,_,rfl⟩:=zJ.1 e1;grind
      ·simp at h
    grind
   have le:∀b k,s.QO o ex b=some k->s2.b b=some k:=λb k h=>by rw[<-Yj hb] at h;exact YM _ _ b k h
   have shb:∀y,y∈shl'->s2.b y.1=some y.2:=λy hy=>by
    obtain⟨j,hj⟩:=qb.1 hy;obtain⟨b,_,e⟩:=F3 hshl j y hj;obtain⟨k,e1,rfl⟩:=zJ.1 e;grind
   have shIn:∀j,(∃y,y∈shl'/\y.1=j)↔j∈sh:=(by grind)
   have Zs:∀y,y∈Li->∃k,s.QO o ex y.2=some k/\(y.1,k)∈bl':=λy hy=>by
    obtain⟨j,hj⟩:=qb.1 hy;have hlen:=Jy hbl;have hjl:j < bl'.length:=by grind
    obtain⟨y',e0,e⟩:=F3 hbl j _ (wA hjl);grind [Option.some.injEq,Option.map_eq_some_iff,List.getElem_mem]
   have blFrom:∀z,z∈bl'->∃y,y∈Li/\y.1=z.1/\s.QO o ex y.2=some z.2:=λz hz=>by
    obtain⟨j,hj⟩:=qb.1 hz;obtain⟨y,e0,e⟩:=F3 hbl j z hj;grind
   let st1:=s2.Zn shl'
   have key:=Bc (P:=P) (G:=G) (o:=o) (E:=E) (st0:=s2) (st:=st1) (cs:=cs.map (Cz shl')) (K:=λc=>(Li++Lo).any λy=>y.1==c) (Kin:=λc=>Li.any λy=>y.1==c) (J8 (Li++Lo)) (J6 (Li++Lo))
    (λγ a w hsim=>by
     obtain⟨γ1,q1,q2,q3,q4⟩:=hsim.shares shl' shb (by grind) hsd;obtain⟨as,hrun,hargs⟩:=KR (P:=P) (hsim.QV (Y5 o)) hop (by rw[Ep ht];exact hcs) hfn hna hbo;refine⟨γ1,as,q1,q2,q3,hrun,by rw[wO];exact hargs.1,λj c v hc hv=>?_⟩;rw[wm,zJ] at hc;obtain⟨c0,k1,rfl⟩:=hc;exact q4 c0 v (hargs.2 j c0 v k1 hv))
    (by grind)
    (by grind)
    (ins:=Qm (bl'.map λx=>(x.1,x.2.Qb (J6 (Li++Lo)))))
    (λc hK=>by
     obtain⟨y,hy,rfl⟩:=memAny hK;obtain⟨k,e1,e2⟩:=Zs y hy;refine⟨k,?_,?_,λb hbk=>?_⟩
     ·grind [Hh,trans]
     ·unfold Qm;cases hf:(bl'.map λx=>(x.1,x.2.Qb (J6 (Li++Lo)))).find? (λx=>x.1==y.1) with
      | none=>
       have:=List.find?_eq_none.1 hf (y.1,k.Qb (J6 (Li++Lo))) (by grind);simp at this
      | some z=>
       obtain⟨z0,z1,rfl⟩:=zP.1 (ql hf);have z2:z0.1=y.1:=by simpa using List.find?_some hf
       obtain⟨y',y1,y2,y3⟩:=blFrom z0 z1;have:y'.2=y.2:=by rw[<-cr y' (inL y1),<-cr y (inL hy),y2,z2]
       rw[this,e1] at y3;simp only[zG] at y3;simp only[y3]
     ·obtain⟨z,hz,rfl⟩:=memAny2 (hbr _ e2 b hbk);rw[ce z (inL hz),cr z (inL hz)];exact⟨anyMem hz,rfl⟩)
    (λc hK=>by
     cases hf:Qm (bl'.map λx=>(x.1,x.2.Qb (J6 (Li++Lo)))) c with
     | none=>rfl
     | some k=>
      obtain⟨z0,z1,e⟩:=zP.1 (P7 hf);obtain⟨y,y1,y2,_⟩:=blFrom z0 z1;simp only[zT] at e;have:=anyMem y1;rw[y2,e.1,hK] at this;simp at this)
    (λc hK hKi=>by
     obtain⟨y,hy,rfl⟩:=memAny hK;rw[cr y hy];have hyo:y∈Lo:=by
      rcases ww.1 hy with h|h
      ·have:=anyMem h;rw[hKi] at this;simp at this
      ·exact h
     have:=zN.1 hcond.2 y hyo;simp only[zL,wC] at this;have e:s2.u y.2=s.u y.2:=(hb y.2 (by have h:=this.1;simp at h;simp[h])).2;exact(Hh shl' s2 y.2 (by rw[shIn];exact nsh y hy)).2.trans (e.trans this.2))
    (outs:=Qm O)
    (λc k hk=>by
     have:=hO _ (P7 hk);exact this)
    (λb hbr=>zN.1 hres b hbr)
    (λb hbr=>by
     obtain⟨z,hz,rfl⟩:=memAny2 (zN.1 hcond.1 b hbr);rw[ce z (inL hz),cr z (inL hz)];exact⟨anyMem hz,rfl⟩)
    hc
   have hst:st1.after (λj=>((Li++Lo).any λy=>y.1==J6 (Li++Lo) j)&&(J8 (Li++Lo) (J6 (Li++Lo) j)==j)) (J6 (Li++Lo)) (J8 (Li++Lo)) (Qm O) =
     s2.app ((Og (Li++Lo) O sh).map λx=>Wr.b x.1 x.2):=by
    have nt:=aX (Og (Li++Lo) O sh) s2;refine St.ext' ((IU shl' s2).1.trans nt.1.symm) λl=>?_;cases l with
    | t q=>exact congrFun ((IU shl' s2).2.trans nt.2.symm) q
    | b j=>
     by_cases hj:∃y,y∈Li++Lo/\y.2=j
     ·obtain⟨y,hy,rfl⟩:=hj;have hJ:(((Li++Lo).any λz=>z.1==J6 (Li++Lo) y.2)&&(J8 (Li++Lo) (J6 (Li++Lo) y.2)==y.2))=true:=by
       rw[ce y hy,cr y hy,anyMem hy];simp
      obtain⟨k1,k2⟩:=Ec ((Qm O y.1).map (Qd.Qb (J8 (Li++Lo)))) (Og (Li++Lo) O sh) s2 y.2 (λz hz e=>by
       rcases ww.1 hz with hz|hz
       ·obtain⟨z0,hz0,rfl⟩:=zP.1 hz;simp only at e ⊢;rw[<-ce z0 hz0,e,ce y hy]
       ·obtain⟨b,hb0,rfl⟩:=zP.1 hz;simp only at e;exact absurd (e▸hb0) (nsh y hy)) ⟨_,qg _ (zP.2 ⟨y,hy,rfl⟩),rfl⟩
      refine⟨Eq.trans ?_ k1.symm,Eq.trans ?_ k2.symm⟩
      ·show (if _ then _ else _)=_;rw[if_pos hJ,ce y hy]
      ·simp only[St.after,hJ,Bool.true_or]
     ·have hJ:(((Li++Lo).any λz=>z.1==J6 (Li++Lo) j)&&(J8 (Li++Lo) (J6 (Li++Lo) j)==j))=false:=by
       cases h:(((Li++Lo).any λz=>z.1==J6 (Li++Lo) j)&&(J8 (Li++Lo) (J6 (Li++Lo) j)==j)) with
       | false=>rfl
       | true=>
        simp only[zL,beq_iff_eq] at h;obtain⟨z,hz,e⟩:=memAny h.1;exact absurd ⟨z,hz,by rw[<-cr z hz,e];exact h.2⟩ hj
      have ha:(st1.after (λj=>((Li++Lo).any λy=>y.1==J6 (Li++Lo) j)&&(J8 (Li++Lo) (J6 (Li++Lo) j)==j)) (J6 (Li++Lo)) (J8 (Li++Lo)) (Qm O)).b j=st1.b j/\
        (st1.after (λj=>((Li++Lo).any λy=>y.1==J6 (Li++Lo) j)&&(J8 (Li++Lo) (J6 (Li++Lo) j)==j)) (J6 (Li++Lo)) (J8 (Li++Lo)) (Qm O)).u j=st1.u j:=by
       simp only[St.after,hJ];exact⟨rfl,rfl⟩
      by_cases hs':j∈sh
      ·obtain⟨k1,k2⟩:=Ec none (Og (Li++Lo) O sh) s2 j (λz hz e=>by
        rcases ww.1 hz with hz|hz
        ·obtain⟨z0,hz0,rfl⟩:=zP.1 hz;exact absurd ⟨z0,hz0,e⟩ hj
        ·obtain⟨b,_,rfl⟩:=zP.1 hz;rfl) ⟨_,List.mem_append_right _ (zP.2 ⟨j,hs',rfl⟩),rfl⟩
       obtain⟨d1,d2⟩:=Lp shl' s2 j ((shIn j).2 hs');exact⟨(ha.1.trans d1).trans k1.symm,(ha.2.trans d2).trans k2.symm⟩
      ·obtain⟨k1,k2⟩:=LJ (Og (Li++Lo) O sh) s2 j (λ⟨z,hz,e⟩=>by
        rcases ww.1 hz with hz|hz
        ·obtain⟨z0,hz0,rfl⟩:=zP.1 hz;exact hj ⟨z0,hz0,e⟩
        ·obtain⟨b,hb0,rfl⟩:=zP.1 hz;exact hs' (e▸hb0))
       obtain⟨d1,d2⟩:=Hh shl' s2 j (by rw[shIn];exact hs');exact⟨(ha.1.trans d1).trans k1.symm,(ha.2.trans d2).trans k2.symm⟩
   rw[<-hst];exact key
  ·simp at h1
 ·simp at h1
theorem TY(Li Lo:List (Nat×Nat))(sh:List Nat){dst:Option Nat}{f:FuncId}{as:List V}{bl shl I O:List (Nat×Qd)}{res:V}{ws:List Wr}(hids:DN Li Lo sh=true)
  (h1:Er P G ops ex Li Lo sh i s=some (dst,f,as,bl,shl)) (hc:QR P G f as (Qm I) res (Qm O))
  (hI:bl.map (λx=>(x.1,x.2.Qb (J6 (Li++Lo))))=I) (hsd:∀x,x∈shl->∀r,r∈x.2.rows->∀c,c∈r->H3 c=true)
  (hbr:∀x,x∈bl->∀b,b∈D0 x.2.rows.flatten->(Li.any λx=>x.2==b)=true)
  (hO:∀x,x∈O->((Li++Lo).any λy=>y.1==x.1)=true/\∀b,b∈D0 x.2.rows.flatten->((Li++Lo).any λy=>y.1==b)=true)
  (hres:(K1 res).all (λb=>(Li++Lo).any λy=>y.1==b)=true)
  (hws:((Og (Li++Lo) O sh).map λx=>Wr.b x.1 x.2)++Mb dst (W3 (J8 (Li++Lo)) res)=ws) :
  A7 P G ops i s (MW ops i s ex) (ws):=ZP (by
 subst hws;obtain⟨o,ho,_,rfl,hd,key⟩:=Au Li Lo sh hids h1 hc hI hsd hbr hO hres;refine⟨o,ho,λs2 hn ht hb _=>?_⟩;rw[show ∀(A B:List Wr),s2.app (A++B)=(s2.app A).app B from λA B=>List.foldl_append ..,WK];exact(key s2 hn ht hb).Qi8 (by grind [LY]))
theorem PD(Li Lo:List (Nat×Nat))(sh:List Nat){dst:Option Nat}{f:FuncId}{as:List V}{bl shl I O:List (Nat×Qd)}{v:List PanicEntry}{ws:List Wr}(hids:DN Li Lo sh=true)
  (h1:Er P G ops ex Li Lo sh i s=some (dst,f,as,bl,shl)) (hc:EK P G f as (Qm I) v (Qm O))
  (hI:bl.map (λx=>(x.1,x.2.Qb (J6 (Li++Lo))))=I) (hsd:∀x,x∈shl->∀r,r∈x.2.rows->∀c,c∈r->H3 c=true)
  (hbr:∀x,x∈bl->∀b,b∈D0 x.2.rows.flatten->(Li.any λx=>x.2==b)=true)
  (hO:∀x,x∈O->((Li++Lo).any λy=>y.1==x.1)=true/\∀b,b∈D0 x.2.rows.flatten->((Li++Lo).any λy=>y.1==b)=true)
  (hws:((Og (Li++Lo) O sh).map λx=>Wr.b x.1 x.2)=ws):MY P G ops i s (MW ops i s ex) (.panic v) ws:=by
 subst hws;obtain⟨o,ho,hnd,_,_,key⟩:=Au Li Lo sh hids h1 hc hI hsd hbr hO (by simp[K1]);obtain⟨h3,h4⟩:=EC ho;intro s2 hn hag;obtain⟨k1,k2,k3,_⟩:=EB h3 h4 hn hag;exact⟨o,h3,hnd,k1,(key s2 hn k2 k3).Qi7⟩
end
def QU(G:zi)(st st':St):Prop:=
 ∀(γ:Gh) (tmps:Array Value) (w:World),Qs G γ st tmps w->∃γ',Qs G γ' st' tmps w/\Qe γ w γ' w/\Zf γ st.b st.u γ' st'.b st'.u
theorem TV.ghost{P:Program}{G:zi}{c:Code}{st st':St}{Q:Exit->St->Prop}(g:QU G st st')(h:TV P G c st' Q):TV P G c st Q:=λfx γ a w hs hd=>by
 obtain⟨γ',h1,h2,h3⟩:=g γ a.tmps w hs;exact wpIn_mono (h fx γ' a w h1 (hd.grow h2 hd.1)) λ_ _ _ hl=>hl.grow ⟨h2,h3⟩
theorem QU.trans{G:zi}{a b c:St}(h:QU G a b)(k:QU G b c):QU G a c:=λγ tmps w hs=>by
 obtain⟨γ1,h1,h2,h3⟩:=h γ tmps w hs;obtain⟨γ2,k1,k2,k3⟩:=k γ1 tmps w h1;exact⟨γ2,k1,h2.trans k2,h3.trans k3⟩
theorem QU.forget{G:zi}{st st':St}(f:N7 st st'):QU G st st':=λγ _ w hs=>⟨γ,f.Nc hs,.refl γ w,f.Ue hs⟩
theorem Qs.XC{G:zi}{γ:Gh}{st:St}{tmps:Array Value}{w:World}(h:Qs G γ st tmps w){d size:Nat}(hu:st.u d=false) :
  ∃γ',Qs G γ' (st.Qj d ⟨size,true,[]⟩) tmps w/\Qe γ w γ' w/\G7 γ st.b st.u γ' (st.Qj d ⟨size,true,[]⟩).b (st.Qj d ⟨size,true,[]⟩).u:=by
 let γ':Gh:={ loc:=λb=>if b=d then none else γ.loc b,own:=γ.own,Qr:=γ.Qr }
 have g:Qe γ w γ' w:=⟨rfl,rfl,rfl,zQ _,λ_ _ _ _ h=>h,λ_ _=>zQ _,(by grind),(by grind)⟩
 have bl:G7 γ st.b st.u γ' (st.Qj d ⟨size,true,[]⟩).b (st.Qj d ⟨size,true,[]⟩).u:=h.IN hu (by grind);refine⟨γ',⟨h.n,λi=>(h.t i).mono g bl,λb k hk=>?_,λb k hk=>?_,h.g.grow g,h.o⟩,g,bl⟩
 ·simp only[St.Qj] at hk;by_cases hb:b=d
  ·subst hb;rw[if_pos rfl] at hk;simp only[zG] at hk;subst hk;exact .inl ⟨by simp[γ'],rfl⟩
  ·rw[if_neg hb] at hk;rcases h.b b k hk with⟨v1,v2⟩|hm|⟨hM,B,o,cs',e',h1,h2,h3,h4,h5,h6,h7,h8⟩
   ·exact .inl (by grind)
   ·exact .inr (.inl (hm.same (by grind) (by grind) λc v hr=>hr.mono g bl))
   ·refine .inr (.inr ⟨hM,B,o,cs',e',by grind,h2,h3,h4,h5,λi c hc=>?_,h7,h8⟩);obtain⟨v,a1,a2,a3,a4⟩:=h6 i c hc;exact⟨v,a1,a2.mono g bl,a3,a4⟩
 ·simp only[St.Qj] at hk ⊢;by_cases hb:b=d
  ·subst hb;simp
  ·rw[if_neg hb] at hk;rw[if_neg hb];exact h.u b k hk
theorem QU.pF{G:zi}{st:St}{d t:Nat}(size:Nat)(hM:size < J0)(hu:st.u d=false)(ht:st.t t=.Qu):QU G st ((st.Qj d ⟨size,true,[]⟩).QG t (.ref d 0 0)):=λγ tmps w hs=>by
 obtain⟨γ',h1,h2,h3⟩:=hs.XC (size:=size) hu;refine⟨γ',⟨h1.n,λi=>?_,h1.b,h1.u,h1.g,h1.o⟩,h2,h3.Ue⟩;show Qz γ' w _ _ (if i=t then _ else st.t i) _;by_cases hi:i=t
 ·subst hi;rw[if_pos rfl];have inv:∀v:Value,Qz γ w st.b st.u .Qu v->v=.slice none 0 0:=λv hv=>by
   cases hv with
   | data h=>cases h;rfl
  have hv:tmps.getD i undef=.slice none 0 0:=inv _ (by rw[<-ht];exact hs.t i);rw[hv];exact .ZY d 0 ⟨size,true,[]⟩ (by simp[St.Qj,St.QG]) hM rfl
 ·rw[if_neg hi];exact h1.t i
def Qyy(P:Program)(t:TypeId):Bool:=match P.underlying t with
 | some (.struct _)=>true
 | some (.array _ _)=>true
 | some _=>false
 | none=>true
def Wk(bs:zj)(u:zl)(c c':V):Prop:=∀(γ:Gh) (w:World) (v:Value),Qz γ w bs u c v->Qz γ w bs u c' v
theorem Wk.refl{bs:zj}{u:zl}(c:V):Wk bs u c c:=λ_ _ _ h=>h
def W5(R:V->V->Prop)(rows rows':List (List V)):Prop:=
 rows'.length=rows.length/\∀(i:Nat) (r':List V),rows'[i]?=some r'->∃r,rows[i]?=some r/\r'.length=r.length/\∀(j:Nat) (c':V),r'[j]?=some c'->∃c,r[j]?=some c/\R c c'
theorem W5.jX{R:V->V->Prop}{rows rows':List (List V)}(h:W5 R rows rows'){s:Nat}(hs:∀r,r∈rows->r.length=s):∀r,r∈rows'->r.length=s:=λr' hr=>by
 obtain⟨i,hi⟩:=qb.1 hr;obtain⟨r,h1,h2,_⟩:=h.2 i r' hi;grind
theorem W5.flat{R:V->V->Prop}{rows rows':List (List V)}(h:W5 R rows rows'){s:Nat}(hs:∀r,r∈rows->r.length=s){i:Nat}{c':V}(hc:rows'.flatten[i]?=some c'):∃c,rows.flatten[i]?=some c/\R c c':=by
 have hs':=h.jX hs;rcases qk s with h0|hpos
 ·grind [List.flatten_eq_nil_iff,List.length_eq_zero_iff]
 ·have e:i=(i / s) * s+i % s:=by grind [Nat.mul_comm,Nat.div_add_mod]
  have hm:=Nat.mod_lt i hpos;have hget:=H2 rows' hs' (i / s) (i % s) hm;rw[<-e,hc] at hget;cases hr:rows'[i / s]? with
  | none=>grind
  | some r'=>
   rw[hr] at hget;simp only[qf] at hget;obtain⟨r,h1,_,h3⟩:=h.2 _ r' hr;grind [H2]
theorem QU.cells{G:zi}{st st':St}(hn:st'.n=st.n)(hu:st'.u=st.u)(ht:∀i,Wk st'.b st'.u (st.t i) (st'.t i))
  (hb:∀b,(st.b b=none/\st'.b b=none)\/∃k k',st.b b=some k/\st'.b b=some k'/\k'.size=k.size/\k'.Ql=k.Ql/\W5 (λc c'=>Wk st'.b st'.u c c'/\(c'.QK=true->c'=c\/c=.Qu)) k.rows k'.rows):QU G st st':=λγ tmps w h=>by
 have bl:G7 γ st.b st.u γ st'.b st'.u:=by
  refine⟨(by grind),λb _ hbn=>?_,λb k hk=>⟨by rw[hu];exact h.u b k hk,?_⟩⟩
  ·grind
  ·rcases hb b with⟨h1,_⟩|⟨k0,k',h1,h2,h3,_,h5⟩
   ·grind
   ·rw[h1] at hk;simp only[zG] at hk;subst hk;exact .inr ⟨k',h2,h3,λ_=>h5.1,rfl⟩
 refine⟨γ,⟨by rw[hn];exact h.n,λi=>ht i _ _ _ ((h.t i).mono (.refl _ _) bl),λb k hk=>?_,λb k hk=>?_,h.g,h.o⟩,.refl γ w,bl.Ue⟩
 ·rcases hb b with⟨_,h2⟩|⟨k0,k',h1,h2,h3,h4,h5⟩
  ·grind
  rw[h2] at hk;simp only[zG] at hk;subst hk;rcases h.b b k0 h1 with⟨z0,z1⟩|hm|⟨hM,B,o,cs,e,a1,a2,a3,a4,a5,a6,a7,a8⟩
  ·refine .inl ⟨z0,qo.1 ?_⟩;rw[h5.1,z1];rfl
  ·have hw:∀r,r∈k0.rows->r.length=mwd k0.size:=by obtain⟨_,_,_,_,_,_,_,_,q,_⟩:=hm;exact q
   refine .inr (.inl (hm.nV rfl (by grind) h3 h5.1 (h5.jX hw) λi c' hc=>?_));obtain⟨c,c1,c2,c3⟩:=h5.flat hw hc;exact⟨c,c1,λv hv=>c2 _ _ _ (hv.mono (.refl _ _) bl)⟩
  refine .inr (.inr ⟨by grind,B,o,cs,e,a1,a2,a3,by rw[h3];exact h5.jX a4,by rw[h3,h5.1];exact a5,λi c' hc=>?_,(by grind),by rw[h3,h5.1];exact a8⟩);obtain⟨c,c1,c2,c3⟩:=h5.flat a4 hc;obtain⟨v,v1,v2,v3,v4⟩:=a6 i c c1;refine⟨v,v1,c2 _ _ _ (v2.mono (.refl _ _) bl),v3,?_⟩;rw[h3];cases ho:c'.QK with
  | false=>exact .QN ho
  | true=>
   rcases c3 ho with e|e
   ·grind
   ·subst e;have:=v2.QI;grind [D6]
 ·rw[hu];rcases hb b with⟨_,h2⟩|⟨k0,k',h1,h2,_⟩
  ·grind
  ·exact h.u b k0 h1
theorem QU.Qid{G:zi}{st:St}{d:Nat}(size:Nat)(hu:st.u d=false):QU G st (st.Qj d ⟨size,true,[]⟩):=λγ tmps w hs=>by
 obtain⟨γ',h1,h2,h3⟩:=hs.XC (size:=size) hu;exact⟨γ',h1,h2,h3.Ue⟩
def M1(a b:Nat):Nat->Nat:=λc=>if c=a then b else c
def St.ZB(st:St)(a b:Nat):St where
 n:=st.n
 t:=λi=>W3 (M1 a b) (st.t i)
 b:=λc=>if c=b then (st.b a).map (Qd.Qb (M1 a b)) else if c=a then none else (st.b c).map (Qd.Qb (M1 a b))
 u:=λc=>if c=b then true else st.u c
theorem QU.ZB{G:zi}{st:St}{a b:Nat}(hab:a≠b)(hub:st.u b=false):QU G st (st.ZB a b):=λγ tmps w h=>by
 let f:=M1 a b
 let γ' : Gh := { loc := λc => if c = b then γ.loc a else γ.loc c, own := λB => match γ.own B with
  | some (.Zs x)=>some (.Zs (f x))
  | some (.nest x i j)=>some (.nest (f x) i j)
  | none => none, Qr := γ.Qr }
 have hbn:st.b b=none:=by
  cases hb:st.b b with
  | none=>rfl
  | some k=>rw[h.u b k hb] at hub;simp at hub
 have g:Qe γ w γ' w:=⟨rfl,rfl,rfl,zQ _,λ_ _ _ _ h=>h,λ_ _=>zQ _,(by grind),(by grind)⟩
 have tr:∀c,Tr γ st.b st.u γ' (st.ZB a b).b (st.ZB a b).u f c:=λc=>by
  refine⟨λk hk=>?_,λhn hu=>?_⟩
  ·have hcb:c≠b:=(by grind);by_cases hca:c=a
   ·subst hca;refine⟨k.Qb f,by simp[St.ZB,f,M1,hk],rfl,by simp[Qd.Qb],by simp[γ',f,M1]⟩
   ·refine⟨k.Qb f,by grind [St.ZB,M1],rfl,by simp[Qd.Qb],by grind [M1]⟩
  grind [St.ZB,M1]
 have tmp:∀i,Qz γ' w (st.ZB a b).b (st.ZB a b).u (W3 f (st.t i)) (tmps.getD i undef):=λi=>
  Qz.Qb (γ1:=γ) (γ2:=γ') (w:=w) (w':=w) (bs1:=st.b) (u1:=st.u) (s:=f) (by grind) (λ_ _ h=>h) (h.t i) (λb _=>tr b)
 refine⟨γ',⟨h.n,tmp,λc k hk=>?_,λc k hk=>?_,h.g.grow g,λB x hx=>?_⟩,g,λc hc=>?_⟩
 ·have ob:∀x B,γ.own B=some (.Zs x)->γ'.own B=some (.Zs (f x)):=(by grind)
  have on:∀x B i j,γ.own B=some (.nest x i j)->γ'.own B=some (.nest (f x) i j):=(by grind);simp only[St.ZB] at hk;by_cases hcb:c=b
  ·subst hcb;rw[if_pos rfl] at hk;obtain⟨k0,h0,rfl⟩:=zJ.1 hk;have:=(h.b a k0 h0).Qb (γ2:=γ') (bs2:=(st.ZB a c).b) (u2:=(st.ZB a c).u) (s:=f) (by simp[γ',f,M1]) (λ_=>rfl) (λB hB=>ob a B hB) (by grind) (λb' _=>tr b');grind [M1]
  ·rw[if_neg hcb] at hk;by_cases hca:c=a
   ·grind
   ·rw[if_neg hca] at hk;obtain⟨k0,h0,rfl⟩:=zJ.1 hk;have e:f c=c:=by simp[f,M1,hca]
    have:=(h.b c k0 h0).Qb (γ2:=γ') (bs2:=(st.ZB a b).b) (u2:=(st.ZB a b).u) (s:=f) (by grind) (λ_=>rfl) (λB hB=>ob c B hB) (by grind) (λb' _=>tr b');grind
 ·simp only[St.ZB] at hk ⊢;split
  ·rfl
  ·rename_i hcb;rw[if_neg hcb] at hk;split at hk
   ·simp at hk
   ·obtain⟨k0,h0,_⟩:=zJ.1 hk;exact h.u c k0 h0
 ·simp only[γ'] at hx;cases ho:γ.own B with
  | none=>grind
  | some y=>exact h.o B y ho
 ·refine⟨λhu=>?_,λhu hn=>?_,λk hk=>?_⟩
  ·grind [St.ZB]
  ·have hcb:c≠b:=(by grind);simp_all [if_neg,St.ZB]
  ·have hcb:c≠b:=(by grind);refine⟨by simp only[St.ZB,if_neg hcb];exact h.u c k hk,?_⟩;by_cases hca:c=a
   ·grind [St.ZB]
   ·exact .inr ⟨k.Qb f,by grind [St.ZB],rfl,by simp[Qd.Qb],by grind⟩
def St.shr(st:St)(b:Nat)(g:V->V):St where
 n:=st.n
 t:=λi=>g (st.t i)
 b:=λc=>if c=b then none else (st.b c).map λk=>{ k with rows:=k.rows.map (·.map g) }
 u:=λc=>if c=b then true else st.u c
def DJ(st:St)(b:Nat)(k:Qd)(g:V->V)(c:V):Prop:=
 ∀(γ γ':Gh) (w:World) (bs':zj) (u':zl),bs' b=none->u' b=true->(∀c v,Qz γ w st.b st.u c v->Qz γ' w bs' u' (sQ b k c) v)->∀v,Qz γ w st.b st.u c v->Qz γ' w bs' u' (g c) v
theorem QU.shr{G:zi}{st:St}{b:Nat}{k:Qd}(hb:st.b b=some k)(hd:∀r,r∈k.rows->∀c,c∈r->H3 c=true){g:V->V}
  (hgt:∀i,DJ st b k g (st.t i)) (hgb:∀x q,x≠b->st.b x=some q->∀r,r∈q.rows->∀c,c∈r->DJ st b k g c) (hown:∀c,(g c).QK=true->g c=c):QU G st (st.shr b g):=λγ tmps w h=>by
 obtain⟨γ',h1,h2,h3,hloc,h4⟩:=h.jO hb hd;have bl:G7 γ' (st.QT b).b (st.QT b).u γ' (st.shr b g).b (st.shr b g).u:=by
  refine⟨λc hc=>hc,λc hc hn=>?_,λc q hq=>⟨h1.u c q hq,?_⟩⟩
  ·simp_all [if_neg,St.QT,St.shr]
  ·simp only[St.QT] at hq;split at hq
   ·simp at hq
   ·rename_i hcb;exact .inr ⟨{ q with rows:=q.rows.map (·.map g) },by simp[St.shr,hcb,hq],rfl,by simp,rfl⟩
 have map:∀c v,Qz γ w st.b st.u c v->Qz γ' w (st.shr b g).b (st.shr b g).u (sQ b k c) v:=λc v hr=>(h4 c v hr).mono (.refl _ _) bl;have key:∀c v,DJ st b k g c->Qz γ w st.b st.u c v->Qz γ' w (st.shr b g).b (st.shr b g).u (g c) v:=λc v hc hr=>
  hc γ γ' w _ _ (by simp[St.shr]) (by simp[St.shr]) map v hr
 refine⟨γ',⟨h.n,λi=>key _ _ (hgt i) (h.t i),λc q hq=>?_,λc q hq=>?_,h1.g,h1.o⟩,h2,h3.trans bl.Ue⟩
 ·simp only[St.shr] at hq;split at hq
  ·simp at hq
  rename_i hcb;obtain⟨q0,hq0,rfl⟩:=zJ.1 hq;have hq1:(st.QT b).b c=some q0:=by simp[St.QT,hcb,hq0]
  rcases h1.b c q0 hq1 with⟨z0,z1⟩|hm|⟨hM,B,o,cs,e,a1,a2,a3,a4,a5,a6,a7,a8⟩
  ·exact .inl ⟨z0,by simp[z1]⟩
  ·obtain⟨hM,B,es,clock,g1,g2,g3,g4,g5,g6,g7⟩:=hm;refine .inr (.inl ⟨hM,B,es,clock,g1,g2,g3,by simpa using g4,λr hr=>?_,g6,λi c' hc'=>?_⟩)
   ·grind
   ·have hfl:(q0.rows.map (·.map g)).flatten=q0.rows.flatten.map g:=by grind
    simp only at hc';rw[hfl,wm,zJ] at hc';obtain⟨c0,k1,rfl⟩:=hc';obtain⟨v,v1,v2,v3⟩:=g7 i c0 k1;have old:Qz γ w st.b st.u c0 v:=by
     rcases h.b c q0 hq0 with⟨z0,z1⟩|hm2|hb2
     ·grind
     ·obtain⟨_,B2,es2,clock2,b1,b2,b3,b4,_,b6,b7⟩:=hm2;grind
     ·exact absurd hb2.1 (Nat.not_lt_of_le hM)
    obtain⟨r0,hr0,hc0⟩:=wU.1 (wd k1);grind
  have hsz:∀r,r∈q0.rows.map (·.map g)->r.length=q0.size:=(by grind);refine .inr (.inr ⟨hM,B,o,cs,e,a1,a2,a3,hsz,by simpa using a5,λi c' hc'=>?_,a7,by simpa using a8⟩);have hfl:(q0.rows.map (·.map g)).flatten=q0.rows.flatten.map g:=by grind
  simp only at hc';rw[hfl,wm,zJ] at hc';obtain⟨c0,k1,rfl⟩:=hc';obtain⟨v,v1,v2,v3,v4⟩:=a6 i c0 k1;have old:Qz γ w st.b st.u c0 v:=by
   rcases h.b c q0 hq0 with⟨z0,z1⟩|hm|⟨_,B2,o2,cs2,e2,b1,b2,b3,_,_,b6,_⟩
   ·grind
   ·exact(hm.small hM).elim
   ·obtain⟨x,x1,x2,_⟩:=b6 i c0 k1;rw[hloc,b1] at a1;simp only[zG,zT] at a1;obtain⟨rfl,rfl⟩:=a1;obtain⟨rfl,rfl⟩:=a3.unique b3;grind
  obtain⟨r0,hr0,hc0⟩:=wU.1 (wd k1);refine⟨v,v1,(by grind),v3,?_⟩;show D6 γ' w (.nest c (i / q0.size) (i % q0.size)) (g c0) v;cases ho:(g c0).QK with
  | false=>exact .QN ho
  | true=>grind
 ·simp only[St.shr] at hq ⊢;split
  ·rfl
  ·rename_i hcb;rw[if_neg hcb] at hq;obtain⟨q0,hq0,_⟩:=zJ.1 hq;exact h.u c q0 hq0
def R8(b k:Nat):Nat->V->V
 | 0,_=>.undef
 | n+1,c=>match c with
  | .ref b' off len=>match b'==b with
   | true=>match Nat.ble k off with
    | true=>.ref b' (off - k) len
    | false=>.undef
   | false=>.ref b' off len
  | .ptr b' i o=>match b'==b with
   | true=>.undef
   | false=>.ptr b' i o
  | .mp b'=>match b'==b with
   | true=>.undef
   | false=>.mp b'
  | .fn f x y=>.fn f (x.map (R8 b k n)) (y.map (R8 b k n))
  | .agg l=>.agg (l.map (R8 b k n))
  | .Qc l=>.Qc (l.map (R8 b k n))
  | c=>c
theorem RK{γ γ':Gh}{w:World}{bs bs':zj}{u u':zl}{b k:Nat}{q q':Qd}(hb:bs b=some q)(hb':bs' b=some q')(hz:q'.size=q.size)(hl:q'.rows.length=q.rows.length - k)
  (hlim:γ'.Qr=γ.Qr) (hloc:∀B o,γ.loc b=some (B,o)->γ'.loc b=some (B,o+k * q.size))
  (hoth:∀c,c≠b->(bs c=none/\bs' c=none/\(u c=true->u' c=true))\/∃x x',bs c=some x/\bs' c=some x'/\x'.size=x.size/\x'.rows.length=x.rows.length/\γ'.loc c=γ.loc c) :
  ∀(n:Nat) (c:V) (v:Value),Qz γ w bs u c v->Qz γ' w bs' u' (R8 b k n c) v
 | 0,_,v,_=>.undef v
 | n+1,c,v,h=>by
  have ih:=RK (w:=w) (u:=u) (u':=u') hb hb' hz hl hlim hloc hoth n;have JN:∀{c:V},K9 γ.Qr w c v->Qz γ' w bs' u' c v:=λh=>.data (by grind);cases c with
  | ref b' off len=>
   simp only[R8];by_cases e:b'=b
   ·subst e;simp only[beq_self_eq_true];cases hk:Nat.ble k off with
    | false=>exact .undef v
    | true=>
     have hk':k<=off:=Nat.le_of_ble_eq_true hk;simp only;cases h with
     | data h=>cases h
     | ref _ _ _ B o cap x a1 a2 a3 a4 a5 a6 a7=>
      rw[hb] at a1;simp only[zG] at a1;subst a1;have e1:o+off * q.size=o+k * q.size+(off - k) * q'.size:=by
       rw[hz,Nat.add_assoc,<-wK,show k+(off - k)=off by omega]
      rw[e1];refine .ref b' (off - k) len B (o+k * q.size) cap q' hb' (hloc _ _ a2) (by rw[hl];omega) a4 ?_ (by grind) (by omega);grind
     | ZC _ _ B x a1 a6 a2=>
      rw[hb] at a1;simp only[zG] at a1;subst a1;exact .ZC b' (off - k) B q' hb' (by grind) (by omega)
     | ZY _ _ x a1 a6 a2=>
      rw[hb] at a1;simp only[zG] at a1;subst a1;exact .ZY b' (off - k) q' hb' (by grind) (by omega)
     | Qp _ _ _ _ a1 a2 a3=>grind
   ·have:(b'==b)=false:=by simpa using e
    rw[this];simp only;rcases hoth b' e with⟨n1,n2,n3⟩|⟨x,x',n1,n2,n3,n4,n5⟩
    ·cases h with
     | data h=>cases h
     | ref _ _ _ B o cap y a1=>grind
     | ZC _ _ B y a1=>grind
     | ZY _ _ y a1=>grind
     | Qp _ _ _ _ a1 a2 a3=>exact .Qp b' off len v n2 (n3 a2) a3
    ·cases h with
     | data h=>cases h
     | ref _ _ _ B o cap y a1 a2 a3 a4 a5 a6 a7=>
      rw[n1] at a1;simp only[zG] at a1;subst a1;rw[<-n3] at a5 ⊢;exact .ref b' off len B o cap x' n2 (by grind) (by grind) a4 a5 (by grind) (by omega)
     | ZC _ _ B y a1 a6 a2=>
      rw[n1] at a1;simp only[zG] at a1;subst a1;exact .ZC b' off B x' n2 (by grind) (by grind)
     | ZY _ _ y a1 a6 a2=>
      rw[n1] at a1;simp only[zG] at a1;subst a1;exact .ZY b' off x' n2 (by grind) (by grind)
     | Qp _ _ _ _ a1 a2 a3=>grind
  | ptr b' i o'=>
   simp only[R8];by_cases e:b'=b
   ·subst e;simp only[beq_self_eq_true];exact .undef v
   ·have:(b'==b)=false:=by simpa using e
    rw[this];simp only;rcases hoth b' e with⟨n1,n2,n3⟩|⟨x,x',n1,n2,n3,n4,n5⟩
    ·cases h with
     | data h=>cases h
     | ptr _ _ _ B o y a1=>grind
     | QH _ _ _ _ a1 a2 a3=>exact .QH b' i o' v n2 (n3 a2) a3
    ·cases h with
     | data h=>cases h
     | ptr _ _ _ B o y a1 a2 a3=>
      rw[n1] at a1;simp only[zG] at a1;subst a1;rw[<-n3];exact .ptr b' i o' B o x' n2 (by grind) (by grind)
     | QH _ _ _ _ a1 a2 a3=>grind
  | mp b'=>
   simp only[R8];by_cases e:b'=b
   ·subst e;simp only[beq_self_eq_true];exact .undef v
   ·have:(b'==b)=false:=by simpa using e
    rw[this];simp only;rcases hoth b' e with⟨n1,n2,n3⟩|⟨x,x',n1,n2,n3,n4,n5⟩
    ·cases h with
     | data h=>cases h
     | mp _ B y a1=>rw[n1] at a1;simp at a1
     | QX _ _ a1 a2 a3=>exact .QX b' v n2 (n3 a2) a3
    ·cases h with
     | data h=>cases h
     | mp _ B y a1 a2 a3=>
      rw[n1] at a1;simp only[zG] at a1;subst a1;exact .mp b' B x' n2 (by rw[n5];exact a2) (by rw[n3];exact a3)
     | QX _ _ a1 a2 a3=>rw[n1] at a1;simp at a1
  | fn f x y=>
   simp only[R8];obtain⟨fs,cs,hv,h1,h2,h3,h4⟩:=h.Hq;subst hv;refine .fn f _ _ fs cs (by simpa using h1) (by simpa using h2) (λi c v hc hv=>?_) (λi c v hc hv=>?_)
   ·rw[wm,zJ] at hc;obtain⟨c0,k1,rfl⟩:=hc;exact ih c0 v (h3 i c0 v k1 hv)
   ·rw[wm,zJ] at hc;obtain⟨c0,k1,rfl⟩:=hc;exact ih c0 v (h4 i c0 v k1 hv)
  | agg l=>
   simp only[R8];obtain⟨vs,rfl,h1,h2⟩:=h.QD;refine .agg _ vs (by simpa using h1) λi c v hc hv=>?_;rw[wm,zJ] at hc;obtain⟨c0,k1,rfl⟩:=hc;exact ih c0 v (h2 i c0 v k1 hv)
  | Qc l=>
   simp only[R8];obtain⟨vs,rfl,h1,h2⟩:=h.WI;refine .Qc _ vs (by simpa using h1) λi c v hc hv=>?_;rw[wm,zJ] at hc;obtain⟨c0,k1,rfl⟩:=hc;exact ih c0 v (h2 i c0 v k1 hv)
  | undef=>exact .undef v
  | _=>
   simp only[R8];cases h with
   | data h=>exact JN h
theorem IE{b k n:Nat}{c:V}(h:H3 c=true):R8 b k (n+1) c=c:=by
 cases c<;>simp[H3,R8] at h ⊢;grind
def St.cut(st:St)(b k:Nat)(q:Qd)(g:V->V):St where
 n:=st.n
 t:=λi=>g (st.t i)
 b:=λc=>if c=b then some { q with rows:=q.rows.drop k } else (st.b c).map λx=>{ x with rows:=x.rows.map (·.map g) }
 u:=st.u
theorem QU.cut{G:zi}{st:St}{b k n:Nat}{q:Qd}(hb:st.b b=some q)(hzq:q.size < J0)(hk:k<=q.rows.length)(hlow:b < 1000000)(hown:∀r,r∈q.rows->∀c,c∈r->H3 c=true/\c.QK=false){g:V->V}
  (hg:∀i,g (st.t i)=R8 b k n (st.t i)) (hgb:∀x p,x≠b->st.b x=some p->∀r,r∈p.rows->∀c,c∈r->(g c=R8 b k n c\/(g c=c/\H3 c=true))) (hgo:∀c,(g c).QK=true->g c=c):QU G st (st.cut b k q g):=λγ tmps w h=>by
 let γ':Gh:={ loc:=λc=>if c=b then (γ.loc b).map λp=>(p.1,p.2+k * q.size) else γ.loc c,own:=γ.own,Qr:=γ.Qr }
 have gr:Qe γ w γ' w:=⟨rfl,rfl,rfl,zQ _,λ_ _ _ _ h=>h,λ_ _=>zQ _,(by grind),(by grind)⟩
 have key:∀(n:Nat) (c:V) (v:Value),Qz γ w st.b st.u c v->Qz γ' w (st.cut b k q g).b (st.cut b k q g).u (R8 b k n c) v:=λn c v hr=>
  RK (γ:=γ) (γ':=γ') (w:=w) (u:=st.u) (u':=(st.cut b k q g).u) (q':={ q with rows:=q.rows.drop k }) hb (by simp[St.cut]) rfl (by simp) rfl (by grind) (λc hc=>by
   cases hs:st.b c with
   | none=>exact .inl ⟨rfl,by simp[St.cut,hc,hs],λh=>h⟩
   | some x=>exact .inr ⟨x,{ x with rows:=x.rows.map (·.map g) },rfl,by simp[St.cut,hc,hs],rfl,by simp,by simp[γ',hc]⟩) n c v hr
 have dkey:∀(c:V) (v:Value),H3 c=true->Qz γ w st.b st.u c v->Qz γ' w (st.cut b k q g).b (st.cut b k q g).u c v:=λc v hd hr=>by
  have:=key 1 c v hr;grind [IE]
 refine⟨γ',⟨h.n,λi=>?_,λc p hp=>?_,λc p hp=>?_,h.g.grow gr,h.o⟩,gr,λc hc=>?_⟩
 ·show Qz γ' w _ _ (g (st.t i)) _;rw[hg];exact key _ _ _ (h.t i)
 ·by_cases hcb:c=b
  ·subst hcb;have hp':p={ q with rows:=q.rows.drop k }:=by grind [St.cut]
   subst hp';rcases h.b c q hb with⟨z0,z1⟩|hm|⟨hM,B,o,cs,e,a1,a2,a3,a4,a5,a6,a7,a8⟩
   ·exact .inl (by grind)
   ·exact(hm.small hzq).elim
   have e5:k * q.size+(q.rows.length - k) * q.size=q.rows.length * q.size:=by rw[<-wK,show k+(q.rows.length - k)=q.rows.length by omega]
   refine .inr (.inr ⟨hM,B,o+k * q.size,cs,e,by simp[γ',a1],a2,a3,(by grind),?_,λi d hd=>?_,a7,?_⟩)
   ·grind
   ·have hfl:q.rows.flatten[k * q.size+i]?=some d:=by
     have e1:q.rows.flatten=(q.rows.take k).flatten++(q.rows.drop k).flatten:=by rw[<-List.flatten_append,List.take_append_drop]
     have e2:(q.rows.take k).flatten.length=k * q.size:=by
      rw[List.length_flatten];have:(q.rows.take k).map List.length=List.replicate k q.size:=by
       rw[List.eq_replicate_iff];grind
      rw[this];simp
     grind
    obtain⟨v,v1,v2,v3,v4⟩:=a6 _ d hfl;obtain⟨r,hr1,hr2⟩:=wU.1 (wd hfl);obtain⟨d1,d2⟩:=hown r hr1 d hr2;exact⟨v,by grind,dkey d v d1 v2,v3,.QN d2⟩
   grind
  ·have hp':(st.b c).map (λx=>({ x with rows:=x.rows.map (·.map g) }:Qd))=some p:=by grind [St.cut]
   obtain⟨x,hx,rfl⟩:=zJ.1 hp';rcases h.b c x hx with⟨z0,z1⟩|hm|⟨hM,B,o,cs,e,a1,a2,a3,a4,a5,a6,a7,a8⟩
   ·exact .inl ⟨by simp[γ',hcb,z0],by simp[z1]⟩
   ·refine .inr (.inl (hm.nV (by simp[γ',hcb]) (λB _ hB=>⟨hB,rfl⟩) rfl (by simp) (λr hr=>?_) λi d hd=>?_))
    ·obtain⟨r0,hr0,rfl⟩:=zP.1 hr;obtain⟨_,_,_,_,_,_,_,_,q5,_⟩:=hm;simpa using q5 r0 hr0
    ·have hfl:(x.rows.map (·.map g)).flatten=x.rows.flatten.map g:=by rw[List.map_flatten]
     simp only at hd;rw[hfl,wm,zJ] at hd;obtain⟨d0,k1,rfl⟩:=hd;obtain⟨r,hr1,hr2⟩:=wU.1 (wd k1);refine⟨d0,k1,λv v2=>?_⟩;rcases hgb c x hcb hx r hr1 d0 hr2 with e|⟨e,e'⟩
     ·rw[e];exact key _ _ _ v2
     ·rw[e];exact dkey _ _ e' v2
   refine .inr (.inr ⟨hM,B,o,cs,e,by simp[γ',hcb,a1],a2,a3,λr hr=>?_,by simpa using a5,λi d hd=>?_,a7,by simpa using a8⟩)
   ·obtain⟨r0,hr0,rfl⟩:=zP.1 hr;simpa using a4 r0 hr0
   ·have hfl:(x.rows.map (·.map g)).flatten=x.rows.flatten.map g:=by rw[List.map_flatten]
    simp only at hd;rw[hfl,wm,zJ] at hd;obtain⟨d0,k1,rfl⟩:=hd;obtain⟨v,v1,v2,v3,v4⟩:=a6 i d0 k1;obtain⟨r,hr1,hr2⟩:=wU.1 (wd k1);have hrep:Qz γ' w (st.cut b k q g).b (st.cut b k q g).u (g d0) v:=by
     rcases hgb c x hcb hx r hr1 d0 hr2 with e|⟨e,e'⟩
     ·rw[e];exact key _ _ _ v2
     ·rw[e];exact dkey _ _ e' v2
    refine⟨v,v1,hrep,v3,?_⟩;show D6 γ' w (.nest c (i / x.size) (i % x.size)) (g d0) v;cases ho:(g d0).QK with
    | false=>exact .QN ho
    | true=>rw[hgo d0 ho];exact v4
 ·by_cases hcb:c=b
  ·subst hcb;exact h.u c q hb
  ·have hp':(st.b c).map (λx=>({ x with rows:=x.rows.map (·.map g) }:Qd))=some p:=by simpa[St.cut,hcb] using hp
   obtain⟨x,hx,rfl⟩:=zJ.1 hp';exact h.u c x hx
 ·have hcb:c≠b:=λe=>by have:=Jg (b:=c) (by assumption);omega
  refine⟨λh=>h,λhu hn=>?_,λx hx=>⟨h.u c x hx,.inr ⟨{ x with rows:=x.rows.map (·.map g) },by simp[St.cut,hcb,hx],rfl,by simp,by simp[γ',hcb]⟩⟩⟩;simp[St.cut,hcb,hn]
structure Ty(α:Type) where
 c:α->List V
 d:α->List V
 cd:∀x,(c x).all H3=true
 dd:∀x,(d x).all H3=true
 vw:∀look x,M4 (λv=>O3 (D4 look 1 v)) (c x)=some (d x)
 st:∀x,(d x).map V.strip=d x
def J9(rows:List (List V)):Prop:=∀r,r∈rows->∀c,c∈r->H3 c=true
theorem Ty.data{α:Type}(t:Ty α)(l:List α):J9 (l.map t.c):=λr hr c hc=>by
 obtain⟨x,_,rfl⟩:=zP.1 hr;exact zN.1 (t.cd x) c hc
structure Spec(P:Program)(G:zi)(α:Type) where
 f:FuncId
 args:List V
 ins:List (Nat×Qd)
 o:Option α
 res:α->V
 outs:α->List (Nat×Qd)
 dt:List Nat
 JN:∀r p,p∈outs r->p.1∈dt->J9 p.2.rows
 ok:∀r,o=some r->QR P G f args (Qm ins) (res r) (Qm (outs r))
structure L0(P:Program)(G:zi)(α β:Type) where
 f:FuncId
 args:List V
 ins:List (Nat×Qd)
 o:Option (α⊕β)
 res:α->V
 outs:α->List (Nat×Qd)
 Hp:β->List PanicEntry
 Zj:β->List (Nat×Qd)
 dt:List Nat
 JN:∀r p,p∈outs r->p.1∈dt->J9 p.2.rows
 Qhr:∀r p,p∈Zj r->p.1∈dt->J9 p.2.rows
 ok:∀r,o=some (.inl r)->QR P G f args (Qm ins) (res r) (Qm (outs r))
 okp:∀r,o=some (.inr r)->EK P G f args (Qm ins) (Hp r) (Qm (Zj r))
structure Ext where
 ex:Exit
 ts:List (Nat×V)
 bs:List (Nat×Qd)
 dt:List Nat
 JN:∀p,p∈bs->p.1∈dt->J9 p.2.rows
def Ext.l(ex:Exit)(ts:List (Nat×V))(bs:List (Nat×Qd)):Ext:=⟨ex,ts,bs,[],λ_ _ h=>by simp at h⟩
structure BT where
 id:Nat
 k:Qd
 JN:J9 k.rows
def BT.of{α:Type}(id:Nat)(t:Ty α)(size:Nat)(l:List α)(Ql:Bool:=true):BT:=⟨id,⟨size,Ql,l.map t.c⟩,t.data l⟩
theorem GY(tb:List BT){p:Nat×Qd}(h:p∈tb.map λx=>(x.id,x.k)):J9 p.2.rows:=by
 obtain⟨x,_,rfl⟩:=zP.1 h;exact x.JN
def Ext.of(ex:Exit)(ts:List (Nat×V))(bs:List (Nat×Qd))(tb:List BT)(h:(bs.all λp=>!(tb.any λx=>x.id==p.1))=true):Ext:=
 ⟨ex,ts,bs++tb.map λx=>(x.id,x.k),tb.map (·.id),λp hp hd=>by
  grind [GY]⟩
structure Ji where
 a:List Wr
 b:List Wr
 h:a=b
 dt:List Nat
 JN:∀i k,Wr.b i (some k)∈b->i∈dt->J9 k.rows
structure Zb:Type 1 where
 b:Nat
 α:Type
 ty:Ty α
 rows:List (List V)
 n:Nat
 l:List α
 w:Bool
 h:rows.take n=l.map ty.c
 hw:w=true->n=rows.length
def Zb.o(b:Nat){α:Type}(ty:Ty α)(l:List α):Zb:=⟨b,α,ty,l.map ty.c,l.length,l,true,by grind [List.length_map,List.take_length],(by grind)⟩
def Zb.part(b:Nat){α:Type}(ty:Ty α)(l:List α)(n:Nat):Zb:=⟨b,α,ty,l.map ty.c,n,l.take n,false,List.map_take.symm,λh=>by simp at h⟩
def Quf(vs:List Zb):Bool:=vs.all λv=>v.w || (vs.filter λx=>x.b==v.b).length==1
inductive bG:Type 1 where
 | XC (d t size:Nat)
 | KQ (d b j size:Nat)
 | Qb (a b:Nat)
 | share (v:Zb) (n:Nat)
 | drop (bs:List Nat)
 | tell (b:Nat) (es:List (List V))
 | len (b m:Nat) (ns:List Nat) (h:∀n,n∈ns->n=m)
structure Qh(P:Program)(G:zi)(β:Type) where
 op:Op
 dst:Option Nat
 ZN:List (Operand×V)
 Zp:List (Nat×Qd)
 o:Option β
 ws:β->List Wr
 dt:List Nat
 JN:∀r i k,Wr.b i (some k)∈ws r->i∈dt->J9 k.rows
 ok:∀r,o=some r->∀(x:Oper) (st:St),x.op=op->x.dst=dst->(∀p,p∈ZN->iW G st p.1 p.2)->(∀p,p∈Zp->st.b p.1=some p.2)->
  (∀d,dst=some d->d < st.n/\st.u d=false)->I9 P G x st (st.app (ws r))
structure Sub(P:Program)(G:zi)(ε:Type) where
 c:Code
 n:Nat
 x:Ext
 o:Option ε
 E:ε->Ext
 ok:∀r,o=some r->TV P G c (D2 n x.ts x.bs (x.bs.map (·.1))) (λe s=>e=(E r).ex/\QU G s (D2 n (E r).ts (E r).bs ((E r).bs.map (·.1))))
inductive T(P:Program)(G:zi):Type->Type 1 where
 | done {ρ:Type} (r:ρ):T P G ρ
 | fail {ρ:Type}:T P G ρ
 | br {ρ:Type} (a:Nat) (c:Bool) (x y:T P G ρ):T P G ρ
 | tt {ρ:Type} (k:T P G ρ):T P G ρ
 | ff {ρ:Type} (k:T P G ρ):T P G ρ
 | Qa {ρ:Type} (a:Nat) (c:Bool) (k:T P G ρ):T P G ρ
 | re {ρ:Type} (a:Nat) (w:Ji) (k:T P G ρ):T P G ρ
 | row {ρ α:Type} (a:Nat) (ty:Ty α) (l:List α) (j:Nat) (c:Bool) (k:α->T P G ρ):T P G ρ
 | Zr {ρ α:Type} (a:Nat) (ty:Ty α) (l:List α) (hole:List V) (j:Nat) (k:T P G ρ):T P G ρ
 | Xr {ρ α:Type} (a b:Nat) (ty:Ty α) (l:List α) (n:Nat) (hs:∀y,ty.c y=ty.d y) (k:T P G ρ):T P G ρ
 | app {ρ α:Type} (a:Nat) (ty:Ty α) (l x:List α) (bytes:Nat) (fl:Bool) (h:fl=true->∀y,ty.c y=ty.d y) (k:T P G ρ):T P G ρ
 | call {ρ α:Type} (a:Nat) (s:Spec P G α) (Li Lo:List (Nat×Nat)) (k:α->T P G ρ):T P G ρ
 | call2 {ρ α β:Type} (a:Nat) (s:Spec P G (α⊕β)) (Li Lo:List (Nat×Nat)) (k:α->T P G ρ) (k2:β->T P G ρ):T P G ρ
 | view {ρ α:Type} (a:Nat) (s:Spec P G α) (vs:List Zb) (k:α->T P G ρ):T P G ρ
 | Qi {ρ α β:Type} (a:Nat) (s:L0 P G α β) (Li Lo:List (Nat×Nat)) (k:α->T P G ρ) (k2:β->T P G ρ):T P G ρ
 | Hp {ρ:Type} (a:Nat) (k:T P G ρ):T P G ρ
 | fact {ρ:Type} (p:Prop) (i:Decidable p) (k:p->T P G ρ):T P G ρ
 | Zz {ρ ε:Type} (id:Nat) (ts:List Nat) (first:T P G ε) (E:ε->List V) (k:ε->T P G ρ):T P G ρ
 | bind {ρ ε:Type} (j:Nat) (first:T P G ε) (E:ε->Ext) (k:ε->T P G ρ):T P G ρ
 | QC {ρ ε ζ:Type} (j:Nat) (first:T P G (ε⊕ζ)) (E:ε->Ext) (E2:ζ->Ext) (k:ε->T P G ρ) (k2:ζ->T P G ρ):T P G ρ
 | lp {σ ε:Type} (S:σ->Ext) (body:σ->T P G (σ⊕ε)) (x:σ):T P G ε
 | gh {ρ:Type} (a:Nat) (g:bG) (k:T P G ρ):T P G ρ
 | Qq {ρ β:Type} (a:Nat) (R:Qh P G β) (k:β->T P G ρ):T P G ρ
 | sub {ρ ε:Type} (S:Sub P G ε) (k:ε->T P G ρ):T P G ρ
 | EI {ρ ε ζ:Type} (S:Sub P G (ε⊕ζ)) (k:ε->T P G ρ) (k2:ζ->T P G ρ):T P G ρ
 | Ko {ρ:Type} (a:Nat) (n:Int) (vs:List Int) (k:Int->T P G ρ):T P G ρ
def I0{σ ε:Type}(f:σ->Option (σ⊕ε))(n:Nat):σ->Option ε:=
 Nat.rec (λ_=>none) (λ_ ih x=>match f x with
  | none=>none
  | some (.inl y)=>ih y
  | some (.inr e)=>some e) n
def Yv:Nat:=18446744073709551616
def T.run{P:Program}{G:zi}:{ρ:Type}->T P G ρ->Option ρ
 | _,.done r=>some r
 | _,.fail=>none
 | _,.br _ c x y=>bif c then x.run else y.run
 | _,.tt k=>k.run
 | _,.ff k=>k.run
 | _,.Qa _ c k=>bif c then k.run else none
 | _,.re _ _ k=>k.run
 | _,.row _ _ l j c k=>bif c then (match l[j]? with|some x=>(k x).run|none=>none) else none
 | _,.Zr _ _ l _ j k=>match l[j]? with|some _=>k.run|none=>none
 | _,.Xr _ _ _ l n _ k=>bif decide (n<=l.length) then k.run else none
 | _,.app _ _ l x bytes _ _ k=>bif decide ((l.length+x.length) * bytes<=140737488355328) then k.run else none
 | _,.call _ s _ _ k=>match s.o with|some r=>(k r).run|none=>none
 | _,.call2 _ s _ _ k k2=>match s.o with|some (.inl r)=>(k r).run|some (.inr r)=>(k2 r).run|none=>none
 | _,.view _ s _ k=>match s.o with|some r=>(k r).run|none=>none
 | _,.Qi _ s _ _ k k2=>match s.o with|some (.inl r)=>(k r).run|some (.inr r)=>(k2 r).run|none=>none
 | _,.Hp _ k=>k.run
 | _,.fact _ i k=>match i with|.isTrue h=>(k h).run|.isFalse _=>none
 | _,.Zz _ _ first _ k=>match first.run with|some e=>(k e).run|none=>none
 | _,.bind _ first _ k=>match first.run with|some e=>(k e).run|none=>none
 | _,.QC _ first _ _ k k2=>match first.run with|some (.inl e)=>(k e).run|some (.inr e)=>(k2 e).run|none=>none
 | _,.lp _ body x=>I0 (λy=>(body y).run) Yv x
 | _,.gh _ _ k=>k.run
 | _,.Qq _ R k=>match R.o with|some r=>(k r).run|none=>none
 | _,.sub S k=>match S.o with|some r=>(k r).run|none=>none
 | _,.EI S k k2=>match S.o with|some (.inl r)=>(k r).run|some (.inr r)=>(k2 r).run|none=>none
 | _,.Ko _ n vs k=>bif vs.contains n then (k n).run else none
inductive C:Type 1 where
 | stuck (why:Nat)
 | fail
 | fin (v:Option V) (e:Option Exit) (ts:List (Nat×V)) (bs:List (Nat×Option Qd))
 | Qjm (ts:List V)
 | br (c:Bool) (x y:C)
 | Qa (c:Bool) (k:C)
 | re (w:List Wr) (k:C)
 | row {α:Type} (rows:List (List V)) (j:Nat) (c:Bool) (k:α->C)
 | Zr (rows:List (List V)) (j:Nat) (k:C)
 | app (rows:List (List V)) (len:Nat) (ZS:List (List V)) (bytes:Nat) (fl:Bool) (k:C)
 | call {α:Type} (f:FuncId) (args:List V) (ins:List (Nat×Qd)) (k:α->C)
 | call2 {α β:Type} (f:FuncId) (args:List V) (ins:List (Nat×Qd)) (k:α->C) (k2:β->C)
 | view {α:Type} (f:FuncId) (args:List V) (eqs:List (Nat×List (List V)×Nat)) (k:α->C)
 | bind {ε:Type} (x:C) (k:ε->C)
 | QC {ε ζ:Type} (x:C) (k:ε->C) (k2:ζ->C)
 | loop {σ:Type} (ts:List (Nat×V)) (bs:List (Nat×Option Qd)) (body:σ->C)
 | gh (eqs:List (Nat×List (List V)×Nat)) (k:C)
 | fact (p:Prop) (k:p->C)
 | sub {ε:Type} (c:Code) (n:Nat) (ts:List (Nat×V)) (bs:List (Nat×Option Qd)) (k:ε->C)
 | EI {ε ζ:Type} (c:Code) (n:Nat) (ts:List (Nat×V)) (bs:List (Nat×Option Qd)) (k:ε->C) (k2:ζ->C)
 | Qqw {β:Type} (op:Op) (dst:Option Nat) (ZN:List (Option V)) (Zp:List (Option Qd)) (k:β->C)
inductive YE:Type->Type 1 where
 | fn {ρ:Type} (rs:List ResultVar) (res:ρ->V) (outs:ρ->List (Nat×Qd)):YE ρ
 | FB {ρ:Type} (E:ρ->Ext):YE ρ
 | reg {ρ:Type} (ts:List Nat) (E:ρ->List V):YE ρ
 | qI {σ ε:Type} (S:σ->Ext) (E:ε->Ext):YE (σ⊕ε)
 | rE {α β:Type} (rs:List ResultVar) (res:α->V) (outs:α->List (Nat×Qd)) (ex:β->Exit) (Zj:β->List (Nat×Qd)):YE (α⊕β)
def Ym(f:V->V->V):List V->List V->List V
 | e :: es,c :: cs=>f e c :: Ym f es cs
 | _,cs=>cs
def X5:Nat->V->V->V
 | 0,_,c=>c
 | n+1,e,c=>match c with
  | .Qu=>match e with
   | .sl o z _=>.sl o z []
   | _=>.Qu
  | .sl o z r=>match e with
   | .sl false _ _=>.sl false z r
   | _=>.sl o z r
  | .agg cs=>match e with
   | .agg es=>.agg (Ym (X5 n) es cs)
   | _=>.agg cs
  | .Qc cs=>match e with
   | .Qc es=>.Qc (Ym (X5 n) es cs)
   | _=>.Qc cs
  | c=>c
def Wt(e:Exit)(x:Ext):C:=.fin none (some e) x.ts (x.bs.map λp=>(p.1,some p.2))
def Zb.rF(v:Zb):Nat×List (List V)×Nat:=(v.b,v.rows,v.n)
def bG.eqs:bG->List (Nat×List (List V)×Nat)
 | .share v n=>List.replicate (n+1) v.rF
 | .len b _ ns _=>ns.map λn=>(b,[],n)
 | _=>[]
def T.expect{P:Program}{G:zi}:{ρ:Type}->YE ρ->T P G ρ->C
 | _,F,.done r=>match F with
  | .fn _ res outs=>.fin (some (res r)) none [] ((outs r).map λp=>(p.1,some p.2))
  | .FB E=>Wt (E r).ex (E r)
  | .reg _ E=>.Qjm (E r)
  | .qI S E=>match r with
   | .inl y=>Wt (S y).ex (S y)
   | .inr e=>Wt (E e).ex (E e)
  | .rE _ res outs ex Zj=>match r with
   | .inl r=>.fin (some (res r)) none [] ((outs r).map λp=>(p.1,some p.2))
   | .inr z=>.fin none (some (ex z)) [] ((Zj z).map λp=>(p.1,some p.2))
 | _,_,.fail=>.fail
 | _,F,.br _ c x y=>.br c (x.expect F) (y.expect F)
 | _,F,.tt k=>k.expect F
 | _,F,.ff k=>k.expect F
 | _,F,.Qa _ c k=>.Qa c (k.expect F)
 | _,F,.re _ w k=>.re w.a (k.expect F)
 | _,F,.row _ ty l j c k=>.row (l.map ty.c) j c λx=>(k x).expect F
 | _,F,.Zr _ ty l hole j k=>.Zr ((l.map ty.c).set j hole) j (k.expect F)
 | _,F,.Xr _ _ ty l n _ k=>.Zr (l.map ty.c) n (k.expect F)
 | _,F,.app _ ty l x bytes fl _ k=>.app (l.map ty.c) l.length (x.map ty.c) bytes fl (k.expect F)
 | _,F,.call _ s _ _ k=>.call s.f s.args s.ins λr=>(k r).expect F
 | _,F,.call2 _ s _ _ k k2=>.call2 s.f s.args s.ins (λr=>(k r).expect F) λr=>(k2 r).expect F
 | _,F,.Qi _ s _ _ k k2=>.call2 s.f s.args s.ins (λr=>(k r).expect F) λr=>(k2 r).expect F
 | _,F,.Hp _ k=>k.expect F
 | _,F,.fact p _ k=>.fact p λh=>(k h).expect F
 | _,F,.view _ s vs k=>.view s.f s.args (vs.map Zb.rF) λr=>(k r).expect F
 | _,F,.Zz _ ts first E k=>.bind (first.expect (.reg ts E)) λe=>(k e).expect F
 | _,F,.bind _ first E k=>.bind (first.expect (.FB E)) λe=>(k e).expect F
 | _,F,.QC _ first E E2 k k2=>.QC (first.expect (.FB (Sum.elim E E2))) (λe=>(k e).expect F) λe=>(k2 e).expect F
 | _,F,.lp S body x=>match F with
  | .FB E=>.loop (S x).ts ((S x).bs.map λp=>(p.1,some p.2)) λy=>(body y).expect (.qI S E)
  | _=>.fail
 | _,F,.gh _ g k=>.gh g.eqs (k.expect F)
 | _,F,.Qq _ R k=>.Qqw R.op R.dst (R.ZN.map λp=>some p.2) (R.Zp.map λp=>some p.2) λr=>(k r).expect F
 | _,F,.sub S k=>.sub S.c S.n S.x.ts (S.x.bs.map λp=>(p.1,some p.2)) λr=>(k r).expect F
 | _,F,.EI S k k2=>.EI S.c S.n S.x.ts (S.x.bs.map λp=>(p.1,some p.2)) (λr=>(k r).expect F) λr=>(k2 r).expect F
 | _,F,.Ko _ n vs k=>vs.foldr (λv r=>.br (n==v) ((k v).expect F) r) .fail
end Go.EV
