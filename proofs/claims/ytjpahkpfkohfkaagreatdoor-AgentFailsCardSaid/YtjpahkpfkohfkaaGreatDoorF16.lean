/- wakes' Wire and Unwire, call by call, by the kernel ..; no conditions. -/
import Derived.Test.YtjpahkpfkohfkaaGreatDoorF11
import Derived.Test.YtjpahkpfkohfkaaGreatDoorF15
import Derived.KernelRfl
set_option linter.unusedVariables false
set_option linter.unusedSimpArgs false
set_option maxRecDepth 1000000
namespace Go.Proofs.YtjpahkpfkohfkaaGreatDoor
open Go Go.EV
def wkP:U7:=U7.mk 1 0 1845494271 true 9 false (Z7.mk (bs []) 0)
def wkM:ByteArray:=(bs [0,1,0,56,33,18,164,66,0,0,0,0,0,0,0,0,0,0,0,0,0,36,0,4,110,0,1,255,128,42,0,8,0,0,0,0,0,0,0,9,0,8,0,32,3,241,6,9,170,194,150,172,26,253,1,9,167,239,25,160,205,100,35,212,165,217,214,206,72,228,248,205,60,59,51,62])
def wk1:ByteArray:=(bs [3,241,6,9,170,194,150,172,26,253,1,9,167,239,25,160,205,100,35,212,165,217,214,206,72,228,248,205,60,59,51,62])
def wk2:ByteArray:=(bs [57,179,3,3,65,179,76,231,117,201,141,94,197,38,85,58,85,198,131,145,138,210,205,44,67,103,215,22,25,181,35,30])
def wkB:ByteArray:=(bs [0,1,0,56,33,18,164,66,0,0,0,0,0,0,0,0,0,0,0,0,0,36,0,4,110,0,1,255,128,42,0,8,0,0,0,0,0,0,0,9])
def wkI:ByteArray:=bs [0,0,0,0,0,0,0,0,0,0,0,0]
def wkA:List Q9:=[Q9.mk 36 (bs [110,0,1,255]),Q9.mk 32810 (bs [0,0,0,0,0,0,0,9])]
def wkS:E9:=E9.mk 0 1 wkI wkA
def wkT:E9:=E9.mk 0 1 wkI [Q9.mk 36 (bs [110,0,1,255]),Q9.mk 32810 (bs [0,0,0,0,0,0,0,9]),Q9.mk 8 wk1]
def wkK:ByteArray:=(bs [107,101,121])
def wkO:ByteArray:=(bs [111,116,104,101,114])
def eqN:List UInt8→List Nat→Bool
 | [],[]=>true
 | a :: l,n :: k=>Nat.beq a.toNat n&&eqN l k
 | _,_=>false
def eqM(r:Option ByteArray)(k:List Nat):Bool:=match r with
 | some s=>eqN s.data.toList k
 | none=>false
theorem eqN_eq:∀(l:List UInt8) (k:List Nat),eqN l k=true→l=k.map UInt8.ofNat
 | [],[],_=>rfl
 | [],_ :: _,h=>by cases h
 | _ :: _,[],h=>by cases h
 | a :: l,n :: k,h=>by
  unfold eqN at h
  rw[ζA] at h
  have e:a.toNat=n:=Nat.eq_of_beq_eq_true h.1
  rw[ξf,←eqN_eq l k h.2,←e,UInt8.ofNat_toNat]
theorem eqM_eq{r:Option ByteArray}{k:List Nat}(h:eqM r k=true):r=some ⟨⟨k.map UInt8.ofNat⟩⟩:=by
 unfold eqM at h
 split at h
 ·rename_i s
  have:=eqN_eq _ _ h
  obtain⟨⟨l⟩⟩:=s
  have e:l=k.map UInt8.ofNat:=this
  rw[e]
 ·cases h
theorem w1e:eqM (s237 1779033703 3144134277 1013904242 2773480762 1359893119 2600822924 528734635 1541459225 wkK [wkB]).o [3,241,6,9,170,194,150,172,26,253,1,9,167,239,25,160,205,100,35,212,165,217,214,206,72,228,248,205,60,59,51,62]=true:=by kernel_rfl
theorem w2e:eqM (s237 1779033703 3144134277 1013904242 2773480762 1359893119 2600822924 528734635 1541459225 wkO [wkB]).o [57,179,3,3,65,179,76,231,117,201,141,94,197,38,85,58,85,198,131,145,138,210,205,44,67,103,215,22,25,181,35,30]=true:=by kernel_rfl
theorem wmac{k m:ByteArray}(hl:(s235 [k,wkB]).o=some false)(h:(s237 1779033703 3144134277 1013904242 2773480762 1359893119 2600822924 528734635 1541459225 k [wkB]).o=some m):(s197 k wkB).o=some (m,0):=by
 refine SOk.eq ?_
 unfold s197
 refine SOk.d ?_
 unfold g197
 refine Ok.v (SOk.o hl) fun r e=>Ok.f e (Ok.c (SOk.o made_eq) fun r e=>?_)
 subst e
 refine Ok.v (SOk.o h) fun r e=>Ok.d ?_
 subst e;rfl
theorem w1:(s197 wkK wkB).o=some (wk1,0):=wmac (by kernel_rfl) ((eqM_eq w1e).trans rfl)
theorem w2:(s197 wkO wkB).o=some (wk2,0):=wmac (by kernel_rfl) ((eqM_eq w2e).trans rfl)
theorem w3:(s126 wkS wkA 36).o=some wkB:=by kernel_rfl
theorem w4:(s126 wkT wkA 36).o=some wkB:=by kernel_rfl
theorem w5:(s118 wkS).o=some 0:=by kernel_rfl
theorem w6:(s119 wkS 8).o=some false:=by kernel_rfl
theorem w7:(s119 wkS 32808).o=some false:=by kernel_rfl
theorem w8:(s120 wkS (Q9.mk 8 wk1)).o=some (wkT,0):=by kernel_rfl
theorem w9:(s48 wkP).o=some true:=by kernel_rfl
theorem w10:(s58 wkP).o=some wkS:=by kernel_rfl
theorem w11:(s59 wkT).o=some (wkM,0):=by kernel_rfl
theorem w12:(s60_3 wkM).o=some (wkT,0):=by kernel_rfl
theorem w13:(s62 wkT).o=some wkP:=by kernel_rfl
theorem w14:(s118 wkT).o=some 0:=by kernel_rfl
theorem w15:(s119 wkT 8).o=some true:=by kernel_rfl
theorem w16:(s133_1 wkT.fW).o=some 2:=by kernel_rfl
theorem y1:SOk (s121 wkS wkA wkK) (fun r=>r=wk1):=by
 unfold s121
 refine SOk.d ?_
 unfold g121
 exact Ok.c (SOk.o w3) fun r h=>by subst h;exact Ok.c (SOk.o w1) fun r h=>by subst h;exact Ok.d rfl
theorem y2{k m:ByteArray}(hw:(s197 k wkB).o=some (m,0)):SOk (s121 wkT wkA k) (fun r=>r=m):=by
 unfold s121
 refine SOk.d ?_
 unfold g121
 exact Ok.c (SOk.o w4) fun r h=>by subst h;exact Ok.c (SOk.o hw) fun r h=>by subst h;exact Ok.d rfl
theorem y57:SOk (s57 wkS wkK) (fun r=>r=(wkT,0)):=by
 unfold s57
 refine SOk.d ?_
 unfold g57
 refine Ok.c (SOk.o w5) fun r h=>?_
 subst h
 refine Ok.f rfl (Ok.f rfl (Ok.n (R:=fun c=>c=false) (Ok.c (SOk.o w6) fun r h=>by subst h;exact Ok.f rfl (Ok.c (SOk.o w7) fun r h=>by subst h;exact Ok.d rfl)) fun c hc=>Ok.f hc (Ok.c (s:=s121 wkS wkA wkK) y1 fun r h=>?_)))
 subst h
 refine Ok.c (SOk.o w8) fun r h=>?_
 subst h
 exact Ok.d rfl
theorem y19:SOk (s19 wkP wkK) (fun r=>r=(wkM,0)):=by
 unfold s19
 refine SOk.d ?_
 unfold g19
 refine Ok.c (SOk.o w9) fun r h=>?_
 subst h
 refine Ok.f rfl (Ok.c (SOk.o w10) fun r h=>?_)
 subst h
 refine Ok.c y57 fun r h=>?_
 subst h
 refine Ok.f rfl (Ok.c (SOk.o w11) fun r h=>?_)
 subst h
 exact Ok.d rfl
theorem y61{k m:ByteArray}{e:Int}(hk:k.size=3∨k.size=5)(hw:(s197 k wkB).o=some (m,0))(he:(wk1=m∧e=0)∨(wk1≠m∧e=9)):SOk (s61 wkT k) (fun r=>r=e):=by
 unfold s61
 refine SOk.d ?_
 unfold g61
 refine Ok.c (SOk.o w14) fun r h=>?_
 subst h
 refine Ok.f rfl (Ok.f (ξs (by omega)) (Ok.c (SOk.o w15) fun r h=>?_))
 subst h
 refine Ok.f rfl (Ok.c (SOk.o w16) fun r h=>?_)
 subst h
 refine Ok.r (x:=Q9.mk 8 wk1) rfl rfl (Ok.k (by rw[mlenn_eq];rfl) (Ok.re (Ok.c (s:=s121 wkT wkA k) (y2 hw) fun r h=>?_)))
 subst h
 rcases he with⟨h1,rfl⟩|⟨h1,rfl⟩
 ·exact Ok.f (by rw[h1];simp) (Ok.d rfl)
 ·exact Ok.t (by simp[h1]) (Ok.d rfl)
theorem wne:wk1≠wk2:=fun e=>by
 have:=congrArg (fun s=>s.data[0]?) e
 revert this;decide
theorem y20:SOk (s20 wkM wkK) (fun r=>r=(wkP,0)):=by
 unfold s20
 refine SOk.d ?_
 unfold g20
 refine Ok.c (SOk.o w12) fun r h=>?_
 subst h
 refine Ok.b (R:=fun e=>e=0) (Ok.t rfl (Ok.c (y61 (e:=0) (.inl rfl) w1 (.inl ⟨rfl,rfl⟩)) fun r h=>Ok.d h)) fun e he=>?_
 subst he
 refine Ok.f rfl (Ok.c (SOk.o w13) fun r h=>?_)
 subst h
 refine Ok.c y19 fun r h=>?_
 subst h
 exact Ok.n (R:=fun c=>c=false) (Ok.f rfl (Ok.d (by simp))) fun c hc=>Ok.f hc (Ok.d rfl)
theorem y20o:SOk (s20 wkM wkO) (fun r=>r.2=9):=by
 unfold s20
 refine SOk.d ?_
 unfold g20
 refine Ok.c (SOk.o w12) fun r h=>?_
 subst h
 refine Ok.b (R:=fun e=>e=9) (Ok.t rfl (Ok.c (y61 (e:=9) (.inr rfl) w2 (.inr ⟨wne,rfl⟩)) fun r h=>Ok.d h)) fun e he=>?_
 subst he
 exact Ok.t rfl (Ok.d rfl)
end Go.Proofs.YtjpahkpfkohfkaaGreatDoor
