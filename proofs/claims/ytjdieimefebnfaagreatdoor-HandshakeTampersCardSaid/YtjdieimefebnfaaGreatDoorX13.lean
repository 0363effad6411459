/- Part X13. -/
import Derived.Test.YtjdieimefebnfaaGreatDoorX12
set_option linter.all false
set_option maxRecDepth 1000000
set_option maxHeartbeats 4000000
namespace Go.Proofs.YtjdieimefebnfaaGreatDoor
open Go Go.EV
def runN{σ ε:Type}(f:σ->Option (σ⊕ε))(n:Nat):σ->Option (σ⊕ε):=
 Nat.rec (λx=>some (.inl x)) (λ_ ih x=>match f x with
  | none=>none
  | some (.inl y)=>ih y
  | some (.inr e)=>some (.inr e)) n
theorem De{σ ε:Type}{f:σ->Option (σ⊕ε)}{m:Nat}{y:σ}{e:ε}(h2:I0 f m y=some e):∀{n:Nat} {x:σ},runN f n x=some (.inl y)->I0 f (m+n) x=some e
 | 0,x,h=>by cases h;exact h2
 | n+1,x,h=>by
  have e1:I0 f (m+n+1) x=(match f x with|none=>none|some (.inl y)=>I0 f (m+n) y|some (.inr e)=>some e):=rfl;have e2:runN f (n+1) x=(match f x with|none=>none|some (.inl y)=>runN f n y|some (.inr e)=>some (.inr e)):=rfl;show I0 f (m+n+1) x=some e;rw[e1];rw[e2] at h;cases hf:f x with
  | none=>rw[hf] at h;cases h
  | some r=>
   cases r with
   | inl z=>rw[hf] at h;exact De h2 h
   | inr z=>rw[hf] at h;cases h
theorem Ri{σ ε:Type}{f:σ->Option (σ⊕ε)}{m:Nat}{x:σ}{e:ε}:∀{n:Nat} {x:σ},runN f n x=some (.inr e)->I0 f (m+n) x=some e
 | 0,x,h=>by cases h
 | n+1,x,h=>by
  have e1:I0 f (m+n+1) x=(match f x with|none=>none|some (.inl y)=>I0 f (m+n) y|some (.inr e)=>some e):=rfl;have e2:runN f (n+1) x=(match f x with|none=>none|some (.inl y)=>runN f n y|some (.inr e)=>some (.inr e)):=rfl;show I0 f (m+n+1) x=some e;rw[e1];rw[e2] at h;cases hf:f x with
  | none=>rw[hf] at h;cases h
  | some r=>
   cases r with
   | inl z=>rw[hf] at h;exact Ri (x:=x) h
   | inr z=>rw[hf] at h;cases h;rfl
theorem Ok.nX{P:Program}{G:zi}{σ ε:Type}{S:σ->Ext}{body:σ->T P G (σ⊕ε)}{x y1 y2:σ}{e:ε}{R:ε->Prop}{m n1 n2 n3:Nat}(hm:m+n3+n2+n1=Yv)
  (h1:runN (λy=>(body y).run) n1 x=some (.inl y1)) (h2:runN (λy=>(body y).run) n2 y1=some (.inl y2)) (h3:runN (λy=>(body y).run) n3 y2=some (.inr e)) (he:R e):Ok (.lp S body x) R:=by
 have h:I0 (λy=>(body y).run) Yv x=some e:=by
  rw[<-hm];exact De (De (Ri (x:=x) h3) h2) h1
 exact⟨e,h,he⟩
theorem xA:Qy Qhz (λr=>r=(1779033703,3144134277,1013904242,2773480762,1359893119,2600822924,528734635,1541459225)):=by
 refine Qy.fn (hm:=Z1) (hf:=Tryz.func207) (k:=Qwx) ?_;unfold Qko;refine Ok.o (r:=()) rfl (Ok.b (R:=λe=>e=(J2,1779033703,3144134277,1013904242,2773480762,1359893119,2600822924,528734635,1541459225)) ?_ λe he=>?_)
 ·exact Ok.nX (m:=18446744073709551301) (n1:=100) (n2:=100) (n3:=115) (y1:=(1779033703,3144134277,1013904242,2773480762,1359893119,2600822924,528734635,1541459225,[1116352408,1899447441,3049323471,3921009573,961987163,1508970993,2453635748,2870763221,3624381080,310598401,607225278,1426881987,1925078388,2162078206,2614888103,3248222580,3835390401,4022224774,264347078,604807628,770255983,1249150122,1555081692,1996064986,2554220882,2821834349,0,0,0,0,0,0,0,0,0,0,0,0,0,0,0,0,0,0,0,0,0,0,0,0,0,0,0,0,0,0,0,0,0,0,0,0,0,0],102,26)) (y2:=(1779033703,3144134277,1013904242,2773480762,1359893119,2600822924,528734635,1541459225,[1116352408,1899447441,3049323471,3921009573,961987163,1508970993,2453635748,2870763221,3624381080,310598401,607225278,1426881987,1925078388,2162078206,2614888103,3248222580,3835390401,4022224774,264347078,604807628,770255983,1249150122,1555081692,1996064986,2554220882,2821834349,2952996808,3210313671,3336571891,3584528711,113926993,338241895,666307205,773529912,1294757372,1396182291,1695183700,1986661051,2177026350,2456956037,2730485921,2820302411,3259730800,3345764771,3516065817,3600352804,0,0,0,0,0,0,0,0,0,0,0,0,0,0,0,0,0,0],202,46)) (by decide) (by as_aux_lemma=>kernel_rfl) (by as_aux_lemma=>kernel_rfl) (by as_aux_lemma=>kernel_rfl) rfl
 ·subst he;exact Ok.fact rfl (Ok.o (r:=()) rfl (Ok.o (r:=()) rfl (Ok.d rfl)))
theorem FC:lY.o=some (1779033703,3144134277,1013904242,2773480762,1359893119,2600822924,528734635,1541459225):=by
 refine Qy.eq ?_;refine Qy.fn (hm:=Z1) (hf:=Tryz.func154) (k:=Qwa) ?_;unfold Qmu;refine Ok.c xA λr hr=>?_;subst hr;exact Ok.o (r:=()) rfl (Ok.o (r:=()) rfl (Ok.o (r:=()) rfl (Ok.d rfl)))
end Go.Proofs.YtjdieimefebnfaaGreatDoor
