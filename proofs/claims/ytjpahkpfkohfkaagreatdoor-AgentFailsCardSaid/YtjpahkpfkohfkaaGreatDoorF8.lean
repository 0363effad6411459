/- Helps for the plain laws: loops over indices, maps that are sets. Guides and contracts, printed by a program. Guides and contracts, printed by a prog ..; no conditions. -/
import Derived.Test.YtjpahkpfkohfkaaGreatDoorF5
import Derived.Test.YtjpahkpfkohfkaaGreatDoorF6
import Derived.Test.YtjpahkpfkohfkaaGreatDoorProg
import Derived.Test.YtjpahkpfkohfkaaGreatDoorF7
import Derived.KernelRfl
import Derived.Shelf.Strconv.Clone
import Derived.Lib.Builder
import Derived.Lib.AppendStr
import Derived.Lib.UnsafeStr
import Derived.Lib.Walk
import Derived.Lib.Slices
import Derived.Lib.Strings
import Derived.Shelf.RegionOpenPlain
import Derived.WalkKit
import Derived.BigCall
set_option linter.unusedVariables false
set_option linter.unusedSimpArgs false
set_option maxRecDepth 100000
noncomputable section
abbrev Prod.q{A B C D E:Type}(x:A×B×C×D×E):E:=x.2.2.2.2
theorem And.q{a b c d e:Prop}(h:a∧b∧c∧d∧e):e:=h.2.2.2.2
namespace Go.Proofs.YtjpahkpfkohfkaaGreatDoor
open Go Go.EV
theorem Z6{n:Int}(h1:-9223372036854775808≤n)(h2:n≤9223372036854775807):Q4 n=n:=by
 unfold Q4 IntKind.wrap
 simp[IntKind.signed,IntKind.bits]
 omega
theorem M1{n:Nat}(h:n≤140737488355329):n < FUEL:=by unfold FUEL;omega
theorem at_of{α:Type}{l:List α}{i:Int}(h0:0≤i)(h:i < (l.length:Int)):∃y,l[i.toNat]?=some y:=
 ⟨l[i.toNat]'(by omega),ζd (by omega)⟩
theorem mem_take_iff{α:Type}{l:List α}{i:Nat}{x:α}:x∈l.take i↔∃j,j < i∧l[j]?=some x:=by
 constructor
 ·intro h
  obtain⟨j,hj⟩:=ζh.1 h
  rw[ζx] at hj
  split at hj
  ·rename_i hlt;exact⟨j,hlt,hj⟩
  ·simp at hj
 ·rintro⟨j,hj,hx⟩
  exact ζh.2 ⟨j,by rw[ζx,if_pos hj];exact hx⟩
theorem Ok.s{P:Program}{G:Nat→Option (List V)}{σ ε:Type}{S:σ→Ext}{body:σ→T P G (σ⊕ε)}{x0:σ}{R:ε→Prop}(n:Nat)(hn:n≤1000000)(I:Nat→σ→Prop)(h0:I 0 x0)
  (step:∀k y,I k y→k < n→Ok (body y) (Sum.elim (I (k+1)) R)) (last:∀y,I n y→Ok (body y) (Sum.elim (fun _=>False) R)):Ok (.lp S body x0) R:=by
 have key:∀m k y,I k y→k≤n→n - k < m→∃e,I8 (fun y=>(body y).run) m y=some e∧R e:=by
  intro m
  induction m with
  | zero=>intro k y _ _ h;omega
  | succ m ih=>
   intro k y hy hk hm
   have e1:I8 (fun y=>(body y).run) (m+1) y=(match (body y).run with|none=>none|some (.inl y)=>I8 (fun y=>(body y).run) m y|some (.inr e)=>some e):=rfl
   rw[e1]
   rcases ζN k n with h|h
   ·obtain⟨r,hr,hq⟩:=step k y hy h
    rw[hr]
    cases r with
    | inl z=>exact ih (k+1) z hq (by omega) (by omega)
    | inr e=>exact⟨e,rfl,hq⟩
   ·have:k=n:=by omega
    subst this
    obtain⟨r,hr,hq⟩:=last y hy
    rw[hr]
    cases r with
    | inl z=>exact hq.elim
    | inr e=>exact⟨e,rfl,hq⟩
 exact key FUEL 0 x0 h0 (Nat.zero_le _) (M1 (by omega))
theorem J9{k n:Nat}(h:k < n)(hn:n≤1000000):Q4 ((k:Int)+1)=((k+1:Nat):Int):=by
 rw[Z6 (by omega) (by omega)];omega
theorem A6{α:Type}{l:List α}{k:Nat}(h:k < l.length):∃x,l[((k:Int)).toNat]?=some x∧l[k]?=some x:=⟨l[k],by rw[ζz];exact ζd h,ζd h⟩
theorem upto2{α:Type}{l:List α}{p:α→Prop}{k:Nat}{x:α}(h:∀j y,j < k→l[j]?=some y→p y)(hx:l[k]?=some x)(hp:p x):∀j y,j < k+1→l[j]?=some y→p y:=fun j y hj hy=>by
 rcases ζN j k with h1|h1
 ·exact h j y h1 hy
 ·have:j=k:=by omega
  subst this
  rw[hx] at hy
  exact ζR hy▸hp
theorem mlook_set{α:Type}{l:List α}{p:α→Bool}{fv:α→Bool}(hv:∀e,e∈l→fv e=true):K8 l p fv false=true↔∃e,e∈l∧p e=true:=by
 unfold K8
 cases h:l.findIdx? p with
 | none=>
  rw[List.findIdx?_eq_none_iff] at h
  simp only[Bool.false_eq_true,false_iff]
  rintro⟨e,h1,h2⟩
  rw[h e h1] at h2;simp at h2
 | some j=>
  obtain⟨h1,h2,_⟩:=List.findIdx?_eq_some_iff_getElem.1 h
  simp only[ζd h1]
  exact⟨fun _=>⟨l[j],List.getElem_mem h1,h2⟩,fun _=>hv _ (List.getElem_mem h1)⟩
theorem mput_mem{α:Type}{l:List α}{p:α→Bool}{y e:α}:e∈mput l p y→e=y∨e∈l:=by
 unfold mput
 split
 ·intro h
  rcases ξc h with h|h
  ·exact .inr h
  ·exact .inl h
 ·intro h
  rcases ζr.1 h with h|h
  ·exact .inr h
  ·exact .inl (by simpa using h)
theorem mput_keys{α κ:Type}{l:List α}{fk:α→κ}{p:α→Bool}{y:α}{x:κ}(hp:∀e,p e=true↔x=fk e)(hy:fk y=x)(z:κ):(∃e,e∈mput l p y∧fk e=z)↔(∃e,e∈l∧fk e=z)∨z=x:=by
 constructor
 ·rintro⟨e,h1,h2⟩
  rcases mput_mem h1 with rfl|h1
  ·exact .inr (h2.symm.trans hy)
  ·exact .inl ⟨e,h1,h2⟩
 ·unfold mput
  cases h:l.findIdx? p with
  | none=>
   rintro(⟨e,h1,h2⟩|rfl)
   ·exact⟨e,by simp[h1],h2⟩
   ·exact⟨y,by simp,hy⟩
  | some j=>
   obtain⟨h1,h2,_⟩:=List.findIdx?_eq_some_iff_getElem.1 h
   have hyin:y∈l.set j y:=ζh.2 ⟨j,ζj h1⟩
   rintro(⟨e,k1,k2⟩|rfl)
   ·obtain⟨i,hi⟩:=ζh.1 k1
    by_cases hij:i=j
    ·subst hij
     rw[ζd h1] at hi
     obtain rfl:=ζR hi
     exact⟨y,hyin,by rw[hy,←k2];exact(hp _).1 h2⟩
    ·exact⟨e,ζh.2 ⟨i,by rw[ζk (Ne.symm hij)];exact hi⟩,k2⟩
   ·exact⟨y,hyin,hy⟩
def R0{α κ:Type}(fk:α→κ)(fv:α→Bool)(l:List α)(ks:List κ):Prop:=(∀e,e∈l→fv e=true)∧∀z,(∃e,e∈l∧fk e=z)↔z∈ks
theorem R0.look{α κ:Type}{fk:α→κ}{fv:α→Bool}{l:List α}{ks:List κ}(h:R0 fk fv l ks){p:α→Bool}{x:κ}(hp:∀e,p e=true↔x=fk e):K8 l p fv false=true↔x∈ks:=by
 rw[mlook_set h.1,←h.2 x]
 exact⟨fun⟨e,h1,h2⟩=>⟨e,h1,((hp e).1 h2).symm⟩,fun⟨e,h1,h2⟩=>⟨e,h1,(hp e).2 h2.symm⟩⟩
theorem R0.put{α κ:Type}{fk:α→κ}{fv:α→Bool}{l:List α}{ks:List κ}(h:R0 fk fv l ks){p:α→Bool}{x:κ}{y:α}(hp:∀e,p e=true↔x=fk e)(hy:fk y=x)(hv:fv y=true):R0 fk fv (mput l p y) (ks++[x]):=by
 refine⟨fun e he=>?_,fun z=>?_⟩
 ·rcases mput_mem he with rfl|h1
  ·exact hv
  ·exact h.1 e h1
 ·rw[mput_keys hp hy z,h.2 z];simp
theorem R0.nil{α κ:Type}(fk:α→κ)(fv:α→Bool):R0 fk fv [] []:=⟨fun e h=>by simp at h,fun z=>by simp⟩
theorem nodup_app{κ:Type}{l:List κ}{x:κ}:(l++[x]).Nodup↔l.Nodup∧x∉l:=by
 rw[List.nodup_append]
 simp only[List.nodup_cons,ζw,not_false_eq_true,List.nodup_nil,and_self,true_and,ζv,or_false]
 exact⟨fun⟨h1,h2⟩=>⟨h1,fun h=>h2 x h x rfl rfl⟩,fun⟨h1,h2⟩=>⟨h1,fun a ha b hb e=>h2 (by rw[←hb,←e];exact ha)⟩⟩
theorem F5{α κ:Type}{l:List α}{f:α→κ}{k:Nat}{x:α}(h:l[k]?=some x):(l.take (k+1)).map f=(l.take k).map f++[f x]:=by
 rw[List.take_add_one,h];simp
section
variable {P:Program} {G:Nat→Option (List V)} {ρ:Type} {Q:ρ→Prop}
theorem Ok.o{β:Type}{a:Nat}{R:Rule P G β}{k:β→T P G ρ}{r:β}(hr:R.o=some r)(h:Ok (k r) Q):Ok (.opr a R k) Q:=by
 obtain⟨x,e,hq⟩:=h
 exact⟨x,by simp only[T.run,hr];exact e,hq⟩
theorem Ok.t{a:Nat}{c:Bool}{x y:T P G ρ}(hc:c=true)(h:Ok x Q):Ok (.br a c x y) Q:=Ok.e (fun _=>h) fun e=>by rw[hc] at e;simp at e
theorem Ok.f{a:Nat}{c:Bool}{x y:T P G ρ}(hc:c=false)(h:Ok y Q):Ok (.br a c x y) Q:=Ok.e (fun e=>by rw[hc] at e;simp at e) fun _=>h
end
end Go.Proofs.YtjpahkpfkohfkaaGreatDoor
namespace Go.EV
open Go
abbrev Sl{α:Type}(n:Nat)(t:Ty α)(l:List α):V:=.sl false n (l.map t.c)
abbrev Rf{α:Type}(b:Nat)(l:List α):V:=.ref b 0 l.length
abbrev Bt{α:Type}(b:Nat)(t:Ty α)(n:Nat)(l:List α):BT:=BT.of b t n l true
abbrev bD(a b:Int):Bool:=decide (0≤a)&&decide (a < b)
abbrev V.i(n:Int):V:=.int .i64 n
end Go.EV
namespace Go.Proofs.YtjpahkpfkohfkaaGreatDoor
open Go Go.EV
def GG:Nat→Option (List V):=fun g=>if g=0 then some [.int .i64 0,.int .i64 126,.int .i64 110,.int .i64 100,.int .i64 0] else none
abbrev TT:=T Tryz.prog GG
abbrev Sp:=EV.Spec Tryz.prog GG
abbrev Pg:=Tryz.prog
abbrev ωa:=1000000
abbrev ωb:=1000001
abbrev ωc:=1000002
abbrev ωd:=1000003
abbrev ωe:=1000004
abbrev ωf:=1000005
abbrev ωg:=1000006
abbrev ωh:=660000
abbrev ωi:=1000007
abbrev ωj:=660001
abbrev ωk:=600013
abbrev ωl:=1114370
abbrev ωm:=600045
abbrev ωn:=660002
abbrev ωo:=700062
abbrev ωp:=700063
theorem Z0:Tryz.prog.follows .mixedOrders=true:=by kernel_rfl
def E1:List Int:=[1116352408,1899447441,3049323471,3921009573,961987163,1508970993,2453635748,2870763221,3624381080,310598401,607225278,1426881987,1925078388,2162078206,2614888103,3248222580,3835390401,4022224774,264347078,604807628,770255983,1249150122,1555081692,1996064986,2554220882,2821834349,2952996808,3210313671,3336571891,3584528711,113926993,338241895,666307205,773529912,1294757372,1396182291,1695183700,1986661051,2177026350,2456956037,2730485921,2820302411,3259730800,3345764771,3516065817,3600352804,4094571909,275423344,430227734,506948616,659060556,883997877,958139571,1322822218,1537002063,1747873779,1955562222,2024104815,2227730452,2361852424,2428436474,2756734187,3204031479,3329325298]
def M2:List V:=[.int .u32 1116352408,.int .u32 1899447441,.int .u32 3049323471,.int .u32 3921009573,.int .u32 961987163,.int .u32 1508970993,.int .u32 2453635748,.int .u32 2870763221,.int .u32 3624381080,.int .u32 310598401,.int .u32 607225278,.int .u32 1426881987,.int .u32 1925078388,.int .u32 2162078206,.int .u32 2614888103,.int .u32 3248222580,.int .u32 3835390401,.int .u32 4022224774,.int .u32 264347078,.int .u32 604807628,.int .u32 770255983,.int .u32 1249150122,.int .u32 1555081692,.int .u32 1996064986,.int .u32 2554220882,.int .u32 2821834349,.int .u32 2952996808,.int .u32 3210313671,.int .u32 3336571891,.int .u32 3584528711,.int .u32 113926993,.int .u32 338241895,.int .u32 666307205,.int .u32 773529912,.int .u32 1294757372,.int .u32 1396182291,.int .u32 1695183700,.int .u32 1986661051,.int .u32 2177026350,.int .u32 2456956037,.int .u32 2730485921,.int .u32 2820302411,.int .u32 3259730800,.int .u32 3345764771,.int .u32 3516065817,.int .u32 3600352804,.int .u32 4094571909,.int .u32 275423344,.int .u32 430227734,.int .u32 506948616,.int .u32 659060556,.int .u32 883997877,.int .u32 958139571,.int .u32 1322822218,.int .u32 1537002063,.int .u32 1747873779,.int .u32 1955562222,.int .u32 2024104815,.int .u32 2227730452,.int .u32 2361852424,.int .u32 2428436474,.int .u32 2756734187,.int .u32 3204031479,.int .u32 3329325298]
def J6:Ty Int:=⟨fun x=>[.int .u32 x],fun x=>[.int .u32 x],fun _=>rfl,fun _=>rfl,fun _ _=>rfl,fun _=>rfl⟩
def s253(p0 p1:Int):Sp (Int×Int):=.ofFn 253 Z0 Tryz.func253 (show FnD Pg GG [0,1,4,5,6,7,8,9,10,11,12,13] Tryz.f253 [.int .u64 p0,.int .u64 p1] (.done ((Z4 ((Z4 ((Z4 ((Z3 .u64 p0 32) * (Z3 .u64 p1 32)))+(Z3 .u64 (Z4 ((Z4 ((Z3 .u64 p0 32) * (Y2 .u64 p1 4294967295)))+(Z3 .u64 (Z4 ((Y2 .u64 p0 4294967295) * (Y2 .u64 p1 4294967295))) 32))) 32)))+(Z3 .u64 (Z4 ((Y2 .u64 (Z4 ((Z4 ((Z3 .u64 p0 32) * (Y2 .u64 p1 4294967295)))+(Z3 .u64 (Z4 ((Y2 .u64 p0 4294967295) * (Y2 .u64 p1 4294967295))) 32))) 4294967295)+(Z4 ((Y2 .u64 p0 4294967295) * (Z3 .u64 p1 32))))) 32))),(Z4 (p0 * p1))):TT (Int×Int)) (fun r=>.tup [.int .u64 r.1,.int .u64 r.2]) by unfold FnD;kernel_rfl)
def s276(p0 p1:Int):Sp (Bool):=.ofFn 276 Z0 Tryz.func276 (show FnD Pg GG [0,1,3,4,5,6,7,8] Tryz.f276 [.int .u64 p0,.snap [.int .u64 p1]] (.call 1003 (s253 p0 p0) [] [] fun r1=>.call 2003 (s253 r1.2 p0) [] [] fun r2=>.cnd 4 [3] (.br 4006 (decide ((Z4 ((Z4 (r1.1 * p0))+r2.1)) < (V9 .u64 p1 32))) (.done true) (.br 4011 ((Z4 ((Z4 (r1.1 * p0))+r2.1))==(V9 .u64 p1 32)) (.done (r2.2==0)) (.done false))) (fun(c3:Bool)=>[.bool c3]) fun c3=>.done c3:TT (Bool)) (fun r=>.bool r) by unfold FnD;kernel_rfl)
def s275(p0:Int):Sp (Int):=.ofFn 275 Z0 Tryz.func275 (show FnD Pg GG [0,2,3,4,6,13] Tryz.f275 [.fn 276 [] [.snap [.int .u64 p0]]] (.bind 1 (.lp (fun(l3:Int×Int)=>Ext.l .normal [(0,.fn 276 [] [.snap [.int .u64 p0]]),(2,.int .u32 0),(3,.int .u64 l3.1),(4,.int .u64 l3.2)] []) (fun l3=>.br 0 (decide ((0:Int) < l3.2)) (.call 5005 (s276 (bOr .u64 l3.1 l3.2) p0) [] [] fun r4=>.br 0 r4 (.done (.inl ((bOr .u64 l3.1 l3.2),(Z3 .u64 l3.2 1)))) (.done (.inl (l3.1,(Z3 .u64 l3.2 1))))) (.done (.inr l3.1))) (0,68719476736)) (fun(e5:Int)=>Ext.l (.exit 0) [(2,.int .u32 0),(3,.int .u64 e5)] []) (fun e5=>.done (O4 (Y2 .u64 e5 4294967295))):TT (Int)) (fun r=>.int .u32 r) by unfold FnD;kernel_rfl)
def s277(p0 p1:Int):Sp (Bool):=.ofFn 277 Z0 Tryz.func277 (show FnD Pg GG [0,1,3,4,5] Tryz.f277 [.int .u64 p0,.snap [.int .u64 p1]] (.call 1003 (s253 p0 p0) [] [] fun r8=>.cnd 2 [3] (.br 2005 (decide (r8.1 < p1)) (.done true) (.br 2009 (r8.1==p1) (.done (r8.2==0)) (.done false))) (fun(c9:Bool)=>[.bool c9]) fun c9=>.done c9:TT (Bool)) (fun r=>.bool r) by unfold FnD;kernel_rfl)
def s275_1(p0:Int):Sp (Int):=.ofFn 275 Z0 Tryz.func275 (show FnD Pg GG [0,2,3,4,6,13] Tryz.f275 [.fn 277 [] [.snap [.int .u64 p0]]] (.bind 1 (.lp (fun(l10:Int×Int)=>Ext.l .normal [(0,.fn 277 [] [.snap [.int .u64 p0]]),(2,.int .u32 0),(3,.int .u64 l10.1),(4,.int .u64 l10.2)] []) (fun l10=>.br 0 (decide ((0:Int) < l10.2)) (.call 5005 (s277 (bOr .u64 l10.1 l10.2) p0) [] [] fun r11=>.br 0 r11 (.done (.inl ((bOr .u64 l10.1 l10.2),(Z3 .u64 l10.2 1)))) (.done (.inl (l10.1,(Z3 .u64 l10.2 1))))) (.done (.inr l10.1))) (0,68719476736)) (fun(e12:Int)=>Ext.l (.exit 0) [(2,.int .u32 0),(3,.int .u64 e12)] []) (fun e12=>.done (O4 (Y2 .u64 e12 4294967295))):TT (Int)) (fun r=>.int .u32 r) by unfold FnD;kernel_rfl)
def s261 :Sp (Int×Int×Int×Int×Int×Int×Int×Int):=.ofFnB 261 [] Z0 Tryz.func261 rfl (fun _=>rfl) (show FnB Pg GG [0,1,2,3,4,5,7,14,25,31,38] Tryz.f261 [] (Ext.of .normal (U6 []) [] [] (by rfl)) (.opr 2 (Rule.allocS (ty:=J6) 292 1 (List.replicate 64 (0:Int)) (fun _=>rfl) (by kernel_rfl)) fun _=>.bind 1 (.lp (fun(l14:Int×Int×Int×Int×Int×Int×Int×Int×(List Int)×Int×Int)=>Ext.of .normal [(0,.ptr 0 0 0),(1,.ptr 1 0 0),(2,.i l14.q.q.2.2),(3,.ptr 3 0 0)] [(0,⟨8,true,[[.int .u32 l14.1,.int .u32 l14.2.1,.int .u32 l14.2.2.1,.int .u32 l14.2.2.2.1,.int .u32 l14.q.1,.int .u32 l14.q.2.1,.int .u32 l14.q.2.2.1,.int .u32 l14.q.2.2.2.1]]⟩),(3,⟨1,true,[[.int .u64 l14.q.q.2.1]]⟩)] [Bt 1 J6 1 l14.q.q.1] (by rfl)) (fun l14=>.br 0 (decide (l14.q.q.2.2 < 64)) (.bind 0 (.bind 2 (.lp (fun(l16:Bool×Int)=>Ext.of .normal [(0,.ptr 0 0 0),(1,.ptr 1 0 0),(2,.i l14.q.q.2.2),(3,.ptr 3 0 0),(4,.bool l16.1),(5,.int .u64 l16.2)] [(0,⟨8,true,[[.int .u32 l14.1,.int .u32 l14.2.1,.int .u32 l14.2.2.1,.int .u32 l14.2.2.2.1,.int .u32 l14.q.1,.int .u32 l14.q.2.1,.int .u32 l14.q.2.2.1,.int .u32 l14.q.2.2.2.1]]⟩),(3,⟨1,true,[[.int .u64 l14.q.q.2.1]]⟩)] [Bt 1 J6 1 l14.q.q.1] (by rfl)) (fun l16=>.br 0 (decide ((Z4 (l16.2 * l16.2))≤l14.q.q.2.1)) (.cnd 9 [4] (.br 9003 l16.1 (.chk 9005 (!(l16.2==0)) (.done ((Int.tmod l14.q.q.2.1 l16.2) != 0))) (.done false)) (fun(c17:Bool)=>[.bool c17]) fun c17=>.done (.inl (c17,(Z4 (l16.2+1))))) (.done (.inr l16.1))) (true,2)) (fun(e18:Bool)=>Ext.of (.exit 2) [(0,.ptr 0 0 0),(1,.ptr 1 0 0),(2,.i l14.q.q.2.2),(3,.ptr 3 0 0),(4,.bool e18)] [(0,⟨8,true,[[.int .u32 l14.1,.int .u32 l14.2.1,.int .u32 l14.2.2.1,.int .u32 l14.2.2.2.1,.int .u32 l14.q.1,.int .u32 l14.q.2.1,.int .u32 l14.q.2.2.1,.int .u32 l14.q.2.2.2.1]]⟩),(3,⟨1,true,[[.int .u64 l14.q.q.2.1]]⟩)] [Bt 1 J6 1 l14.q.q.1] (by rfl)) (fun e18=>.br 0 (!e18) (.done (l14.1,l14.2.1,l14.2.2.1,l14.2.2.2.1,l14.q.1,l14.q.2.1,l14.q.2.2.1,l14.q.2.2.2.1,l14.q.q.1,l14.q.q.2.2)) (.view 11003 (s275 l14.q.q.2.1) [] fun r19=>.opr 11004 (Rule.arrAt (e:=290) 292 (.tmp 1) (.tmp 26) 29 1 ⟨1,true,(List.map J6.c l14.q.q.1)⟩ 0 .i64 l14.q.q.2.2 64 (by kernel_rfl) (by kernel_rfl)) fun _=>.row 11005 J6 l14.q.q.1 (0+l14.q.q.2.2.toNat) true fun x20=>.re 11005 (ReW.put 1 1 J6 l14.q.q.1 (0+l14.q.q.2.2.toNat) r19) (.br 0 (decide (l14.q.q.2.2 < 8)) (.view 13003 (s275_1 l14.q.q.2.1) [] fun r21=>.ceq 13004 l14.q.q.2.2 [0,1,2,3,4,5,6,7] (fun v=>bif v==0 then .done (r21,l14.2.1,l14.2.2.1,l14.2.2.2.1,l14.q.1,l14.q.2.1,l14.q.2.2.1,l14.q.2.2.2.1,(l14.q.q.1.set (0+l14.q.q.2.2.toNat) r19),(Q4 (l14.q.q.2.2+1))) else bif v==1 then .done (l14.1,r21,l14.2.2.1,l14.2.2.2.1,l14.q.1,l14.q.2.1,l14.q.2.2.1,l14.q.2.2.2.1,(l14.q.q.1.set (0+l14.q.q.2.2.toNat) r19),(Q4 (l14.q.q.2.2+1))) else bif v==2 then .done (l14.1,l14.2.1,r21,l14.2.2.2.1,l14.q.1,l14.q.2.1,l14.q.2.2.1,l14.q.2.2.2.1,(l14.q.q.1.set (0+l14.q.q.2.2.toNat) r19),(Q4 (l14.q.q.2.2+1))) else bif v==3 then .done (l14.1,l14.2.1,l14.2.2.1,r21,l14.q.1,l14.q.2.1,l14.q.2.2.1,l14.q.2.2.2.1,(l14.q.q.1.set (0+l14.q.q.2.2.toNat) r19),(Q4 (l14.q.q.2.2+1))) else bif v==4 then .done (l14.1,l14.2.1,l14.2.2.1,l14.2.2.2.1,r21,l14.q.2.1,l14.q.2.2.1,l14.q.2.2.2.1,(l14.q.q.1.set (0+l14.q.q.2.2.toNat) r19),(Q4 (l14.q.q.2.2+1))) else bif v==5 then .done (l14.1,l14.2.1,l14.2.2.1,l14.2.2.2.1,l14.q.1,r21,l14.q.2.2.1,l14.q.2.2.2.1,(l14.q.q.1.set (0+l14.q.q.2.2.toNat) r19),(Q4 (l14.q.q.2.2+1))) else bif v==6 then .done (l14.1,l14.2.1,l14.2.2.1,l14.2.2.2.1,l14.q.1,l14.q.2.1,r21,l14.q.2.2.2.1,(l14.q.q.1.set (0+l14.q.q.2.2.toNat) r19),(Q4 (l14.q.q.2.2+1))) else bif v==7 then .done (l14.1,l14.2.1,l14.2.2.1,l14.2.2.2.1,l14.q.1,l14.q.2.1,l14.q.2.2.1,r21,(l14.q.q.1.set (0+l14.q.q.2.2.toNat) r19),(Q4 (l14.q.q.2.2+1))) else .fail)) (.done (l14.1,l14.2.1,l14.2.2.1,l14.2.2.2.1,l14.q.1,l14.q.2.1,l14.q.2.2.1,l14.q.2.2.2.1,(l14.q.q.1.set (0+l14.q.q.2.2.toNat) r19),(Q4 (l14.q.q.2.2+1)))))))) (fun(e22:Int×Int×Int×Int×Int×Int×Int×Int×(List Int)×Int)=>Ext.of .normal [(0,.ptr 0 0 0),(1,.ptr 1 0 0),(2,.i e22.q.q.2),(3,.ptr 3 0 0)] [(0,⟨8,true,[[.int .u32 e22.1,.int .u32 e22.2.1,.int .u32 e22.2.2.1,.int .u32 e22.2.2.2.1,.int .u32 e22.q.1,.int .u32 e22.q.2.1,.int .u32 e22.q.2.2.1,.int .u32 e22.q.2.2.2.1]]⟩),(3,⟨1,true,[[.int .u64 l14.q.q.2.1]]⟩)] [Bt 1 J6 1 e22.q.q.1] (by rfl)) (fun e22=>.gh 18 (.drop [3]) (.done (.inl (e22.1,e22.2.1,e22.2.2.1,e22.2.2.2.1,e22.q.1,e22.q.2.1,e22.q.2.2.1,e22.q.2.2.2.1,e22.q.q.1,(Z4 (l14.q.q.2.1+1)),e22.q.q.2))))) (.done (.inr (l14.q.q.1,l14.1,l14.2.1,l14.2.2.1,l14.2.2.2.1,l14.q.1,l14.q.2.1,l14.q.2.2.1,l14.q.2.2.2.1)))) (0,0,0,0,0,0,0,0,(List.replicate 64 (0:Int)),2,0)) (fun(e23:(List Int)×Int×Int×Int×Int×Int×Int×Int×Int)=>Ext.of (.exit 0) [(0,.ptr 0 0 0),(1,.ptr 1 0 0)] [(0,⟨8,true,[[.int .u32 e23.2.1,.int .u32 e23.2.2.1,.int .u32 e23.2.2.2.1,.int .u32 e23.q.1,.int .u32 e23.q.2.1,.int .u32 e23.q.2.2.1,.int .u32 e23.q.2.2.2.1,.int .u32 e23.q.q]]⟩)] [Bt 1 J6 1 e23.1] (by rfl)) (fun e23=>.fact (e23.1=E1) inferInstance fun h24=>.opr 17002 (Rule.loadX 292 (.tmp 1) 40 1 ⟨1,true,(List.map J6.c e23.1)⟩ (.agg M2) (show 1 < W9 by decide) (by rw[h24];kernel_rfl)) fun _=>.opr 17004 (Rule.storeX (ty:=J6) 292 (.tmp 1) (.tmp 40) 1 ⟨1,true,(List.map J6.c e23.1)⟩ (.agg M2) E1 (fun _=>rfl) (show 1 < W9 by decide) rfl rfl (by rw[ζs,h24]) (by kernel_rfl) (by kernel_rfl)) fun _=>.done (e23.2.1,e23.2.2.1,e23.2.2.2.1,e23.q.1,e23.q.2.1,e23.q.2.2.1,e23.q.2.2.2.1,e23.q.q)):TT (Int×Int×Int×Int×Int×Int×Int×Int)) (fun(r:Int×Int×Int×Int×Int×Int×Int×Int)=>.tup [.agg [.int .u32 r.1,.int .u32 r.2.1,.int .u32 r.2.2.1,.int .u32 r.2.2.2.1,.int .u32 r.q.1,.int .u32 r.q.2.1,.int .u32 r.q.2.2.1,.int .u32 r.q.2.2.2],.agg M2]) (fun(r:Int×Int×Int×Int×Int×Int×Int×Int)=>Ext.of .normal [] [] [] (by rfl)) by unfold FnB;kernel_rfl)
def s236 :Sp (Int×Int×Int×Int×Int×Int×Int×Int):=.ofFnB 236 [] Z0 Tryz.func236 rfl (fun _=>rfl) (show FnB Pg GG [0,1,2] Tryz.f236 [] (Ext.of .normal (U6 []) [] [] (by rfl)) (.call 1001 s261 [] [] fun r25=>.opr 1006 (Rule.allocS (ty:=J6) 292 2 (List.replicate 64 (0:Int)) (fun _=>rfl) (by kernel_rfl)) fun _=>.opr 1008 (Rule.storeX (ty:=J6) 292 (.tmp 2) (.tmp 6) 2 ⟨1,true,(List.map J6.c (List.replicate 64 (0:Int)))⟩ (.agg M2) E1 (fun _=>rfl) (show 1 < W9 by decide) rfl rfl (by kernel_rfl) (by kernel_rfl) (by kernel_rfl)) fun _=>.opr 2002 (Rule.loadX 292 (.tmp 2) 8 2 ⟨1,true,(List.map J6.c E1)⟩ (.agg M2) (show 1 < W9 by decide) (by kernel_rfl)) fun _=>.done (r25.1,r25.2.1,r25.2.2.1,r25.2.2.2.1,r25.q.1,r25.q.2.1,r25.q.2.2.1,r25.q.2.2.2):TT (Int×Int×Int×Int×Int×Int×Int×Int)) (fun(r:Int×Int×Int×Int×Int×Int×Int×Int)=>.agg ([.int .u32 r.1,.int .u32 r.2.1,.int .u32 r.2.2.1,.int .u32 r.2.2.2.1,.int .u32 r.q.1,.int .u32 r.q.2.1,.int .u32 r.q.2.2.1,.int .u32 r.q.2.2.2]++M2)) (fun(r:Int×Int×Int×Int×Int×Int×Int×Int)=>Ext.of .normal [] [] [] (by rfl)) by unfold FnB;kernel_rfl)
def s311(p0 p1:Int):Sp (Int):=.ofFn 311 Z0 Tryz.func311 (show FnD Pg GG [0,1,4,5] Tryz.f311 [.int .u32 p0,.i p1] (.chk 2003 (decide ((0:Int)≤(Y2 .u64 (Z4 p1) 31))) (.chk 2007 (decide ((0:Int)≤(Z4 ((32:Int) - (Y2 .u64 (Z4 p1) 31))))) (.done (bOr .u32 (V9 .u32 p0 (Y2 .u64 (Z4 p1) 31)) (Z3 .u32 p0 (Z4 ((32:Int) - (Y2 .u64 (Z4 p1) 31))))))):TT (Int)) (fun r=>.int .u32 r) by unfold FnD;kernel_rfl)
abbrev W8:=Int×Int×Int×Int×Int×Int×Int×Int
def gMix(w:W8)(tl:ByteArray)(ct:Int)(s:ByteArray)(rest:ByteArray):TT (Int×Int×Int×Int×Int×Int×Int×Int):=
 .opr 3001 (Rule.allocS (ty:=J6) 292 7 (List.replicate 64 (0:Int)) (fun _=>rfl) (by kernel_rfl)) fun _=>
 .bind 1
 (.lp (fun(l28:(List Int)×Int)=>Ext.of .normal [(3,.ptr 1000003 0 0),(5,.ptr 1000005 0 0),(6,.str s),(7,.ptr 7 0 0),(22,.i l28.2)] [(1000003,⟨1,true,[[.ptr 2000000 0 0]]⟩),(1700070,⟨1,true,[[.str rest]]⟩),(2000000,⟨10,true,[[.int .u32 w.1,.int .u32 w.2.1,.int .u32 w.2.2.1,.int .u32 w.2.2.2.1,.int .u32 w.q.1,.int .u32 w.q.2.1,.int .u32 w.q.2.2.1,.int .u32 w.q.2.2.2,.str tl,.i ct]]⟩)] [BT.of 7 J6 1 l28.1 true,BT.of 1000005 J6 1 E1 true] (by rfl))
  (fun l28=>
   .br 0 (decide (l28.2 < 64))
   (.br 0 (decide (l28.2 < 16))
    (.chk 8007 ((decide (0≤(Q4 ((Q4 ((4:Int) * l28.2))+4)))&&decide ((Q4 ((Q4 ((4:Int) * l28.2))+4))≤(s.size:Int)))&&(decide (0≤(Q4 ((4:Int) * l28.2)))&&decide ((Q4 ((4:Int) * l28.2))≤((Q4 ((Q4 ((4:Int) * l28.2))+4)).toNat:Int)))) (.chk 9003 (decide (0≤(0:Int)∧(0:Int) < ((s.extract ((Q4 ((4:Int) * l28.2)).toNat) ((Q4 ((Q4 ((4:Int) * l28.2))+4)).toNat)).size:Int))) (.chk 9007 (decide (0≤(1:Int)∧(1:Int) < ((s.extract ((Q4 ((4:Int) * l28.2)).toNat) ((Q4 ((Q4 ((4:Int) * l28.2))+4)).toNat)).size:Int))) (.chk 9012 (decide (0≤(2:Int)∧(2:Int) < ((s.extract ((Q4 ((4:Int) * l28.2)).toNat) ((Q4 ((Q4 ((4:Int) * l28.2))+4)).toNat)).size:Int))) (.chk 9017 (decide (0≤(3:Int)∧(3:Int) < ((s.extract ((Q4 ((4:Int) * l28.2)).toNat) ((Q4 ((Q4 ((4:Int) * l28.2))+4)).toNat)).size:Int))) (.opr 9020 (Rule.arrAt (e:=290) 292 (.tmp 7) (.tmp 34) 53 7 ⟨1,true,(List.map J6.c l28.1)⟩ 0 .i64 l28.2 64 (by kernel_rfl) (by kernel_rfl)) fun _=>
     .row 9021 J6 l28.1 (0+l28.2.toNat) true fun x29=>
     .re 9021 (ReW.put 7 1 J6 l28.1 (0+l28.2.toNat) (bOr .u32 (bOr .u32 (bOr .u32 (V9 .u32 (O4 (bAt (s.extract ((Q4 ((4:Int) * l28.2)).toNat) ((Q4 ((Q4 ((4:Int) * l28.2))+4)).toNat)) 0)) 24) (V9 .u32 (O4 (bAt (s.extract ((Q4 ((4:Int) * l28.2)).toNat) ((Q4 ((Q4 ((4:Int) * l28.2))+4)).toNat)) 1)) 16)) (V9 .u32 (O4 (bAt (s.extract ((Q4 ((4:Int) * l28.2)).toNat) ((Q4 ((Q4 ((4:Int) * l28.2))+4)).toNat)) 2)) 8)) (O4 (bAt (s.extract ((Q4 ((4:Int) * l28.2)).toNat) ((Q4 ((Q4 ((4:Int) * l28.2))+4)).toNat)) 3)))) (.done (.inl ((l28.1.set (0+l28.2.toNat) (bOr .u32 (bOr .u32 (bOr .u32 (V9 .u32 (O4 (bAt (s.extract ((Q4 ((4:Int) * l28.2)).toNat) ((Q4 ((Q4 ((4:Int) * l28.2))+4)).toNat)) 0)) 24) (V9 .u32 (O4 (bAt (s.extract ((Q4 ((4:Int) * l28.2)).toNat) ((Q4 ((Q4 ((4:Int) * l28.2))+4)).toNat)) 1)) 16)) (V9 .u32 (O4 (bAt (s.extract ((Q4 ((4:Int) * l28.2)).toNat) ((Q4 ((Q4 ((4:Int) * l28.2))+4)).toNat)) 2)) 8)) (O4 (bAt (s.extract ((Q4 ((4:Int) * l28.2)).toNat) ((Q4 ((Q4 ((4:Int) * l28.2))+4)).toNat)) 3)))),(Q4 (l28.2+1)))))))))))
    (.opr 10003 (Rule.arrAt (e:=290) 292 (.tmp 7) (.tmp 55) 56 7 ⟨1,true,(List.map J6.c l28.1)⟩ 0 .i64 (Q4 (l28.2 - 15)) 64 (by kernel_rfl) (by kernel_rfl)) fun _=>
     .row 10004 J6 l28.1 (0+(Q4 (l28.2 - 15)).toNat) true fun x30=>
     .opr 10007 (Rule.arrAt (e:=290) 292 (.tmp 7) (.tmp 59) 60 7 ⟨1,true,(List.map J6.c l28.1)⟩ 0 .i64 (Q4 (l28.2 - 2)) 64 (by kernel_rfl) (by kernel_rfl)) fun _=>
     .row 10008 J6 l28.1 (0+(Q4 (l28.2 - 2)).toNat) true fun x31=>
     .opr 11004 (Rule.arrAt (e:=290) 292 (.tmp 7) (.tmp 64) 65 7 ⟨1,true,(List.map J6.c l28.1)⟩ 0 .i64 (Q4 (l28.2 - 16)) 64 (by kernel_rfl) (by kernel_rfl)) fun _=>
     .row 11005 J6 l28.1 (0+(Q4 (l28.2 - 16)).toNat) true fun x32=>
     .opr 11008 (Rule.arrAt (e:=290) 292 (.tmp 7) (.tmp 68) 69 7 ⟨1,true,(List.map J6.c l28.1)⟩ 0 .i64 (Q4 (l28.2 - 7)) 64 (by kernel_rfl) (by kernel_rfl)) fun _=>
     .row 11009 J6 l28.1 (0+(Q4 (l28.2 - 7)).toNat) true fun x33=>
     .call 11012 (s311 x30 (-7)) [] [] fun r34=>
     .call 11014 (s311 x30 (-18)) [] [] fun r35=>
     .call 11021 (s311 x31 (-17)) [] [] fun r36=>
     .call 11023 (s311 x31 (-19)) [] [] fun r37=>
     .opr 11029 (Rule.arrAt (e:=290) 292 (.tmp 7) (.tmp 62) 90 7 ⟨1,true,(List.map J6.c l28.1)⟩ 0 .i64 l28.2 64 (by kernel_rfl) (by kernel_rfl)) fun _=>
     .row 11030 J6 l28.1 (0+l28.2.toNat) true fun x38=>
     .re 11030 (ReW.put 7 1 J6 l28.1 (0+l28.2.toNat) (O4 ((O4 ((O4 (x32+x33))+(bXor .u32 (bXor .u32 r34 r35) (Z3 .u32 x30 3))))+(bXor .u32 (bXor .u32 r36 r37) (Z3 .u32 x31 10))))) (.done (.inl ((l28.1.set (0+l28.2.toNat) (O4 ((O4 ((O4 (x32+x33))+(bXor .u32 (bXor .u32 r34 r35) (Z3 .u32 x30 3))))+(bXor .u32 (bXor .u32 r36 r37) (Z3 .u32 x31 10))))),(Q4 (l28.2+1)))))))
   (.done (.inr l28.1)))
  ((List.replicate 64 (0:Int)),0))
 (fun(e39:(List Int))=>Ext.of (.exit 2) [(3,.ptr 1000003 0 0),(5,.ptr 1000005 0 0),(7,.ptr 7 0 0)] [(1000003,⟨1,true,[[.ptr 2000000 0 0]]⟩),(1700070,⟨1,true,[[.str rest]]⟩),(2000000,⟨10,true,[[.int .u32 w.1,.int .u32 w.2.1,.int .u32 w.2.2.1,.int .u32 w.2.2.2.1,.int .u32 w.q.1,.int .u32 w.q.2.1,.int .u32 w.q.2.2.1,.int .u32 w.q.2.2.2,.str tl,.i ct]]⟩)] [BT.of 7 J6 1 e39 true,BT.of 1000005 J6 1 E1 true] (by rfl))
 (fun e39=>
  .bind 1
  (.lp (fun(l49:Int×Int×Int×Int×Int×Int×Int×Int×Int)=>Ext.of .normal [(3,.ptr 1000003 0 0),(5,.ptr 1000005 0 0),(7,.ptr 7 0 0),(12,.ptr 12 0 0),(97,.i l49.q.q)] [(12,⟨8,true,[[.int .u32 l49.1,.int .u32 l49.2.1,.int .u32 l49.2.2.1,.int .u32 l49.2.2.2.1,.int .u32 l49.q.1,.int .u32 l49.q.2.1,.int .u32 l49.q.2.2.1,.int .u32 l49.q.2.2.2.1]]⟩),(1000003,⟨1,true,[[.ptr 2000000 0 0]]⟩),(1700070,⟨1,true,[[.str rest]]⟩),(2000000,⟨10,true,[[.int .u32 w.1,.int .u32 w.2.1,.int .u32 w.2.2.1,.int .u32 w.2.2.2.1,.int .u32 w.q.1,.int .u32 w.q.2.1,.int .u32 w.q.2.2.1,.int .u32 w.q.2.2.2,.str tl,.i ct]]⟩)] [BT.of 7 J6 1 e39 true,BT.of 1000005 J6 1 E1 true] (by rfl))
   (fun l49=>
    .br 0 (decide (l49.q.q < 64))
    (.call 18004 (s311 l49.q.1 (-6)) [] [] fun r50=>
     .call 18006 (s311 l49.q.1 (-11)) [] [] fun r51=>
     .call 18009 (s311 l49.q.1 (-25)) [] [] fun r52=>
     .opr 18024 (Rule.arrAt (e:=290) 292 (.tmp 5) (.tmp 126) 127 1000005 ⟨1,true,(List.map J6.c E1)⟩ 0 .i64 l49.q.q 64 (by kernel_rfl) (by kernel_rfl)) fun _=>
     .row 18025 J6 E1 (0+l49.q.q.toNat) true fun x53=>
     .opr 18028 (Rule.arrAt (e:=290) 292 (.tmp 7) (.tmp 130) 131 7 ⟨1,true,(List.map J6.c e39)⟩ 0 .i64 l49.q.q 64 (by kernel_rfl) (by kernel_rfl)) fun _=>
     .row 18029 J6 e39 (0+l49.q.q.toNat) true fun x54=>
     .call 19002 (s311 l49.1 (-2)) [] [] fun r55=>
     .call 19004 (s311 l49.1 (-13)) [] [] fun r56=>
     .call 19007 (s311 l49.1 (-22)) [] [] fun r57=>
     .done (.inl ((O4 ((O4 ((O4 ((O4 ((O4 (l49.q.2.2.2.1+(bXor .u32 (bXor .u32 r50 r51) r52)))+(bXor .u32 (Y2 .u32 l49.q.1 l49.q.2.1) (Y2 .u32 (bXor .u32 4294967295 l49.q.1) l49.q.2.2.1))))+x53))+x54))+(O4 ((bXor .u32 (bXor .u32 r55 r56) r57)+(bXor .u32 (bXor .u32 (Y2 .u32 l49.1 l49.2.1) (Y2 .u32 l49.1 l49.2.2.1)) (Y2 .u32 l49.2.1 l49.2.2.1)))))),l49.1,l49.2.1,l49.2.2.1,(O4 (l49.2.2.2.1+(O4 ((O4 ((O4 ((O4 (l49.q.2.2.2.1+(bXor .u32 (bXor .u32 r50 r51) r52)))+(bXor .u32 (Y2 .u32 l49.q.1 l49.q.2.1) (Y2 .u32 (bXor .u32 4294967295 l49.q.1) l49.q.2.2.1))))+x53))+x54)))),l49.q.1,l49.q.2.1,l49.q.2.2.1,(Q4 (l49.q.q+1)))))
    (.done (.inr (l49.1,l49.2.1,l49.2.2.1,l49.2.2.2.1,l49.q.1,l49.q.2.1,l49.q.2.2.1,l49.q.2.2.2.1))))
   (w.1,w.2.1,w.2.2.1,w.2.2.2.1,w.q.1,w.q.2.1,w.q.2.2.1,w.q.2.2.2,0))
  (fun(e58:Int×Int×Int×Int×Int×Int×Int×Int)=>Ext.of (.exit 4) [(3,.ptr 1000003 0 0),(12,.ptr 12 0 0)] [(12,⟨8,true,[[.int .u32 e58.1,.int .u32 e58.2.1,.int .u32 e58.2.2.1,.int .u32 e58.2.2.2.1,.int .u32 e58.q.1,.int .u32 e58.q.2.1,.int .u32 e58.q.2.2.1,.int .u32 e58.q.2.2.2]]⟩),(1000003,⟨1,true,[[.ptr 2000000 0 0]]⟩),(1700070,⟨1,true,[[.str rest]]⟩),(2000000,⟨10,true,[[.int .u32 w.1,.int .u32 w.2.1,.int .u32 w.2.2.1,.int .u32 w.2.2.2.1,.int .u32 w.q.1,.int .u32 w.q.2.1,.int .u32 w.q.2.2.1,.int .u32 w.q.2.2.2,.str tl,.i ct]]⟩)] [BT.of 1000005 J6 1 E1 true] (by rfl))
  (fun e58=>
   .tt (.tt (.tt (.tt (.tt (.tt (.tt (.tt (.ff (.done ((O4 (w.1+e58.1)),(O4 (w.2.1+e58.2.1)),(O4 (w.2.2.1+e58.2.2.1)),(O4 (w.2.2.2.1+e58.2.2.2.1)),(O4 (w.q.1+e58.q.1)),(O4 (w.q.2.1+e58.q.2.1)),(O4 (w.q.2.2.1+e58.q.2.2.1)),(O4 (w.q.2.2.2+e58.q.2.2.2))))))))))))))
def xsMix(w:W8)(tl:ByteArray)(ct:Int)(s:ByteArray)(rest:ByteArray):Ext:=Ext.of .normal [(3,.ptr 1000003 0 0),(5,.ptr 1000005 0 0),(6,.str s)] [(1000003,⟨1,true,[[.ptr 2000000 0 0]]⟩),(1700070,⟨1,true,[[.str rest]]⟩),(2000000,⟨10,true,[[.int .u32 w.1,.int .u32 w.2.1,.int .u32 w.2.2.1,.int .u32 w.2.2.2.1,.int .u32 w.q.1,.int .u32 w.q.2.1,.int .u32 w.q.2.2.1,.int .u32 w.q.2.2.2,.str tl,.i ct]]⟩)] [BT.of 1000005 J6 1 E1 true] (by rfl)
def xeMix(w:W8)(tl:ByteArray)(ct:Int)(s:ByteArray)(rest:ByteArray):(Int×Int×Int×Int×Int×Int×Int×Int)→Ext:=fun(r:Int×Int×Int×Int×Int×Int×Int×Int)=>Ext.of .normal [] [(1000003,⟨1,true,[[.ptr 2000000 0 0]]⟩),(1700070,⟨1,true,[[.str rest]]⟩),(2000000,⟨10,true,[[.int .u32 r.1,.int .u32 r.2.1,.int .u32 r.2.2.1,.int .u32 r.2.2.2.1,.int .u32 r.q.1,.int .u32 r.q.2.1,.int .u32 r.q.2.2.1,.int .u32 r.q.2.2.2,.str tl,.i ct]]⟩)] [BT.of 1000005 J6 1 E1 true] (by rfl)
theorem kMix(w:W8)(tl:ByteArray)(ct:Int)(s:ByteArray)(rest:ByteArray):Z9 Tryz.prog GG [3,5,6,7,8,9,10,11,12,13,14,15,16,17,18,22,23,26,97,98,179,180] 198 (rBody (cB (cR (cR (Tryz.f290.body.getD .skip))))) (xsMix w tl ct s rest) (gMix w tl ct s rest) (xeMix w tl ct s rest):=by unfold Z9;kernel_rfl
end Go.Proofs.YtjpahkpfkohfkaaGreatDoor
namespace Go.Proofs
open Go.Shelf
def Tryz.lays316_ren:Go.Shelf.Ren:=⟨fun|316=>312|n=>n,fun|9=>9|3=>3|4=>4|37=>73|0=>0|127=>298|5=>5|n=>n,fun|n=>n⟩
theorem Tryz.lays316:LaysM.n316 Tryz.prog Tryz.lays316_ren where
 mixed:=by kernel_rfl
 f316:=Tryz.func312.trans (congrArg some (by kernel_rfl))
 t0:=Tryz.underlying0
 a0:=Tryz.isAgg0
 z0:=Tryz.sizeOf0
 v0:=Tryz.zeroValue0
 t3:=Tryz.underlying3
 a3:=Tryz.isAgg3
 z3:=Tryz.sizeOf3
 v3:=Tryz.zeroValue3
 t4:=Tryz.underlying4
 a4:=Tryz.isAgg4
 z4:=Tryz.sizeOf4
 v4:=Tryz.zeroValue4
 t9:=Tryz.underlying9
 a9:=Tryz.isAgg9
 z9:=Tryz.sizeOf9
 v9:=Tryz.zeroValue9
 t37:=Tryz.underlying73
 a37:=Tryz.isAgg73
 z37:=Tryz.sizeOf73
 v37:=Tryz.zeroValue73
 t127:=Tryz.underlying298
 a127:=Tryz.isAgg298
 z127:=Tryz.sizeOf298
 v127:=Tryz.zeroValue298
 t5:=Tryz.underlying5
 a5:=Tryz.isAgg5
 z5:=Tryz.sizeOf5
 v5:=Tryz.zeroValue5
 i0:=by kernel_rfl
 i3:=by kernel_rfl
 i4:=by kernel_rfl
 i5:=by kernel_rfl
 i9:=by kernel_rfl
 i37:=by kernel_rfl
 i127:=by kernel_rfl
end Go.Proofs
namespace Go.Proofs.YtjpahkpfkohfkaaGreatDoor
open Go Go.EV
def g312(p0:ByteArray):TT Unit:=.chk 0 (decide (p0.size≤281474976710656)) (.done ())
theorem k312(p0:ByteArray)(r:Unit)(h:(g312 p0).run=some r):CallC Tryz.prog GG 312 [.str p0] (ofL []) (.str p0) (ofL []):=by
 have h1:p0.size≤281474976710656:=by
  cases hd:decide (p0.size≤281474976710656) with
  | true=>simpa using hd
  | false=>
   unfold g312 at h
   rw[hd] at h
   cases h
 exact callC_shelf args_str (fun w=>Any.stringslite_Clone Tryz.lays316 p0 w h1) (fun _ _ _ _=>.data (.str _))
def s312(p0:ByteArray):Sp Unit:=⟨312,[.str p0],[],(g312 p0).run,fun _=>.str p0,fun _=>[],[],fun _ _ h=>by simp at h,fun r h=>k312 p0 r h⟩
def mxTs:List (Nat×V):=[(3,.ptr 1000003 0 0),(5,.ptr 1000005 0 0),(20,.fn 316 [] [.ptr 1700070 0 0])]
def mxR(w:W8)(tl:ByteArray)(ct:Int):List V:=[.int .u32 w.1,.int .u32 w.2.1,.int .u32 w.2.2.1,.int .u32 w.2.2.2.1,.int .u32 w.q.1,.int .u32 w.q.2.1,.int .u32 w.q.2.2.1,.int .u32 w.q.2.2.2,.str tl,.int .i64 ct]
def mxL(w:W8)(tl:ByteArray)(ct:Int)(rest:ByteArray):List (Nat×Blk):=
 [(1000003,⟨1,true,[[.ptr 2000000 0 0]]⟩),(1700070,⟨1,true,[[.str rest]]⟩),(2000000,⟨10,true,[mxR w tl ct]⟩)]
def mxT:List BT:=[BT.of 1000005 J6 1 E1 true]
def mxX(ts:List (Nat×V))(w:W8)(tl:ByteArray)(ct:Int)(rest:ByteArray):Ext:=Ext.of .normal ts (mxL w tl ct rest) mxT (by rfl)
def mxB(w:W8)(tl:ByteArray)(ct:Int)(rest:ByteArray):List (Nat×Blk):=(mxX [] w tl ct rest).bs
theorem M3{st:St}(x:Ext){n:Nat}(hok:x.ok=true)(hn:st.n=n)(h:extTs x st=x.ts∧extBs x st=x.bs.map fun p=>(p.1,some p.2)):Gst GG st (x.D n).st:=by
 subst hn;exact L7 hok h.1 h.2
def mxRn:Code:=cB (cR (cR (Tryz.f290.body.getD .skip)))
def mxAs:Code:=rAssign mxRn
section
variable (w:W8) (tl:ByteArray) (ct:Int) (s rest:ByteArray)
theorem kMa:Z9 Tryz.prog GG [3,5,6,20,21] 198 mxAs (mxX ((21,.str s) :: mxTs) w tl ct rest) (.done ():TT Unit) (fun _=>xsMix w tl ct s rest):=by unfold Z9;kernel_rfl
end
theorem roundMix(w:W8)(tl:ByteArray)(ct:Int)(s rest:ByteArray){r:W8}(hb:(gMix w tl ct s rest).run=some r) :
  RoundT Tryz.prog GG 198 (tOf mxTs) [21] mxAs (rBody mxRn) (ofL (mxB w tl ct rest)) [.str s] (fun e b'=>e=.normal∧b'=ofL (mxB r tl ct rest)):=by
 refine⟨((xsMix w tl ct s rest).D 198).st,?_,?_⟩
 ·have h:=(kMa w tl ct s rest).tv Z0 (r:=()) rfl (by rfl)
  have e:((mxX ((21,.str s) :: mxTs) w tl ct rest).D 198).st=setP (M7 198 (tOf mxTs) (ofL (mxB w tl ct rest))) ([21].zip [.str s]):=by
   rw[D9 (by rfl)]
   exact(setP_susp 198 mxTs _ 21 (.str s)).symm
  rw[e] at h
  exact h
 ·refine((kMix w tl ct s rest).tv Z0 hb (by rfl)).mono fun e s' hg=>?_
  obtain⟨rfl,g⟩:=hg
  refine⟨_,198,⟨rfl,rfl⟩,?_⟩
  have e:((xeMix w tl ct s rest r).D 198).st=M7 198 (fun _=>.undef) (ofL (mxB r tl ct rest)):=by
   rw[D9 (by rfl)];rfl
  rw[e] at g
  exact g
def bkArgs(l:Nat):List V:=[.yld l,.ptr 1700070 0 0]
def cBk:Code:=Tryz.f316.body.getD .skip
def cBL:Code:=cB (cB cBk)
def bR0:Code:=cL (cL cBL)
def ops2:Array Oper:=rOps (cL (cB (cL (cR cBL))))
def bR1:Code:=cR (cR cBL)
theorem eBk:cBk=.block 0 (.loop cBL):=by kernel_rfl
theorem eBL:cBL=.seq (.seq bR0 (.cond (.tmp 5) .skip (.exit 0))) (.seq (.block 1 (.seq (.region 2 ops2 false) (.cond (.tmp 12) .ret .skip))) bR1):=by kernel_rfl
section
variable (l:Nat) (w:W8) (tl:ByteArray) (ct:Int) (rest:ByteArray)
def tBk:List (Nat×V):=[(0,.yld l),(1,.ptr 1700070 0 0)]
def xBk:Ext:=mxX (tBk l) w tl ct rest
def xBk1:Ext:=mxX (tBk l++[(5,.bool (decide ((64:Int)≤(rest.size:Int))))]) w tl ct rest
def xBkS:Ext:=mxX (tBk l++[(8,.yld l),(10,.str (rest.extract 0 64))]) w tl ct rest
theorem kB0:Z9 Tryz.prog GG [0,1,5] 13 bR0 (xBk l w tl ct rest) (.done ():TT Unit) (fun _=>xBk1 l w tl ct rest):=by unfold Z9;kernel_rfl
def gB2:TT Unit:=.chk 2003 (decide (0≤(64:Int))&&decide ((64:Int)≤(rest.size:Int))) (.done ())
theorem kB2:A0 Tryz.prog GG [0,1,8,10] 13 2 ops2 3 (xBk l w tl ct rest) (gB2 rest) (fun _=>xBkS l w tl ct rest):=by unfold A0;kernel_rfl
def gB1:TT Unit:=.chk 1002 (decide (0≤(64:Int))&&decide ((64:Int)≤(rest.size:Int))) (.done ())
theorem kB1:Z9 Tryz.prog GG [0,1] 13 bR1 (xBk l w tl ct rest) (gB1 rest) (fun _=>xBk l w tl ct (rest.extract 64 rest.size)):=by unfold Z9;kernel_rfl
end
def mxStep(tl:ByteArray)(ct:Int)(x:W8×ByteArray):Option ((W8×ByteArray)⊕W8):=
 bif decide ((64:Int)≤(x.2.size:Int)) then
  (match (gMix x.1 tl ct (x.2.extract 0 64) x.2).run with
  | none=>none
  | some w=>some (.inl (w,x.2.extract 64 x.2.size)))
 else some (.inr x.1)
def mixM(w:W8)(tl:ByteArray)(ct:Int)(s:ByteArray):Option W8:=I8 (mxStep tl ct) FUEL (w,s)
def mxYL:YL:=⟨198,tOf mxTs,#[21],mxAs,rBody mxRn⟩
theorem iterMix(w:W8)(tl:ByteArray)(ct:Int)(s:ByteArray){r:W8}(h:mixM w tl ct s=some r) :
    IterT Tryz.prog GG cBk 13 bkArgs (ofL (mxB w tl ct s)) mxYL (fun e b=>e=.normal∧∃rest,b=ofL (mxB r tl ct rest)):=by
  refine IterT.of fun l=>?_
  have e0:entry 13 (bkArgs l) (ofL (mxB w tl ct s))=((mxX (U6 (bkArgs l)) w tl ct s).D 13).st:=(entry_ext (x:=mxX (U6 (bkArgs l)) w tl ct s) (by rfl) (by rfl) 13).symm
  rw[e0,eBk]
  show YT _ _ _ _ _ ⟨.normal,((xBk l w tl ct s).D 13).st⟩ _
  refine YT.block ?_
  refine YT.loop (fun m s=>s.x=.normal∧∃y:W8×ByteArray,Gst GG s.st ((xBk l y.1 tl ct y.2).D 13).st∧I8 (mxStep tl ct) m y=some r) (fun m s hI=>?_) (n:=FUEL) ⟨rfl,(w,s),Gst.same _,h⟩
  obtain⟨x,st⟩:=s
  obtain⟨rfl,⟨v,o⟩,g,hit⟩:=hI
  refine YT.gst g ?_
  cases m with
  | zero=>simp[I8] at hit
  | succ m=>
    rw[T6] at hit
    rw[eBL]
    refine YT.seq (YT.seq (YT.piece (kB0 l v tl ct o) Z0 rfl (by rfl) fun s g=>?_))
    show YT _ _ _ _ _ _ _
    refine YT.gst g ?_
    cases hc:decide ((64:Int)≤(o.size:Int)) with
    | false=>
      have hs0:mxStep tl ct (v,o)=some (.inr v):=by unfold mxStep;simp only[hc];rfl
      rw[hs0] at hit
      obtain rfl:v=r:=ζR hit
      refine YT.cond (b:=false) (by show some (V.bool (decide ((64:Int)≤(o.size:Int))))=_;rw[hc]) (YT.exit ?_)
      refine⟨.inl rfl,13,tOf (xBk1 l v tl ct o).ts,ofL (mxB v tl ct o),?_,rfl,o,rfl⟩
      show Gst GG ((xBk1 l v tl ct o).D 13).st _
      rw[D9 (by rfl) 13]
      exact Gst.same _
    | true=>
      have hrun:∀a:Nat,(T.chk a (decide (0≤(64:Int))&&decide ((64:Int)≤(o.size:Int))) (.done ()):TT Unit).run=some ():=fun a=>by
        rw[hc];rfl
      refine YT.cond (b:=true) (by show some (V.bool (decide ((64:Int)≤(o.size:Int))))=_;rw[hc]) (YT.skip ?_)
      show YT _ _ _ _ _ _ _
      refine YT.gst (st':=((xBk l v tl ct o).D 13).st) (M3 (xBk l v tl ct o) (by rfl) rfl ⟨by rfl,by rfl⟩) ?_
      cases h5:(gMix v tl ct (o.extract 0 64) o).run with
      | none => have hs0 : mxStep tl ct (v, o) = none := by unfold mxStep; simp only [hc, h5]; rfl
                rw[hs0] at hit;simp at hit
      | some v2=>
      have hs0:mxStep tl ct (v,o)=some (.inl (v2,o.extract 64 o.size)):=by unfold mxStep;simp only[hc,h5];rfl
      rw[hs0] at hit
      refine YT.seq (YT.block (YT.seq (YT.region ?_)))
      show H1 _ _ _ _ _ ([0,1,2]++[3,4]) _ _
      refine H1.tv ((kB2 l v tl ct o).tv Z0 (hrun _) (by rfl)) fun e st hq'=>⟨hq'.1,H1.gst hq'.2 ?_⟩
      rw[D9 (x:=xBkS l v tl ct o) (by rfl) 13]
      refine H1.yieldG (hi:=rfl) rfl rfl rfl rfl rfl rfl rfl ?_ ?_ ?_ rfl (roundMix v tl ct (o.extract 0 64) o h5) ?_ ?_
      · exact fun i=>S6 (by rfl) i
      · exact fun i=>S6 (by rfl) i
      · intro p hp
        have:p∈[21]:=hp
        simp at this
        subst this
        exact(by decide:21 < 198)
      · exact fun e b' h=>.inl h.1
      · intro e b' h
        obtain⟨rfl,rfl⟩:=h
        refine H1.step rfl (H1.nil ?_)
        show YT _ _ _ _ _ _ _
        refine YT.cond (b:=false) rfl (YT.skip ?_)
        show YT _ _ _ _ _ _ _
        refine YT.gst (st':=((xBk l v2 tl ct o).D 13).st) (M3 (xBk l v2 tl ct o) (by rfl) rfl ⟨by rfl,by rfl⟩) ?_
        refine YT.piece (kB1 l v2 tl ct o) Z0 (hrun _) (by rfl) fun s g=>?_
        exact⟨m,Nat.lt_succ_self m,rfl,(v2,o.extract 64 o.size),g,hit⟩
def mfTs:List (Nat×V):=[(3,.ptr 3 0 0),(5,.ptr 5 0 0)]
def mfL(w:W8)(tl:ByteArray)(ct:Int):List (Nat×Blk):=[(3,⟨1,true,[[.ptr 1000000 0 0]]⟩),(1000000,⟨10,true,[mxR w tl ct]⟩)]
def mfL2(w:W8)(tl:ByteArray)(ct:Int)(s:ByteArray):List (Nat×Blk):=[(3,⟨1,true,[[.ptr 1000000 0 0]]⟩),(700070,⟨1,true,[[.str s]]⟩),(1000000,⟨10,true,[mxR w tl ct]⟩)]
def mfT:List BT:=[BT.of 5 J6 1 E1 true]
def xMf(w:W8)(tl:ByteArray)(ct:Int)(s:ByteArray):Ext:=Ext.of .normal (mfTs++[(20,.fn 316 [] [.ptr 700070 0 0])]) (mfL2 w tl ct s) mfT (by rfl)
def eMf(w:W8)(tl:ByteArray)(ct:Int):Ext:=Ext.of .normal mfTs (mfL w tl ct) mfT (by rfl)
theorem sh_rows{α:Type}(ty:Ty α)(l:List α):(List.map ty.c l).map (F0 sh)=List.map ty.c l:=by
 have h:U8 (l.map ty.c):=ty.data l
 have:(⟨0,true,List.map ty.c l⟩:Blk).ren sh=⟨0,true,List.map ty.c l⟩:=U8.ren (k:=⟨0,true,List.map ty.c l⟩) h sh
 have:=congrArg Blk.rows this
 exact this
theorem bsMix(w:W8)(tl:ByteArray)(ct:Int)(s:ByteArray):shB (ofL (xMf w tl ct s).bs)=ofL (mxB w tl ct s):=by
 rw[shB_ofL]
 have:((xMf w tl ct s).bs.map fun p=>(sh p.1,p.2.ren sh))=mxB w tl ct s:=by
  simp only[xMf,Ext.of,mfL2,mfT,List.cons_append,List.nil_append,ξf,List.map_nil,BT.of,Blk.ren,sh_rows]
  kernel_rfl
 rw[this]
theorem loopMix(w:W8)(tl:ByteArray)(ct:Int)(s:ByteArray){r:W8}(h:mixM w tl ct s=some r) :
  TV Tryz.prog GG (.rangeFunc (.tmp 20) #[21] mxAs (rBody mxRn)) ((xMf w tl ct s).D 198).st (fun e st=>e=.normal∧Gst GG st ((eMf r tl ct).D 198).st):=by
 have ht:(fun i=>W5 sh (((xMf w tl ct s).D 198).st.t i))=tOf mxTs:=by
  have:((xMf w tl ct s).D 198).st.t=tOf (xMf w tl ct s).ts:=rfl
  rw[this,tOf_shift]
  have:((xMf w tl ct s).ts.map fun p=>(p.1,W5 sh p.2))=mxTs:=by kernel_rfl
  rw[this]
 have hb:Tryz.f316.body=some cBk:=by kernel_rfl
 refine TV.rangeF (f:=316) (fi:=Tryz.f316) (c:=cBk) (first:=[]) (caps:=[.ptr 1700070 0 0]) (R:=fun e b=>e=.normal∧∃rest,b=ofL (mxB r tl ct rest)) ?_ Tryz.func316 hb (by kernel_rfl) (by kernel_rfl) ?_ (fun i=>?_) ?_ ?_
 ·show some ((fun i=>W5 sh (((xMf w tl ct s).D 198).st.t i)) 20)=_
  rw[ht];rfl
 ·intro b k hk
  obtain⟨q,h1,rfl,_⟩:=find_b (show ofL (xMf w tl ct s).bs b=some k from hk)
  show (((xMf w tl ct s).us).contains q.1 || uTop q.1)=true
  simp only[Ext.us,ζX,ζD,ζF]
  exact .inl (ζt.2 ⟨q,h1,rfl⟩)
 ·have:=congrFun ht i
  rw[show W5 sh (((xMf w tl ct s).D 198).st.t i)=tOf mxTs i from this]
  exact S6 (by rfl) i
 ·have hbb:shB ((xMf w tl ct s).D 198).st.b=ofL (mxB w tl ct s):=bsMix w tl ct s
  rw[ht,hbb]
  have e:max Tryz.f316.ntmps (([]:List V).length+1+[V.ptr 1700070 0 0].length)=13:=by kernel_rfl
  rw[e]
  exact iterMix w tl ct s h
 ·intro e b' ho
  obtain⟨rfl,rest,rfl⟩:=ho
  refine⟨.inl rfl,ofL (xMf r tl ct rest).bs,(bsMix r tl ct rest).symm,?_,rfl,?_⟩
  ·show (G0 198 (xMf w tl ct s).ts (xMf r tl ct rest).bs (xMf w tl ct s).us).known
   refine⟨fun i b hm=>?_,fun i k hk=>?_⟩
   ·have hm':b∈U2 (tOf (xMf w tl ct s).ts i):=hm
    unfold tOf at hm'
    cases hf:(xMf w tl ct s).ts.find? (fun p=>p.1==i) with
    | none=>rw[hf] at hm';simp[U2] at hm'
    | some p=>
     rw[hf] at hm'
     have all:((xMf w tl ct s).ts.all fun p=>(U2 p.2).all fun b=>(xMf w tl ct s).us.contains b)=true:=by rfl
     have:=ζE.1 (ζE.1 all p (ξh hf)) b hm'
     show ((xMf w tl ct s).us.contains b || uTop b)=true
     rw[this];rfl
   ·obtain⟨q,h1,rfl,rfl⟩:=find_b (show ofL (xMf r tl ct rest).bs i=some k from hk)
    have husl:(xMf r tl ct rest).us=(xMf w tl ct s).us:=rfl
    refine⟨?_,fun b hm=>?_⟩
    ·show ((xMf w tl ct s).us.contains q.1 || uTop q.1)=true
     rw[←husl]
     simp only[Ext.us,ζX,ζD,ζF]
     exact .inl (ζt.2 ⟨q,h1,rfl⟩)
    ·have:q∈mfL2 r tl ct rest++mfT.map fun x=>(x.id,x.k):=h1
     rcases ζr.1 this with h2|h2
     ·have all:((mfL2 r tl ct rest).all fun q=>(H7 q.2.rows.flatten).all fun b=>(xMf w tl ct s).us.contains b)=true:=by rfl
      have:=ζE.1 (ζE.1 all q h2) b hm
      show ((xMf w tl ct s).us.contains b || uTop b)=true
      rw[this];rfl
     ·have hdat:=bts_dat _ h2
      rw[hdat.refs] at hm;simp at hm
  ·show Gst GG (G0 198 (xMf w tl ct s).ts (xMf r tl ct rest).bs (xMf w tl ct s).us) _
   exact M3 (eMf r tl ct) (by rfl) rfl ⟨by rfl,by rfl⟩
def subMix(w:W8)(tl:ByteArray)(ct:Int)(s:ByteArray):Sub Tryz.prog GG W8:=
 ⟨.rangeFunc (.tmp 20) #[21] mxAs (rBody mxRn),198,xMf w tl ct s,mixM w tl ct s,fun r=>eMf r tl ct,fun _ h=>loopMix w tl ct s h⟩
structure S8Uint32 where
 a0:Int
 a1:Int
 a2:Int
 a3:Int
 a4:Int
 a5:Int
 a6:Int
 a7:Int
structure SHash where
 fZ:S8Uint32
 ga:ByteArray
 fR:Int
structure SHash1 where
 fq:SHash
structure Q9 where
 fy:Int
 gj:ByteArray
def N3:Ty ByteArray:=⟨fun x=>[.str x],fun x=>[.str x],fun _=>rfl,fun _=>rfl,fun _ _=>rfl,fun _=>rfl⟩
def W0:Ty Int:=⟨fun x=>[.int .u8 x],fun x=>[.int .u8 x],fun _=>rfl,fun _=>rfl,fun _ _=>rfl,fun _=>rfl⟩
def Q7:Ty Q9:=⟨fun x=>[.i x.fy,.str x.gj],fun x=>[.i x.fy,.str x.gj],fun _=>rfl,fun _=>rfl,fun _ _=>rfl,fun _=>rfl⟩
def s235(p0:List ByteArray):Sp (Bool):=.ofFn 235 Z0 Tryz.func235 (show FnD Pg GG [0,2,4,5,6,7,8,13] Tryz.f235 [Sl 1 N3 p0] (.bind2 1 (.lp (fun(l61:Int)=>Ext.l .normal [(2,.bool false),(5,Sl 1 N3 p0),(6,.i (Y9 N3 p0)),(7,.i l61)] []) (fun l61=>.br 0 (decide (l61 < (Y9 N3 p0))) (.row 3001 N3 p0 l61.toNat (decide (0≤l61)) fun x62=>.br 0 (decide ((4096:Int) < (x62.size:Int))) (.fail) (.done (.inl (Q4 (l61+1))))) (.done (.inr (.inr ())))) 0) (fun(e63:Unit)=>Ext.l .ret [(2,.bool true)] []) (fun(e64:Unit)=>Ext.l (.exit 0) [(2,.bool false)] []) (fun _=>.fail) (fun e64=>.done false):TT (Bool)) (fun r=>.bool r) by unfold FnD;kernel_rfl)
def s310(p0:ByteArray):Sp (Unit):=.ofFnB 310 [] Z0 Tryz.func310 rfl (fun _=>rfl) (show FnB Pg GG [0,1,2] Tryz.f310 [.str p0] (Ext.of .normal (U6 [.str p0]) [] [] (by rfl)) (.done ():TT (Unit)) (fun(r:Unit)=>.fn 316 [] [.ptr 1 0 0]) (fun(r:Unit)=>Ext.of .normal [] [(1,⟨1,true,[[.str p0]]⟩)] [] (by rfl)) by unfold FnB;kernel_rfl)
def s290_1(p0:ByteArray)(p1:SHash1):Sp (Int×Int×Int×Int×Int×Int×Int×Int):=.ofFnB 290 [] Z0 Tryz.func290 rfl (fun _=>rfl) (show FnB Pg GG [0,1,2,3,5,6,7,8,9,10,11,12,13,14,15,16,17,18,20,21,22,23,26,97,98,179,180] Tryz.f290 [.ptr ωa 0 0,.str p0,.agg M2] (Ext.of .normal (U6 [.ptr ωa 0 0,.str p0,.agg M2]) [(ωa,⟨10,true,[[.int .u32 p1.fq.fZ.a0,.int .u32 p1.fq.fZ.a1,.int .u32 p1.fq.fZ.a2,.int .u32 p1.fq.fZ.a3,.int .u32 p1.fq.fZ.a4,.int .u32 p1.fq.fZ.a5,.int .u32 p1.fq.fZ.a6,.int .u32 p1.fq.fZ.a7,.str p1.fq.ga,.i p1.fq.fR]]⟩)] [] (by rfl)) (.opr 2 (Rule.boxS (ty:=J6) 292 (.tmp 2) 5 E1 (fun _=>rfl) (by kernel_rfl)) fun _=>.call 1002 (s310 p0) [] [(1,500003)] fun r71=>.gh 1 (.ren 500003 700070) (.sub (subMix (p1.fq.fZ.a0,p1.fq.fZ.a1,p1.fq.fZ.a2,p1.fq.fZ.a3,p1.fq.fZ.a4,p1.fq.fZ.a5,p1.fq.fZ.a6,p1.fq.fZ.a7) p1.fq.ga p1.fq.fR p0) fun r72=>.done (r72.1,r72.2.1,r72.2.2.1,r72.2.2.2.1,r72.q.1,r72.q.2.1,r72.q.2.2.1,r72.q.2.2.2)):TT (Int×Int×Int×Int×Int×Int×Int×Int)) (fun(r:Int×Int×Int×Int×Int×Int×Int×Int)=>.tup []) (fun(r:Int×Int×Int×Int×Int×Int×Int×Int)=>Ext.of .normal [] [(ωa,⟨10,true,[[.int .u32 r.1,.int .u32 r.2.1,.int .u32 r.2.2.1,.int .u32 r.2.2.2.1,.int .u32 r.q.1,.int .u32 r.q.2.1,.int .u32 r.q.2.2.1,.int .u32 r.q.2.2.2,.str p1.fq.ga,.i p1.fq.fR]]⟩)] [] (by rfl)) by unfold FnB;kernel_rfl)
def s291(p0:ByteArray):Sp (ByteArray):=.ofFn 291 Z0 Tryz.func291 (show FnD Pg GG [0,2] Tryz.f291 [.str p0] (.call 1002 (s312 p0) [] [] fun r74=>.done p0:TT (ByteArray)) (fun r=>.str r) by unfold FnD;kernel_rfl)
def s278(p0:ByteArray)(p1:SHash1):Sp (Int×Int×Int×Int×Int×Int×Int×Int×ByteArray×Int):=.ofFnB 278 [] Z0 Tryz.func278 rfl (fun _=>rfl) (show FnB Pg GG [0,1,2,5,6] Tryz.f278 [.ptr ωa 0 0,.str p0,.agg M2] (Ext.of .normal (U6 [.ptr ωa 0 0,.str p0,.agg M2]) [(ωa,⟨10,true,[[.int .u32 p1.fq.fZ.a0,.int .u32 p1.fq.fZ.a1,.int .u32 p1.fq.fZ.a2,.int .u32 p1.fq.fZ.a3,.int .u32 p1.fq.fZ.a4,.int .u32 p1.fq.fZ.a5,.int .u32 p1.fq.fZ.a6,.int .u32 p1.fq.fZ.a7,.str p1.fq.ga,.i p1.fq.fR]]⟩)] [] (by rfl)) (.opr 1 (Rule.boxS (ty:=J6) 292 (.tmp 2) 5 E1 (fun _=>rfl) (by kernel_rfl)) fun _=>.chk 1007 (decide (p1.fq.ga.size+p0.size≤9223372036854775807)) (.opr 2003 (Rule.loadX 292 (.tmp 5) 16 5 ⟨1,true,(List.map J6.c E1)⟩ (.agg M2) (show 1 < W9 by decide) (by kernel_rfl)) fun _=>.call 2004 (s290_1 (p1.fq.ga++p0) (SHash1.mk (SHash.mk (S8Uint32.mk p1.fq.fZ.a0 p1.fq.fZ.a1 p1.fq.fZ.a2 p1.fq.fZ.a3 p1.fq.fZ.a4 p1.fq.fZ.a5 p1.fq.fZ.a6 p1.fq.fZ.a7) p1.fq.ga p1.fq.fR))) [(ωa,ωa)] [] fun r73=>.chk 3007 (decide (0≤(Q4 ((Q4 (Int.tdiv ((p1.fq.ga++p0).size:Int) 64)) * 64)))&&decide ((Q4 ((Q4 (Int.tdiv ((p1.fq.ga++p0).size:Int) 64)) * 64))≤((p1.fq.ga++p0).size:Int))) (.call 3008 (s291 ((p1.fq.ga++p0).extract ((Q4 ((Q4 (Int.tdiv ((p1.fq.ga++p0).size:Int) 64)) * 64)).toNat) ((p1.fq.ga++p0).size))) [] [] fun r75=>.done (r73.1,r73.2.1,r73.2.2.1,r73.2.2.2.1,r73.q.1,r73.q.2.1,r73.q.2.2.1,r73.q.2.2.2,r75,(Q4 (p1.fq.fR+(p0.size:Int)))))):TT (Int×Int×Int×Int×Int×Int×Int×Int×ByteArray×Int)) (fun(r:Int×Int×Int×Int×Int×Int×Int×Int×ByteArray×Int)=>.tup []) (fun(r:Int×Int×Int×Int×Int×Int×Int×Int×ByteArray×Int)=>Ext.of .normal [] [(ωa,⟨10,true,[[.int .u32 r.1,.int .u32 r.2.1,.int .u32 r.2.2.1,.int .u32 r.2.2.2.1,.int .u32 r.q.1,.int .u32 r.q.2.1,.int .u32 r.q.2.2.1,.int .u32 r.q.2.2.2.1,.str r.q.q.1,.i r.q.q.2]]⟩)] [] (by rfl)) by unfold FnB;kernel_rfl)
def s279(p0:SHash1):Sp (ByteArray):=.ofFn 279 Z0 Tryz.func279 (show FnD Pg GG [0,1,2,3,4,5,6,7,8,10,30,46,47,48] Tryz.f279 [.agg [.int .u32 p0.fq.fZ.a0,.int .u32 p0.fq.fZ.a1,.int .u32 p0.fq.fZ.a2,.int .u32 p0.fq.fZ.a3,.int .u32 p0.fq.fZ.a4,.int .u32 p0.fq.fZ.a5,.int .u32 p0.fq.fZ.a6,.int .u32 p0.fq.fZ.a7,.str p0.fq.ga,.i p0.fq.fR],.agg M2] (.opr 2 (Rule.boxS (ty:=J6) 292 (.tmp 1) 3 E1 (fun _=>rfl) (by kernel_rfl)) fun _=>.chk 1004 (decide (p0.fq.ga.size+(bs [128]).size≤9223372036854775807)) (.opr 1011 (Rule.makeD (ty:=W0) (t:=73) (e:=5) (zv:=.int .u8 0) (zc:=.int .u8 0) (0:Int) (.tmp 20) (.tmp 20) 21 (Int.tmod (Q4 ((119:Int) - (p0.fq.ga.size:Int))) 64) (Int.tmod (Q4 ((119:Int) - (p0.fq.ga.size:Int))) 64) 1 (by kernel_rfl) (by kernel_rfl) (by kernel_rfl) rfl ⟨rfl,rfl,rfl⟩ (fun _ _=>by constructor)) fun _=>.opr 1012 (Rule.textOf (ty:=W0) (s:=73) (t:=9) (e:=5) (.tmp 21) 22 21 (List.replicate (Int.tmod (Q4 ((119:Int) - (p0.fq.ga.size:Int))) 64).toNat (0:Int)) ((Int.tmod (Q4 ((119:Int) - (p0.fq.ga.size:Int))) 64).toNat) (by kernel_rfl) (by kernel_rfl) (by kernel_rfl) (by simp) (fun _=>rfl)) fun _=>.chk 1013 (decide ((p0.fq.ga++(bs [128])).size+(strOfNums (List.replicate (Int.tmod (Q4 ((119:Int) - (p0.fq.ga.size:Int))) 64).toNat (0:Int))).size≤9223372036854775807)) (.tt (.chk 6008 (decide (((p0.fq.ga++(bs [128]))++(strOfNums (List.replicate (Int.tmod (Q4 ((119:Int) - (p0.fq.ga.size:Int))) 64).toNat (0:Int)))).size+(strOfNums [(wu8 (Z3 .u64 (Z4 ((Z4 p0.fq.fR) * 8)) 56))]).size≤9223372036854775807)) (.tt (.gh 8 (.drop [38]) (.chk 6008 (decide ((((p0.fq.ga++(bs [128]))++(strOfNums (List.replicate (Int.tmod (Q4 ((119:Int) - (p0.fq.ga.size:Int))) 64).toNat (0:Int))))++(strOfNums [(wu8 (Z3 .u64 (Z4 ((Z4 p0.fq.fR) * 8)) 56))])).size+(strOfNums [(wu8 (Z3 .u64 (Z4 ((Z4 p0.fq.fR) * 8)) 48))]).size≤9223372036854775807)) (.tt (.gh 8 (.drop [38]) (.chk 6008 (decide (((((p0.fq.ga++(bs [128]))++(strOfNums (List.replicate (Int.tmod (Q4 ((119:Int) - (p0.fq.ga.size:Int))) 64).toNat (0:Int))))++(strOfNums [(wu8 (Z3 .u64 (Z4 ((Z4 p0.fq.fR) * 8)) 56))]))++(strOfNums [(wu8 (Z3 .u64 (Z4 ((Z4 p0.fq.fR) * 8)) 48))])).size+(strOfNums [(wu8 (Z3 .u64 (Z4 ((Z4 p0.fq.fR) * 8)) 40))]).size≤9223372036854775807)) (.tt (.gh 8 (.drop [38]) (.chk 6008 (decide ((((((p0.fq.ga++(bs [128]))++(strOfNums (List.replicate (Int.tmod (Q4 ((119:Int) - (p0.fq.ga.size:Int))) 64).toNat (0:Int))))++(strOfNums [(wu8 (Z3 .u64 (Z4 ((Z4 p0.fq.fR) * 8)) 56))]))++(strOfNums [(wu8 (Z3 .u64 (Z4 ((Z4 p0.fq.fR) * 8)) 48))]))++(strOfNums [(wu8 (Z3 .u64 (Z4 ((Z4 p0.fq.fR) * 8)) 40))])).size+(strOfNums [(wu8 (Z3 .u64 (Z4 ((Z4 p0.fq.fR) * 8)) 32))]).size≤9223372036854775807)) (.tt (.gh 8 (.drop [38]) (.chk 6008 (decide (((((((p0.fq.ga++(bs [128]))++(strOfNums (List.replicate (Int.tmod (Q4 ((119:Int) - (p0.fq.ga.size:Int))) 64).toNat (0:Int))))++(strOfNums [(wu8 (Z3 .u64 (Z4 ((Z4 p0.fq.fR) * 8)) 56))]))++(strOfNums [(wu8 (Z3 .u64 (Z4 ((Z4 p0.fq.fR) * 8)) 48))]))++(strOfNums [(wu8 (Z3 .u64 (Z4 ((Z4 p0.fq.fR) * 8)) 40))]))++(strOfNums [(wu8 (Z3 .u64 (Z4 ((Z4 p0.fq.fR) * 8)) 32))])).size+(strOfNums [(wu8 (Z3 .u64 (Z4 ((Z4 p0.fq.fR) * 8)) 24))]).size≤9223372036854775807)) (.tt (.gh 8 (.drop [38]) (.chk 6008 (decide ((((((((p0.fq.ga++(bs [128]))++(strOfNums (List.replicate (Int.tmod (Q4 ((119:Int) - (p0.fq.ga.size:Int))) 64).toNat (0:Int))))++(strOfNums [(wu8 (Z3 .u64 (Z4 ((Z4 p0.fq.fR) * 8)) 56))]))++(strOfNums [(wu8 (Z3 .u64 (Z4 ((Z4 p0.fq.fR) * 8)) 48))]))++(strOfNums [(wu8 (Z3 .u64 (Z4 ((Z4 p0.fq.fR) * 8)) 40))]))++(strOfNums [(wu8 (Z3 .u64 (Z4 ((Z4 p0.fq.fR) * 8)) 32))]))++(strOfNums [(wu8 (Z3 .u64 (Z4 ((Z4 p0.fq.fR) * 8)) 24))])).size+(strOfNums [(wu8 (Z3 .u64 (Z4 ((Z4 p0.fq.fR) * 8)) 16))]).size≤9223372036854775807)) (.tt (.gh 8 (.drop [38]) (.chk 6008 (decide (((((((((p0.fq.ga++(bs [128]))++(strOfNums (List.replicate (Int.tmod (Q4 ((119:Int) - (p0.fq.ga.size:Int))) 64).toNat (0:Int))))++(strOfNums [(wu8 (Z3 .u64 (Z4 ((Z4 p0.fq.fR) * 8)) 56))]))++(strOfNums [(wu8 (Z3 .u64 (Z4 ((Z4 p0.fq.fR) * 8)) 48))]))++(strOfNums [(wu8 (Z3 .u64 (Z4 ((Z4 p0.fq.fR) * 8)) 40))]))++(strOfNums [(wu8 (Z3 .u64 (Z4 ((Z4 p0.fq.fR) * 8)) 32))]))++(strOfNums [(wu8 (Z3 .u64 (Z4 ((Z4 p0.fq.fR) * 8)) 24))]))++(strOfNums [(wu8 (Z3 .u64 (Z4 ((Z4 p0.fq.fR) * 8)) 16))])).size+(strOfNums [(wu8 (Z3 .u64 (Z4 ((Z4 p0.fq.fR) * 8)) 8))]).size≤9223372036854775807)) (.tt (.gh 8 (.drop [38]) (.chk 6008 (decide ((((((((((p0.fq.ga++(bs [128]))++(strOfNums (List.replicate (Int.tmod (Q4 ((119:Int) - (p0.fq.ga.size:Int))) 64).toNat (0:Int))))++(strOfNums [(wu8 (Z3 .u64 (Z4 ((Z4 p0.fq.fR) * 8)) 56))]))++(strOfNums [(wu8 (Z3 .u64 (Z4 ((Z4 p0.fq.fR) * 8)) 48))]))++(strOfNums [(wu8 (Z3 .u64 (Z4 ((Z4 p0.fq.fR) * 8)) 40))]))++(strOfNums [(wu8 (Z3 .u64 (Z4 ((Z4 p0.fq.fR) * 8)) 32))]))++(strOfNums [(wu8 (Z3 .u64 (Z4 ((Z4 p0.fq.fR) * 8)) 24))]))++(strOfNums [(wu8 (Z3 .u64 (Z4 ((Z4 p0.fq.fR) * 8)) 16))]))++(strOfNums [(wu8 (Z3 .u64 (Z4 ((Z4 p0.fq.fR) * 8)) 8))])).size+(strOfNums [(wu8 (Z3 .u64 (Z4 ((Z4 p0.fq.fR) * 8)) 0))]).size≤9223372036854775807)) (.ff (.opr 7002 (Rule.loadX 292 (.tmp 3) 42 3 ⟨1,true,(List.map J6.c E1)⟩ (.agg M2) (show 1 < W9 by decide) (by kernel_rfl)) fun _=>.call 7003 (s290_1 ((((((((((p0.fq.ga++(bs [128]))++(strOfNums (List.replicate (Int.tmod (Q4 ((119:Int) - (p0.fq.ga.size:Int))) 64).toNat (0:Int))))++(strOfNums [(wu8 (Z3 .u64 (Z4 ((Z4 p0.fq.fR) * 8)) 56))]))++(strOfNums [(wu8 (Z3 .u64 (Z4 ((Z4 p0.fq.fR) * 8)) 48))]))++(strOfNums [(wu8 (Z3 .u64 (Z4 ((Z4 p0.fq.fR) * 8)) 40))]))++(strOfNums [(wu8 (Z3 .u64 (Z4 ((Z4 p0.fq.fR) * 8)) 32))]))++(strOfNums [(wu8 (Z3 .u64 (Z4 ((Z4 p0.fq.fR) * 8)) 24))]))++(strOfNums [(wu8 (Z3 .u64 (Z4 ((Z4 p0.fq.fR) * 8)) 16))]))++(strOfNums [(wu8 (Z3 .u64 (Z4 ((Z4 p0.fq.fR) * 8)) 8))]))++(strOfNums [(wu8 (Z3 .u64 (Z4 ((Z4 p0.fq.fR) * 8)) 0))])) p0) [(ωa,2)] [] fun r77=>.gh 1 (.virt ωk 8 1) (.bind 0 (.lp (fun(l79:(List Int)×Int)=>Ext.of .normal [(4,.str ByteArray.empty),(8,Rf ωk l79.1),(46,.agg [.int .u32 r77.1,.int .u32 r77.2.1,.int .u32 r77.2.2.1,.int .u32 r77.2.2.2.1,.int .u32 r77.q.1,.int .u32 r77.q.2.1,.int .u32 r77.q.2.2.1,.int .u32 r77.q.2.2.2]),(47,.i l79.2)] [] [Bt ωk W0 1 l79.1] (by rfl)) (fun l79=>.br 0 (decide (l79.2 < 8)) (.ceq 11001 l79.2 [0,1,2,3,4,5,6,7] (fun v=>bif v==0 then .app 12014 W0 l79.1 [(wu8 (Z3 .u32 r77.1 24)),(wu8 (Z3 .u32 r77.1 16)),(wu8 (Z3 .u32 r77.1 8)),(wu8 r77.1)] 1 false (by intro h;cases h) (.gh 0 (.drop [ωk]) (.gh 0 (.ren 63 ωk) (.done (.inl ((l79.1++[(wu8 (Z3 .u32 r77.1 24)),(wu8 (Z3 .u32 r77.1 16)),(wu8 (Z3 .u32 r77.1 8)),(wu8 r77.1)]),(Q4 (l79.2+1))))))) else bif v==1 then .app 12014 W0 l79.1 [(wu8 (Z3 .u32 r77.2.1 24)),(wu8 (Z3 .u32 r77.2.1 16)),(wu8 (Z3 .u32 r77.2.1 8)),(wu8 r77.2.1)] 1 false (by intro h;cases h) (.gh 0 (.drop [ωk]) (.gh 0 (.ren 63 ωk) (.done (.inl ((l79.1++[(wu8 (Z3 .u32 r77.2.1 24)),(wu8 (Z3 .u32 r77.2.1 16)),(wu8 (Z3 .u32 r77.2.1 8)),(wu8 r77.2.1)]),(Q4 (l79.2+1))))))) else bif v==2 then .app 12014 W0 l79.1 [(wu8 (Z3 .u32 r77.2.2.1 24)),(wu8 (Z3 .u32 r77.2.2.1 16)),(wu8 (Z3 .u32 r77.2.2.1 8)),(wu8 r77.2.2.1)] 1 false (by intro h;cases h) (.gh 0 (.drop [ωk]) (.gh 0 (.ren 63 ωk) (.done (.inl ((l79.1++[(wu8 (Z3 .u32 r77.2.2.1 24)),(wu8 (Z3 .u32 r77.2.2.1 16)),(wu8 (Z3 .u32 r77.2.2.1 8)),(wu8 r77.2.2.1)]),(Q4 (l79.2+1))))))) else bif v==3 then .app 12014 W0 l79.1 [(wu8 (Z3 .u32 r77.2.2.2.1 24)),(wu8 (Z3 .u32 r77.2.2.2.1 16)),(wu8 (Z3 .u32 r77.2.2.2.1 8)),(wu8 r77.2.2.2.1)] 1 false (by intro h;cases h) (.gh 0 (.drop [ωk]) (.gh 0 (.ren 63 ωk) (.done (.inl ((l79.1++[(wu8 (Z3 .u32 r77.2.2.2.1 24)),(wu8 (Z3 .u32 r77.2.2.2.1 16)),(wu8 (Z3 .u32 r77.2.2.2.1 8)),(wu8 r77.2.2.2.1)]),(Q4 (l79.2+1))))))) else bif v==4 then .app 12014 W0 l79.1 [(wu8 (Z3 .u32 r77.q.1 24)),(wu8 (Z3 .u32 r77.q.1 16)),(wu8 (Z3 .u32 r77.q.1 8)),(wu8 r77.q.1)] 1 false (by intro h;cases h) (.gh 0 (.drop [ωk]) (.gh 0 (.ren 63 ωk) (.done (.inl ((l79.1++[(wu8 (Z3 .u32 r77.q.1 24)),(wu8 (Z3 .u32 r77.q.1 16)),(wu8 (Z3 .u32 r77.q.1 8)),(wu8 r77.q.1)]),(Q4 (l79.2+1))))))) else bif v==5 then .app 12014 W0 l79.1 [(wu8 (Z3 .u32 r77.q.2.1 24)),(wu8 (Z3 .u32 r77.q.2.1 16)),(wu8 (Z3 .u32 r77.q.2.1 8)),(wu8 r77.q.2.1)] 1 false (by intro h;cases h) (.gh 0 (.drop [ωk]) (.gh 0 (.ren 63 ωk) (.done (.inl ((l79.1++[(wu8 (Z3 .u32 r77.q.2.1 24)),(wu8 (Z3 .u32 r77.q.2.1 16)),(wu8 (Z3 .u32 r77.q.2.1 8)),(wu8 r77.q.2.1)]),(Q4 (l79.2+1))))))) else bif v==6 then .app 12014 W0 l79.1 [(wu8 (Z3 .u32 r77.q.2.2.1 24)),(wu8 (Z3 .u32 r77.q.2.2.1 16)),(wu8 (Z3 .u32 r77.q.2.2.1 8)),(wu8 r77.q.2.2.1)] 1 false (by intro h;cases h) (.gh 0 (.drop [ωk]) (.gh 0 (.ren 63 ωk) (.done (.inl ((l79.1++[(wu8 (Z3 .u32 r77.q.2.2.1 24)),(wu8 (Z3 .u32 r77.q.2.2.1 16)),(wu8 (Z3 .u32 r77.q.2.2.1 8)),(wu8 r77.q.2.2.1)]),(Q4 (l79.2+1))))))) else bif v==7 then .app 12014 W0 l79.1 [(wu8 (Z3 .u32 r77.q.2.2.2 24)),(wu8 (Z3 .u32 r77.q.2.2.2 16)),(wu8 (Z3 .u32 r77.q.2.2.2 8)),(wu8 r77.q.2.2.2)] 1 false (by intro h;cases h) (.gh 0 (.drop [ωk]) (.gh 0 (.ren 63 ωk) (.done (.inl ((l79.1++[(wu8 (Z3 .u32 r77.q.2.2.2 24)),(wu8 (Z3 .u32 r77.q.2.2.2 16)),(wu8 (Z3 .u32 r77.q.2.2.2 8)),(wu8 r77.q.2.2.2)]),(Q4 (l79.2+1))))))) else .fail)) (.done (.inr l79.1))) ([],0)) (fun(e80:(List Int))=>Ext.of (.exit 2) [(4,.str ByteArray.empty),(8,Rf ωk e80)] [] [Bt ωk W0 1 e80] (by rfl)) (fun e80=>.opr 14002 (Rule.textOf (ty:=W0) (s:=73) (t:=9) (e:=5) (.tmp 65) 66 ωk e80 e80.length (by kernel_rfl) (by kernel_rfl) (by kernel_rfl) (by simp) (fun _=>rfl)) fun _=>.done (strOfNums e80))))))))))))))))))))))))))))):TT (ByteArray)) (fun r=>.str r) by unfold FnD;kernel_rfl)
def s262(p0 p1 p2 p3 p4 p5 p6 p7:Int)(p8:List ByteArray):Sp (ByteArray):=.ofFn 262 Z0 Tryz.func262 (show FnD Pg GG [0,1,2,4,5,7,12,13,14,15] Tryz.f262 [.agg ([.int .u32 p0,.int .u32 p1,.int .u32 p2,.int .u32 p3,.int .u32 p4,.int .u32 p5,.int .u32 p6,.int .u32 p7]++M2),Sl 1 N3 p8] (.bind 1 (.lp (fun(l71:Int×Int×Int×Int×Int×Int×Int×Int×ByteArray×Int×Int)=>Ext.l .normal [(2,.ptr 2 0 0),(4,.str ByteArray.empty),(5,.ptr 5 0 0),(12,Sl 1 N3 p8),(13,.i (Y9 N3 p8)),(14,.i l71.q.q.2.2)] [(2,⟨72,true,[([.int .u32 p0,.int .u32 p1,.int .u32 p2,.int .u32 p3,.int .u32 p4,.int .u32 p5,.int .u32 p6,.int .u32 p7]++M2)]⟩),(5,⟨10,true,[[.int .u32 l71.1,.int .u32 l71.2.1,.int .u32 l71.2.2.1,.int .u32 l71.2.2.2.1,.int .u32 l71.q.1,.int .u32 l71.q.2.1,.int .u32 l71.q.2.2.1,.int .u32 l71.q.2.2.2.1,.str l71.q.q.1,.i l71.q.q.2.1]]⟩)]) (fun l71=>.br 0 (decide (l71.q.q.2.2 < (Y9 N3 p8))) (.row 4001 N3 p8 l71.q.q.2.2.toNat (decide (0≤l71.q.q.2.2)) fun x72=>.call 5004 (s278 x72 (SHash1.mk (SHash.mk (S8Uint32.mk l71.1 l71.2.1 l71.2.2.1 l71.2.2.2.1 l71.q.1 l71.q.2.1 l71.q.2.2.1 l71.q.2.2.2.1) l71.q.q.1 l71.q.q.2.1))) [(ωa,5)] [] fun r74=>.done (.inl (r74.1,r74.2.1,r74.2.2.1,r74.2.2.2.1,r74.q.1,r74.q.2.1,r74.q.2.2.1,r74.q.2.2.2.1,r74.q.q.1,r74.q.q.2,(Q4 (l71.q.q.2.2+1))))) (.done (.inr (l71.1,l71.2.1,l71.2.2.1,l71.2.2.2.1,l71.q.1,l71.q.2.1,l71.q.2.2.1,l71.q.2.2.2.1,l71.q.q.1,l71.q.q.2.1)))) (p0,p1,p2,p3,p4,p5,p6,p7,ByteArray.empty,0,0)) (fun(e75:Int×Int×Int×Int×Int×Int×Int×Int×ByteArray×Int)=>Ext.l (.exit 0) [(2,.ptr 2 0 0),(4,.str ByteArray.empty),(5,.ptr 5 0 0)] [(2,⟨72,true,[([.int .u32 p0,.int .u32 p1,.int .u32 p2,.int .u32 p3,.int .u32 p4,.int .u32 p5,.int .u32 p6,.int .u32 p7]++M2)]⟩),(5,⟨10,true,[[.int .u32 e75.1,.int .u32 e75.2.1,.int .u32 e75.2.2.1,.int .u32 e75.2.2.2.1,.int .u32 e75.q.1,.int .u32 e75.q.2.1,.int .u32 e75.q.2.2.1,.int .u32 e75.q.2.2.2.1,.str e75.q.q.1,.i e75.q.q.2]]⟩)]) (fun e75=>.call 7004 (s279 (SHash1.mk (SHash.mk (S8Uint32.mk e75.1 e75.2.1 e75.2.2.1 e75.2.2.2.1 e75.q.1 e75.q.2.1 e75.q.2.2.1 e75.q.2.2.2.1) e75.q.q.1 e75.q.q.2))) [] [] fun r81=>.done r81):TT (ByteArray)) (fun r=>.str r) by unfold FnD;kernel_rfl)
def s263(p0:Int)(p1:ByteArray):Sp (ByteArray):=.ofFn 263 Z0 Tryz.func263 (show FnD Pg GG [0,1,3,4,5,11,12,13] Tryz.f263 [.int .u8 p0,.snap [.str p1]] (.opr 1001 (Rule.makeNums (ty:=W0) (t:=73) (e:=5) (k:=.u8) (.const (.int .i64 64)) (.const (.int .i64 64)) 6 64 1 (by kernel_rfl) (by kernel_rfl) (by kernel_rfl) (by decide) (fun _=>rfl)) fun _=>.opr 2003 (Rule.copyText (ty:=W0) (dT:=73) (sT:=9) (elem:=5) (.tmp 7) (.tmp 8) 9 6 64 (List.replicate 64 (0:Int)) p1 (by kernel_rfl) (by kernel_rfl) (by simp) (fun _=>rfl) (fun _=>rfl)) fun _=>.bind 1 (.lp (fun(l87:(List Int)×Int)=>Ext.of .normal [(0,.int .u8 p0),(3,.str ByteArray.empty),(4,.ref 6 0 64),(11,.i 64),(12,.i l87.2)] [] [Bt 6 W0 1 l87.1] (by rfl)) (fun l87=>.br 0 (decide (l87.2 < 64)) (.chk 6003 (bD l87.2 64) (.row 6004 W0 l87.1 (0+l87.2.toNat) true fun x88=>.chk 6007 (bD l87.2 64) (.row 6008 W0 l87.1 (0+l87.2.toNat) true fun x89=>.re 6008 (ReW.put 6 1 W0 l87.1 (0+l87.2.toNat) (bXor .u8 x88 p0)) (.done (.inl ((l87.1.set (0+l87.2.toNat) (bXor .u8 x88 p0)),(Q4 (l87.2+1)))))))) (.done (.inr l87.1))) ((over (List.replicate 64 (0:Int)) 0 (Y7 p1)),0)) (fun(e90:(List Int))=>Ext.of (.exit 0) [(3,.str ByteArray.empty),(4,.ref 6 0 64)] [] [Bt 6 W0 1 e90] (by rfl)) (fun e90=>.fact (e90.length=64) inferInstance fun h91=>.opr 8002 (Rule.textOf (ty:=W0) (s:=73) (t:=9) (e:=5) (.tmp 23) 24 6 e90 64 (by kernel_rfl) (by kernel_rfl) (by kernel_rfl) h91 (fun _=>rfl)) fun _=>.done (strOfNums e90)):TT (ByteArray)) (fun r=>.str r) by unfold FnD;kernel_rfl)
def s237(p0 p1 p2 p3 p4 p5 p6 p7:Int)(p8:ByteArray)(p9:List ByteArray):Sp (ByteArray):=.ofFn 237 Z0 Tryz.func237 (show FnD Pg GG [0,1,2,3,4,6,7,10] Tryz.f237 [.agg ([.int .u32 p0,.int .u32 p1,.int .u32 p2,.int .u32 p3,.int .u32 p4,.int .u32 p5,.int .u32 p6,.int .u32 p7]++M2),.str p8,Sl 1 N3 p9] (.bind 0 (.br 0 (decide ((64:Int) < (p8.size:Int))) (.fail) (.done p8)) (fun(e83:ByteArray)=>Ext.l .normal [(2,Sl 1 N3 p9),(3,.ptr 3 0 0),(4,.ptr 4 0 0),(6,.str ByteArray.empty)] [(3,⟨72,true,[([.int .u32 p0,.int .u32 p1,.int .u32 p2,.int .u32 p3,.int .u32 p4,.int .u32 p5,.int .u32 p6,.int .u32 p7]++M2)]⟩),(4,⟨1,true,[[.str e83]]⟩)]) (fun e83=>.view 4003 (s263 92 e83) [] fun r92=>.view 4006 (s263 54 e83) [] fun r93=>.app 4009 N3 [r93] p9 16 true (by intros;rfl) (.view 4010 (s262 p0 p1 p2 p3 p4 p5 p6 p7 ([r93]++p9)) [(VwW.o 24 N3 ([r93]++p9))] fun r94=>.view 4012 (s262 p0 p1 p2 p3 p4 p5 p6 p7 [r92,r94]) [] fun r95=>.done r95)):TT (ByteArray)) (fun r=>.str r) by unfold FnD;kernel_rfl)
def g197(p0 p1:ByteArray):TT (ByteArray×Int):=.view 1004 (s235 [p0,p1]) [] fun r65=>.br 0 r65 (.fail) (.call 3001 s236 [] [] fun r66=>.view 3005 (s237 r66.1 r66.2.1 r66.2.2.1 r66.2.2.2.1 r66.q.1 r66.q.2.1 r66.q.2.2.1 r66.q.2.2.2 p0 [p1]) [] fun r96=>.done (r96,0))
def s197(p0 p1:ByteArray):Sp (ByteArray×Int):=.ofFn 197 Z0 Tryz.func197 (show FnD Pg GG [0,1,4,5,9] Tryz.f197 [.str p0,.str p1] (g197 p0 p1) (fun r=>.tup [.str r.1,.i r.2]) by unfold FnD;kernel_rfl)
def g204(p0 p1:Int):TT (Int):=.done (bOr .i64 (bOr .i64 (bOr .i64 (bOr .i64 (V9 .i64 (Y2 .i64 p1 3968) 2) (V9 .i64 (Y2 .i64 p0 2) 7)) (V9 .i64 (Y2 .i64 p1 112) 1)) (V9 .i64 (Y2 .i64 p0 1) 4)) (Y2 .i64 p1 15))
def s204(p0 p1:Int):Sp (Int):=.ofFn 204 Z0 Tryz.func204 (show FnD Pg GG [0,1,4] Tryz.f204 [.i p0,.i p1] (g204 p0 p1) (fun r=>.int .i64 r) by unfold FnD;kernel_rfl)
def g198(p0 p1:Int):TT (ByteArray×Int):=.cnd 1 [8] (.br 1004 (decide (p0 < 1)) (.done true) (.br 1008 (decide ((7:Int) < p0)) (.done true) (.done (decide (p1 < 0))))) (fun(c97:Bool)=>[.bool c97]) fun c97=>.br 0 c97 (.done (ByteArray.empty,2)) (.chk 3004 (decide ((0:Int)≤(Q4 ((8:Int) * p0)))) (.br 0 ((Z3 .i64 p1 (Q4 ((8:Int) * p0))) != 0) (.done (ByteArray.empty,6)) (.opr 5002 (Rule.makeD (ty:=W0) (t:=73) (e:=5) (zv:=.int .u8 0) (zc:=.int .u8 0) (0:Int) (.tmp 25) (.tmp 25) 26 p0 p0 1 (by kernel_rfl) (by kernel_rfl) (by kernel_rfl) rfl ⟨rfl,rfl,rfl⟩ (fun _ _=>by constructor)) fun _=>.gh 8 (.len 26 ((List.replicate p0.toNat (0:Int)).length) [p0.toNat] (by simp)) (.bind 1 (.lp (fun(l100:(List Int)×Int)=>Ext.of .normal [(0,.i p0),(1,.i p1),(4,.str ByteArray.empty),(5,.i 0),(6,Rf 26 l100.1),(28,.i ((List.replicate p0.toNat (0:Int)).length:Int)),(29,.i l100.2)] [] [Bt 26 W0 1 l100.1] (by rfl)) (fun l100=>.br 0 (decide (l100.2 < ((List.replicate p0.toNat (0:Int)).length:Int))) (.chk 9009 (decide ((0:Int)≤(Q4 ((8:Int) * (Q4 ((Q4 (p0 - 1)) - l100.2)))))) (.chk 9011 (bD l100.2 l100.1.length) (.row 9012 W0 l100.1 (0+l100.2.toNat) true fun x101=>.re 9012 (ReW.put 26 1 W0 l100.1 (0+l100.2.toNat) (wu8 (Z3 .i64 p1 (Q4 ((8:Int) * (Q4 ((Q4 (p0 - 1)) - l100.2))))))) (.gh 12 (.len 26 ((l100.1.set (0+l100.2.toNat) (wu8 (Z3 .i64 p1 (Q4 ((8:Int) * (Q4 ((Q4 (p0 - 1)) - l100.2))))))).length) [l100.1.length] (by simp)) (.done (.inl ((l100.1.set (0+l100.2.toNat) (wu8 (Z3 .i64 p1 (Q4 ((8:Int) * (Q4 ((Q4 (p0 - 1)) - l100.2))))))),(Q4 (l100.2+1))))))))) (.done (.inr l100.1))) ((List.replicate p0.toNat (0:Int)),0)) (fun(e102:(List Int))=>Ext.of (.exit 1) [(4,.str ByteArray.empty),(5,.i 0),(6,Rf 26 e102)] [] [Bt 26 W0 1 e102] (by rfl)) (fun e102=>.opr 11002 (Rule.textOf (ty:=W0) (s:=73) (t:=9) (e:=5) (.tmp 44) 45 26 e102 e102.length (by kernel_rfl) (by kernel_rfl) (by kernel_rfl) (by simp) (fun _=>rfl)) fun _=>.done ((strOfNums e102),0))))))
def s198(p0 p1:Int):Sp (ByteArray×Int):=.ofFn 198 Z0 Tryz.func198 (show FnD Pg GG [0,1,4,5,6,7,8,19,28,29,30] Tryz.f198 [.i p0,.i p1] (g198 p0 p1) (fun r=>.tup [.str r.1,.i r.2]) by unfold FnD;kernel_rfl)
def s281(p0:Int):Sp (Int):=.ofFn 281 Z0 Tryz.func281 (show FnD Pg GG [0,2] Tryz.f281 [.int .u64 p0] (.done (Y2 .i64 (Q4 (Z4 ((Z4 ((Z4 ((Y2 .u64 (Z4 ((Z3 .u64 (Z4 ((Y2 .u64 (Z3 .u64 (Z4 ((Y2 .u64 (Z3 .u64 p0 1) 6148914691236517205)+(Y2 .u64 p0 6148914691236517205))) 2) 3689348814741910323)+(Y2 .u64 (Z4 ((Y2 .u64 (Z3 .u64 p0 1) 6148914691236517205)+(Y2 .u64 p0 6148914691236517205))) 3689348814741910323))) 4)+(Z4 ((Y2 .u64 (Z3 .u64 (Z4 ((Y2 .u64 (Z3 .u64 p0 1) 6148914691236517205)+(Y2 .u64 p0 6148914691236517205))) 2) 3689348814741910323)+(Y2 .u64 (Z4 ((Y2 .u64 (Z3 .u64 p0 1) 6148914691236517205)+(Y2 .u64 p0 6148914691236517205))) 3689348814741910323))))) 1085102592571150095)+(Z3 .u64 (Y2 .u64 (Z4 ((Z3 .u64 (Z4 ((Y2 .u64 (Z3 .u64 (Z4 ((Y2 .u64 (Z3 .u64 p0 1) 6148914691236517205)+(Y2 .u64 p0 6148914691236517205))) 2) 3689348814741910323)+(Y2 .u64 (Z4 ((Y2 .u64 (Z3 .u64 p0 1) 6148914691236517205)+(Y2 .u64 p0 6148914691236517205))) 3689348814741910323))) 4)+(Z4 ((Y2 .u64 (Z3 .u64 (Z4 ((Y2 .u64 (Z3 .u64 p0 1) 6148914691236517205)+(Y2 .u64 p0 6148914691236517205))) 2) 3689348814741910323)+(Y2 .u64 (Z4 ((Y2 .u64 (Z3 .u64 p0 1) 6148914691236517205)+(Y2 .u64 p0 6148914691236517205))) 3689348814741910323))))) 1085102592571150095) 8)))+(Z3 .u64 (Z4 ((Y2 .u64 (Z4 ((Z3 .u64 (Z4 ((Y2 .u64 (Z3 .u64 (Z4 ((Y2 .u64 (Z3 .u64 p0 1) 6148914691236517205)+(Y2 .u64 p0 6148914691236517205))) 2) 3689348814741910323)+(Y2 .u64 (Z4 ((Y2 .u64 (Z3 .u64 p0 1) 6148914691236517205)+(Y2 .u64 p0 6148914691236517205))) 3689348814741910323))) 4)+(Z4 ((Y2 .u64 (Z3 .u64 (Z4 ((Y2 .u64 (Z3 .u64 p0 1) 6148914691236517205)+(Y2 .u64 p0 6148914691236517205))) 2) 3689348814741910323)+(Y2 .u64 (Z4 ((Y2 .u64 (Z3 .u64 p0 1) 6148914691236517205)+(Y2 .u64 p0 6148914691236517205))) 3689348814741910323))))) 1085102592571150095)+(Z3 .u64 (Y2 .u64 (Z4 ((Z3 .u64 (Z4 ((Y2 .u64 (Z3 .u64 (Z4 ((Y2 .u64 (Z3 .u64 p0 1) 6148914691236517205)+(Y2 .u64 p0 6148914691236517205))) 2) 3689348814741910323)+(Y2 .u64 (Z4 ((Y2 .u64 (Z3 .u64 p0 1) 6148914691236517205)+(Y2 .u64 p0 6148914691236517205))) 3689348814741910323))) 4)+(Z4 ((Y2 .u64 (Z3 .u64 (Z4 ((Y2 .u64 (Z3 .u64 p0 1) 6148914691236517205)+(Y2 .u64 p0 6148914691236517205))) 2) 3689348814741910323)+(Y2 .u64 (Z4 ((Y2 .u64 (Z3 .u64 p0 1) 6148914691236517205)+(Y2 .u64 p0 6148914691236517205))) 3689348814741910323))))) 1085102592571150095) 8))) 16)))+(Z3 .u64 (Z4 ((Z4 ((Y2 .u64 (Z4 ((Z3 .u64 (Z4 ((Y2 .u64 (Z3 .u64 (Z4 ((Y2 .u64 (Z3 .u64 p0 1) 6148914691236517205)+(Y2 .u64 p0 6148914691236517205))) 2) 3689348814741910323)+(Y2 .u64 (Z4 ((Y2 .u64 (Z3 .u64 p0 1) 6148914691236517205)+(Y2 .u64 p0 6148914691236517205))) 3689348814741910323))) 4)+(Z4 ((Y2 .u64 (Z3 .u64 (Z4 ((Y2 .u64 (Z3 .u64 p0 1) 6148914691236517205)+(Y2 .u64 p0 6148914691236517205))) 2) 3689348814741910323)+(Y2 .u64 (Z4 ((Y2 .u64 (Z3 .u64 p0 1) 6148914691236517205)+(Y2 .u64 p0 6148914691236517205))) 3689348814741910323))))) 1085102592571150095)+(Z3 .u64 (Y2 .u64 (Z4 ((Z3 .u64 (Z4 ((Y2 .u64 (Z3 .u64 (Z4 ((Y2 .u64 (Z3 .u64 p0 1) 6148914691236517205)+(Y2 .u64 p0 6148914691236517205))) 2) 3689348814741910323)+(Y2 .u64 (Z4 ((Y2 .u64 (Z3 .u64 p0 1) 6148914691236517205)+(Y2 .u64 p0 6148914691236517205))) 3689348814741910323))) 4)+(Z4 ((Y2 .u64 (Z3 .u64 (Z4 ((Y2 .u64 (Z3 .u64 p0 1) 6148914691236517205)+(Y2 .u64 p0 6148914691236517205))) 2) 3689348814741910323)+(Y2 .u64 (Z4 ((Y2 .u64 (Z3 .u64 p0 1) 6148914691236517205)+(Y2 .u64 p0 6148914691236517205))) 3689348814741910323))))) 1085102592571150095) 8)))+(Z3 .u64 (Z4 ((Y2 .u64 (Z4 ((Z3 .u64 (Z4 ((Y2 .u64 (Z3 .u64 (Z4 ((Y2 .u64 (Z3 .u64 p0 1) 6148914691236517205)+(Y2 .u64 p0 6148914691236517205))) 2) 3689348814741910323)+(Y2 .u64 (Z4 ((Y2 .u64 (Z3 .u64 p0 1) 6148914691236517205)+(Y2 .u64 p0 6148914691236517205))) 3689348814741910323))) 4)+(Z4 ((Y2 .u64 (Z3 .u64 (Z4 ((Y2 .u64 (Z3 .u64 p0 1) 6148914691236517205)+(Y2 .u64 p0 6148914691236517205))) 2) 3689348814741910323)+(Y2 .u64 (Z4 ((Y2 .u64 (Z3 .u64 p0 1) 6148914691236517205)+(Y2 .u64 p0 6148914691236517205))) 3689348814741910323))))) 1085102592571150095)+(Z3 .u64 (Y2 .u64 (Z4 ((Z3 .u64 (Z4 ((Y2 .u64 (Z3 .u64 (Z4 ((Y2 .u64 (Z3 .u64 p0 1) 6148914691236517205)+(Y2 .u64 p0 6148914691236517205))) 2) 3689348814741910323)+(Y2 .u64 (Z4 ((Y2 .u64 (Z3 .u64 p0 1) 6148914691236517205)+(Y2 .u64 p0 6148914691236517205))) 3689348814741910323))) 4)+(Z4 ((Y2 .u64 (Z3 .u64 (Z4 ((Y2 .u64 (Z3 .u64 p0 1) 6148914691236517205)+(Y2 .u64 p0 6148914691236517205))) 2) 3689348814741910323)+(Y2 .u64 (Z4 ((Y2 .u64 (Z3 .u64 p0 1) 6148914691236517205)+(Y2 .u64 p0 6148914691236517205))) 3689348814741910323))))) 1085102592571150095) 8))) 16))) 32)))) 127):TT (Int)) (fun r=>.int .i64 r) by unfold FnD;kernel_rfl)
def s265(p0:Int):Sp (Int):=.ofFn 265 Z0 Tryz.func265 (show FnD Pg GG [0,2] Tryz.f265 [.int .u64 p0] (.ff (.call 2002 (s281 p0) [] [] fun r103=>.done r103):TT (Int)) (fun r=>.int .i64 r) by unfold FnD;kernel_rfl)
def s239(p0:Int):Sp (Bool):=.ofFn 239 Z0 Tryz.func239 (show FnD Pg GG [0,2] Tryz.f239 [.i p0] (.cnd 1 [2] (.br 1004 (decide ((1:Int)≤p0)) (.br 1008 (decide (p0≤8)) (.call 1010 (s265 (Z4 p0)) [] [] fun r104=>.done (r104==1)) (.done false)) (.done false)) (fun(c105:Bool)=>[.bool c105]) fun c105=>.done c105:TT (Bool)) (fun r=>.bool r) by unfold FnD;kernel_rfl)
def g205(p0:ByteArray)(p1:Int):TT (ByteArray×Int):=.call 1002 (s239 p1) [] [] fun r106=>.br 0 (!r106) (.done (ByteArray.empty,2)) (.opr 3002 (Rule.octets (ty:=W0) (s:=9) (t:=73) (e:=5) (.tmp 10) 11 p0 (by kernel_rfl) (by kernel_rfl) (by kernel_rfl) (by kernel_rfl) (fun _=>rfl)) fun _=>.gh 1 (.ren 11 600015) (.bind 0 (.lp (fun(l108:(List Int))=>Ext.of .normal [(1,.i p1),(4,.str ByteArray.empty),(5,.i 0),(6,Rf 600015 l108)] [] [Bt 600015 W0 1 l108] (by rfl)) (fun l108=>.chk 4004 (!(p1==0)) (.br 0 ((Int.tmod (l108.length:Int) p1) != 0) (.app 5003 W0 l108 [0] 1 false (by intro h;cases h) (.gh 0 (.drop [600015]) (.gh 0 (.ren 19 600015) (.done (.inl (l108++[0])))))) (.done (.inr l108)))) (Y7 p0)) (fun(e109:(List Int))=>Ext.of (.exit 0) [(4,.str ByteArray.empty),(5,.i 0),(6,Rf 600015 e109)] [] [Bt 600015 W0 1 e109] (by rfl)) (fun e109=>.opr 6002 (Rule.textOf (ty:=W0) (s:=73) (t:=9) (e:=5) (.tmp 20) 21 600015 e109 e109.length (by kernel_rfl) (by kernel_rfl) (by kernel_rfl) (by simp) (fun _=>rfl)) fun _=>.done ((strOfNums e109),0))))
def s205(p0:ByteArray)(p1:Int):Sp (ByteArray×Int):=.ofFn 205 Z0 Tryz.func205 (show FnD Pg GG [0,1,4,5,6,9,16] Tryz.f205 [.str p0,.i p1] (g205 p0 p1) (fun r=>.tup [.str r.1,.i r.2]) by unfold FnD;kernel_rfl)
def g193(p0:List Q9):TT (Int):=.bind 1 (.lp (fun(l112:Int×Int)=>Ext.l .normal [(2,.i 0),(3,.i l112.1),(6,Sl 2 Q7 p0),(7,.i (Y9 Q7 p0)),(8,.i l112.2)] []) (fun l112=>.br 0 (decide (l112.2 < (Y9 Q7 p0))) (.row 4001 Q7 p0 l112.2.toNat (decide (0≤l112.2)) fun x113=>.done (.inl ((Q4 (l112.1+(Q4 ((4:Int)+(Q4 ((Q4 (Int.tdiv (Q4 ((x113.gj.size:Int)+3)) 4)) * 4)))))),(Q4 (l112.2+1))))) (.done (.inr l112.1))) (0,0)) (fun(e114:Int)=>Ext.l (.exit 0) [(2,.i 0),(3,.i e114)] []) (fun e114=>.done e114)
def s193(p0:List Q9):Sp (Int):=.ofFn 193 Z0 Tryz.func193 (show FnD Pg GG [0,2,3,5,6,7,8,9] Tryz.f193 [Sl 2 Q7 p0] (g193 p0) (fun r=>.int .i64 r) by unfold FnD;kernel_rfl)
end Go.Proofs.YtjpahkpfkohfkaaGreatDoor
namespace Go.Proofs.YtjpahkpfkohfkaaGreatDoor
open Go Go.RowKit
theorem bInfo5:(Tryz.prog.info? 5).map (fun i=>(i.zero,i.size,i.bytes))=some (some (.int .u8 0),1,1):=by kernel_rfl
theorem bSizeB:∃j,Tryz.prog.info? 264=some j∧j.size=2:=by
 have h:(Tryz.prog.info? 264).map (·.size)=some 2:=by kernel_rfl
 obtain⟨j,h1,h2⟩:=ζb.1 h
 exact⟨j,h1,h2⟩
theorem bLies:liesAt Tryz.prog Tryz.prog.depth 266 (2 / Tryz.prog.cellsOf 266) 0 264 1=true:=by kernel_rfl
theorem bCells:Tryz.prog.cellsOf 5=1:=by kernel_rfl
set_option maxHeartbeats 1000000 in
set_option maxRecDepth 100000 in
theorem bCcUsed(b:Nat)(w:World)(h0:w.cell? ⟨b,0,none⟩=some (.pointer (some ⟨b,0,none⟩))) :
  Calls Tryz.prog 238 #[.pointer (some ⟨b,0,none⟩)] w fun e w'=>e=.returned (.tuple #[])∧w'=w:=by
 obtain⟨j,hj,_⟩:=bSizeB
 go_enter Tryz.func238,Tryz.ntmps238
 go_wp2
 rw[Lib.run_neq_ptr_same w _ Tryz.underlying262 hj]
 go_wp2
 go_end0
 exact⟨rfl,rfl⟩
set_option maxHeartbeats 1000000 in
set_option maxRecDepth 100000 in
theorem bCcFresh(b:Nat)(w:World)(h0:w.cell? ⟨b,0,none⟩=some (.pointer none))(hsh:w.shape? b=some (266,2))(hfz:w.frozen? ⟨b,0,none⟩=false) :
  Calls Tryz.prog 238 #[.pointer (some ⟨b,0,none⟩)] w fun e w'=>e=.returned (.tuple #[])∧w'=w.setCell ⟨b,0,none⟩ (.pointer (some ⟨b,0,none⟩)):=by
 obtain⟨j,hj,hjs⟩:=bSizeB
 go_enter Tryz.func238,Tryz.ntmps238
 go_wp2
 rw[Lib.run_to_unsafe w ⟨b,0,none⟩ Tryz.underlying262 Tryz.underlying324 hj (by rw[hjs];decide) hsh (Nat.zero_lt_succ 1)]
 simp only[Result.andThen]
 rw[Oper.upon_value]
 go_wp2
 rw[run_callFunc_extern Tryz.func264 (by kernel_rfl) (by kernel_rfl) (by kernel_rfl) (e:=Extern.AbiNoEscape.same) (by kernel_rfl)]
 rw[Lib.run_noEscape]
 simp only[Result.andThen]
 rw[Oper.upon_value]
 go_wp2
 rw[Lib.run_from_unsafe w ⟨b,0,none⟩ Tryz.underlying324 Tryz.underlying262 hj hsh bLies]
 simp only[Result.andThen]
 rw[Oper.upon_value]
 go_wp2
 go_end0
 exact⟨rfl,rfl⟩
def Kept(b:Nat)(w w':World):Prop:=∀k cs e fz,k≠b→e≠5→w.heap[k]?=some (.cells cs e fz)→w'.heap[k]?=some (.cells cs e fz)
theorem Kept.refl(b:Nat)(w:World):Kept b w w:=fun _ _ _ _ _ _ h=>h
theorem Kept.trans{b:Nat}{w w1 w2:World}(h:Kept b w w1)(k:Kept b w1 w2):Kept b w w2:=fun i cs e fz h1 h2 h3=>k i cs e fz h1 h2 (h i cs e fz h1 h2 h3)
theorem Kept.below{b:Nat}{w w':World}(h:Below w.heap.size w w'):Kept b w w':=fun i _ _ _ _ _ h3=>(h.block i (ζf.1 h3).1).trans h3
theorem Kept.setCell{b:Nat}{w w':World}(h:Kept b w w')(o:Nat)(v:Value):Kept b w (w'.setCell ⟨b,o,none⟩ v):=fun i cs e fz h1 h2 h3=>by
 have h4:=h i cs e fz h1 h2 h3
 have hne:b≠i:=fun e'=>h1 e'.symm
 show (w'.heap.modify b _)[i]?=_
 rw[Array.getElem?_modify,if_neg hne]
 exact h4
theorem bCc(B b:Nat)(bs:List Value)(w:World)(h:Lib.IsBuilder 266 5 B b bs w) :
  Calls Tryz.prog 238 #[.pointer (some ⟨b,0,none⟩)] w fun e w'=>e=.returned (.tuple #[])∧(Lib.BuilderAt 266 5 B b (.pointer (some ⟨b,0,none⟩)) bs w'∧Below B w w'∧Kept b w w'):=by
 rcases h with h|h
 ·refine(bCcFresh b w h.cell0 h.shape h.frozen0).mono ?_
  rintro e w' ⟨rfl,rfl⟩
  exact⟨rfl,h.used _,(Below.refl B w).setCell (p:=⟨b,0,none⟩) h.1 _,(Kept.refl b w).setCell _ _⟩
 ·refine(bCcUsed b w h.cell0).mono ?_
  rintro e w' ⟨rfl,rfl⟩
  exact⟨rfl,h,Below.refl B _,Kept.refl b _⟩
set_option maxHeartbeats 2000000 in
set_option maxRecDepth 100000 in
theorem bWs(B b:Nat)(bs:List Value)(s:ByteArray)(w:World)(h:Lib.IsBuilder 266 5 B b bs w)(hlen:bs.length+s.size≤140737488355328)(hBw:B≤w.heap.size) :
  Calls Tryz.prog 202 #[.pointer (some ⟨b,0,none⟩),.string s] w fun e w'=>e=.returned (.tuple #[.int .i64 s.size,.nilIface])∧(Lib.BuilderAt 266 5 B b (.pointer (some ⟨b,0,none⟩)) (bs++Lib.strCells s) w'∧Below B w w'∧Kept b w w'):=by
 obtain⟨i0,hi,hz0,hz1,hz2⟩:=info_parts bInfo5
 go_enter Tryz.func202,Tryz.ntmps202
 go_wp2_with (go_at_call 238;refine(bCc B b bs _ h).mono ?_)
 rintro e w1 ⟨rfl,h1,hb1,hk1⟩
 obtain⟨hB,v,hbk,hown,hne⟩:=h1
 have c0:w1.cell? ⟨b,0,none⟩=some (.pointer (some ⟨b,0,none⟩)):=by rw[Lib.cell_of_heap hbk];rfl
 have c1:w1.cell? ⟨b,1,none⟩=some v:=by rw[Lib.cell_of_heap hbk];rfl
 go_wp2_with (at_builtin;refine Lib.wpList_append_own_string _ rfl _ _ 73 9 rfl B 5 i0 Tryz.underlying73 Tryz.underlying9 hi hz0 hz1 hz2 _ _ _ rfl hown s rfl ?c3 ?c4 ?c5 ?_)
 case c3=>unfold maxLen;omega
 case c4=>omega
 case c5=>have:=hb1.size;omega
 intro v' w2 hown' hgrow _
 have hlt:b < w1.heap.size:=(ζf.1 hbk).1
 have hb2:w2.heap[b]?=some (.cells #[.pointer (some ⟨b,0,none⟩),v] 266 (0,0)):=by
  rw[hgrow.block b hlt (fun e=>hne e.symm)]
  exact hbk
 have d0:w2.cell? ⟨b,0,none⟩=some (.pointer (some ⟨b,0,none⟩)):=by rw[Lib.cell_of_heap hb2];rfl
 have d1:w2.cell? ⟨b,1,none⟩=some v:=by rw[Lib.cell_of_heap hb2];rfl
 have f1:w2.frozen? ⟨b,1,none⟩=false:=Lib.frozen_of_heap hb2 1
 obtain⟨ao,n',cap,rfl⟩:∃ao n' cap,v'=.slice ao n' cap:=by
  rcases hown'.2 with⟨hv,_⟩|⟨g,cap,cur,hv,_⟩
  ·exact⟨_,_,_,hv⟩
  ·exact⟨_,_,_,hv⟩
 go_wp2
 go_ret2
 have hk2:Kept b w1 w2:=fun i cs e fz h1 h2 h3=>by
  refine(hgrow.block i (ζf.1 h3).1 fun e'=>?_).trans h3
  rcases hown.2 with⟨hv,_⟩|⟨g,_,_,hv,_,hg,_⟩
  ·rw[hv] at e';cases e'
  ·rw[hv] at e'
   obtain rfl:g=i:=(ζR e').symm
   rw[hg] at h3
   simp only[ζa,Obj.cells.injEq] at h3
   exact h2 h3.2.1.symm
 refine⟨rfl,?_,?_,(hk1.trans hk2).setCell _ _⟩
 ·exact Lib.BuilderAt.put (T:=266) (e:=5) hB hb2 (bs':=bs++Lib.strCells s) (by simpa[Lib.strCells_length] using hown') (by decide)
 ·exact(hb1.grown hgrow (by have:=hb1.size;omega) (fun k hk=>(hown.lt k hk).1)).setCell (p:=⟨b,1,none⟩) hB _
set_option maxHeartbeats 1000000 in
set_option maxRecDepth 100000 in
theorem bStr(B b:Nat)(l:List UInt8)(w:World)(h:Lib.IsBuilder 266 5 B b (Lib.byteCells l) w)(h0:l≠[]) :
  Calls Tryz.prog 206 #[.pointer (some ⟨b,0,none⟩)] w fun e w'=>e=.returned (.string ⟨l.toArray⟩)∧Below B w w':=by
 obtain⟨p,hB,v,hbk,hown,hne⟩:∃p,Lib.BuilderAt 266 5 B b p (Lib.byteCells l) w:=by
  rcases h with h|h
  ·exact⟨_,h⟩
  ·exact⟨_,h⟩
 have hl0:l.length≠0:=by simpa using h0
 rw[Lib.byteCells_length] at hown
 obtain⟨g,cap,cur,rfl,hbg,hg,hnc,hcm,hcs,htake⟩:∃g cap cur,v=.slice (some ⟨g,0,none⟩) l.length cap∧B≤g∧w.heap[g]?=some (.cells cur 5 (0,0))∧l.length≤cap∧cap≤maxLen∧cur.size=cap * 1∧cur.toList.take (l.length * 1)=Lib.byteCells l:=by
  rcases hown.2 with⟨_,hz⟩|⟨g,cap,cur,hv,r⟩
  ·exact absurd hz hl0
  ·exact⟨g,cap,cur,hv,r⟩
 have c1:w.drew.cell? ⟨b,1,none⟩=some (.slice (some ⟨g,0,none⟩) l.length cap):=by
  have:w.drew.heap[b]?=some (.cells #[p,.slice (some ⟨g,0,none⟩) l.length cap] 266 (0,0)):=hbk
  rw[Lib.cell_of_heap this];rfl
 have hSD:(Builtin.unsafeSliceData_ #[73] 298 #[.slice (some ⟨g,0,none⟩) l.length cap]).run Tryz.prog w.drew=.ok (.pointer (some ⟨g,0,none⟩)) w.drew:=
  Lib.run_unsafeSliceData_row _ _ _ _ _ _ (by omega)
 have hUS:(Builtin.unsafeString_ #[298,3] 9 #[.pointer (some ⟨g,0,none⟩),.int .i64 l.length]).run Tryz.prog w.drew=.ok (.string ⟨l.toArray⟩) (w.drew.freeze ⟨g,0,none⟩ l.length):=by
  refine Lib.run_unsafeString_row w.drew 298 3 9 5 Tryz.underlying298 bCells g cur.size (by have hg':w.drew.heap[g]?=some (.cells cur 5 (0,0)):=hg;simp[World.shape?,hg']) l h0 (by omega) (by unfold maxLen at hcm;omega) ?_
  intro j x hx
  have:=hown.cells (g:=g) rfl j (.int .u8 x.toNat) (by simp[Lib.byteCells,hx])
  exact this
 have Z0:Tryz.prog.follows .mixedOrders=true:=by kernel_rfl
 go_enter Tryz.func206,Tryz.ntmps206
 go_wp2
 go_region_o
 all_goals (go_wp2;go_ret;exact⟨rfl,Lib.below_freeze (Below.drew (Below.refl B w)) (p:=⟨g,0,none⟩) hbg _⟩)
end Go.Proofs.YtjpahkpfkohfkaaGreatDoor
namespace Go.Proofs.YtjpahkpfkohfkaaGreatDoor
open Go Go.EV Go.RowKit
def GOK(w:World):Prop:=∃γ,S9 GG γ w
theorem GOK.below{w w':World}(h:GOK w)(b:Below w.heap.size w w'):GOK w':=by
 obtain⟨γ,h⟩:=h
 exact⟨γ,h.grow (Grow.below b)⟩
theorem calls_of{f:FuncId}{args:List V}{res:V}(h:CallC Tryz.prog GG f args (ofL []) res (ofL []))(hd:dataL args=true){γ:Gh}{w:World}{xs:Array Value}(hg:S9 GG γ w)(ha:J8 γ w (ofL []) uTop args xs) :
  Calls Tryz.prog f xs w fun e w'=>∃v γ',e=.returned v∧Rep γ' w' (ofL []) (fun _=>true) res v∧Below w.heap.size w w':=by
 let γs:Gh:={ loc:=fun _=>none,own:=fun _=>none,lim:=γ.lim }
 have ha':J8 γs w (ofL []) uTop args xs:=⟨ha.1,fun i c v hc hv=>Rep.dataMono (γ:=γ) (γ':=γs) (fun B o v h1 h2=>⟨h1,h2⟩) (ha.2 i c v hc hv) (T7 hd hc)⟩
 refine(h γs w xs (fun i cells hi=>(hg i cells hi).mono fun B o v h1 h2=>⟨h1,h2⟩) (fun B x hx=>by simp[γs] at hx) ha' (fun b k hk=>by simp[ofL] at hk)).mono fun e w' hp=>?_
 obtain⟨v,γe,rfl,hr,_,hrep,_,_⟩:=hp
 exact⟨v,γe,rfl,hrep,hr.os,hr.tape,hr.output,hr.size,fun B hB=>(hr.free B hB rfl).1⟩
theorem args_ii(γ:Gh)(w:World)(a b:Int):J8 γ w (ofL []) uTop [.int .i64 a,.int .i64 b] #[.int .i64 a,.int .i64 b]:=by
 refine⟨rfl,fun i c v hc hv=>?_⟩
 match i,hc,hv with
 | 0,hc,hv=>simp at hc hv;subst hc;subst hv;exact .data (.int _ _)
 | 1,hc,hv=>simp at hc hv;subst hc;subst hv;exact .data (.int _ _)
theorem args_si(γ:Gh)(w:World)(a:ByteArray)(b:Int):J8 γ w (ofL []) uTop [.str a,.int .i64 b] #[.string a,.int .i64 b]:=by
 refine⟨rfl,fun i c v hc hv=>?_⟩
 match i,hc,hv with
 | 0,hc,hv=>simp at hc hv;subst hc;subst hv;exact .data (.str _)
 | 1,hc,hv=>simp at hc hv;subst hc;subst hv;exact .data (.int _ _)
theorem rep_si{γ:Gh}{w:World}{s:ByteArray}{n:Int}{v:Value}(h:Rep γ w (ofL []) (fun _=>true) (.tup [.str s,.int .i64 n]) v):v=.tuple #[.string s,.int .i64 n]:=by
 obtain⟨vs,rfl,h1,h2⟩:=h.tup_inv
 match vs,h1 with
 | [x,y],_=>
  have hx:=(h2 0 _ x rfl rfl).str_inv
  have hy:=(h2 1 _ y rfl rfl).int_inv
  subst hx;subst hy;rfl
theorem wPut(n v:Int){r:ByteArray×Int}(h:(g198 n v).run=some r)(w:World)(hG:GOK w) :
  Calls Tryz.prog 198 #[.int .i64 n,.int .i64 v] w fun e w'=>e=.returned (.tuple #[.string r.1,.int .i64 r.2])∧Below w.heap.size w w':=by
 obtain⟨γ0,hg⟩:=hG
 exact(calls_of ((s198 n v).ok r h) rfl hg (args_ii γ0 w n v)).mono fun e w' hp=>by
  obtain⟨x,γ,rfl,hr,hb⟩:=hp
  rw[rep_si hr];exact⟨rfl,hb⟩
theorem wPad(s:ByteArray)(n:Int){r:ByteArray×Int}(h:(g205 s n).run=some r)(w:World)(hG:GOK w) :
  Calls Tryz.prog 205 #[.string s,.int .i64 n] w fun e w'=>e=.returned (.tuple #[.string r.1,.int .i64 r.2])∧Below w.heap.size w w':=by
 obtain⟨γ0,hg⟩:=hG
 exact(calls_of ((s205 s n).ok r h) rfl hg (args_si γ0 w s n)).mono fun e w' hp=>by
  obtain⟨x,γ,rfl,hr,hb⟩:=hp
  rw[rep_si hr];exact⟨rfl,hb⟩
theorem wKind(n v:Int){r:Int}(h:(g204 n v).run=some r)(w:World)(hG:GOK w) :
  Calls Tryz.prog 204 #[.int .i64 n,.int .i64 v] w fun e w'=>e=.returned (.int .i64 r)∧Below w.heap.size w w':=by
 obtain⟨γ0,hg⟩:=hG
 exact(calls_of ((s204 n v).ok r h) rfl hg (args_ii γ0 w n v)).mono fun e w' hp=>by
  obtain⟨x,γ,rfl,hr,hb⟩:=hp
  have:x=.int .i64 r:=hr.int_inv
  rw[this];exact⟨rfl,hb⟩
theorem wSize{γ:Gh}{w:World}(l:List Q9){v:Value}(hg:S9 GG γ w)(hv:Rep γ w (ofL []) uTop (.sl false 2 (List.map Q7.c l)) v){r:Int}(h:(g193 l).run=some r) :
  Calls Tryz.prog 193 #[v] w fun e w'=>e=.returned (.int .i64 r)∧Below w.heap.size w w':=
 (calls_of (args:=[.sl false 2 (List.map Q7.c l)]) ((s193 l).ok r h) rfl hg ⟨rfl,fun i c x hc hx=>by
  match i,hc,hx with
  | 0,hc,hx=>simp at hc hx;subst hc;subst hx;exact hv⟩).mono fun e w' hp=>by
  obtain⟨x,γ,rfl,hr,hb⟩:=hp
  have:x=.int .i64 r:=hr.int_inv
  rw[this];exact⟨rfl,hb⟩
theorem bld_below{T e:TypeId}{B b:Nat}{bs:List Value}{w w':World}(h:Lib.IsBuilder T e B b bs w)(k:Below w.heap.size w w'):Lib.IsBuilder T e B b bs w':=by
 have key:∀p,Lib.BuilderAt T e B b p bs w→Lib.BuilderAt T e B b p bs w':=fun p h=>by
  obtain⟨hB,v,hb,hown,hne⟩:=h
  refine⟨hB,v,(k.block b (ζf.1 hb).1).trans hb,⟨hown.1,?_⟩,hne⟩
  rcases hown.2 with h2|⟨g,cap,cur,h1,h2,h3,h4⟩
  ·exact .inl h2
  ·exact .inr ⟨g,cap,cur,h1,h2,(k.block g (ζf.1 h3).1).trans h3,h4⟩
 exact h.imp (key _) (key _)
theorem bPut(B b:Nat)(bs:List Value)(n v:Int){r:ByteArray×Int}(hr:(g198 n v).run=some r)(w:World)(h:Lib.IsBuilder 266 5 B b bs w)(hlen:bs.length+r.1.size≤140737488355328)(hBw:B≤w.heap.size)(hG:GOK w) :
  Calls Tryz.prog 203 #[.pointer (some ⟨b,0,none⟩),.int .i64 n,.int .i64 v] w fun e w'=>e=.returned (.tuple #[])∧(Lib.IsBuilder 266 5 B b (bs++Lib.strCells r.1) w'∧Below B w w'∧Kept b w w'):=by
 go_enter Tryz.func203,Tryz.ntmps203
 go_wp2_with (go_at_call 198;refine(wPut n v hr _ hG).mono ?_)
 rintro e w1 ⟨rfl,hb1⟩
 have h1:=bld_below h hb1
 have hB1:B≤w1.heap.size:=Nat.le_trans hBw hb1.size
 go_wp2_with (go_at_call 202;refine(bWs B b bs r.1 _ h1 hlen hB1).mono ?_)
 rintro e w2 ⟨rfl,h2,hb2,hk2⟩
 go_wp2
 go_end0
 exact⟨rfl,.inr h2,(hb1.mono hBw).trans hb2,(Kept.below hb1).trans hk2⟩
def wsM(s t:ByteArray):Option ByteArray:=if s.size+t.size≤140737488355328 then some (s++t) else none
def ptM(n v:Int)(s:ByteArray):Option ByteArray:=(g198 n v).run.bind fun r=>wsM s r.1
def atM(s:ByteArray)(a:Q9):Option ByteArray:=
 (ptM 2 a.fy s).bind fun s=>(ptM 2 (a.gj.size:Int) s).bind fun s=>(g205 a.gj 4).run.bind fun r=>wsM s r.1
def hdM(c m:Int)(id:ByteArray)(l:List Q9)(more:Int):Option ByteArray:=
 (g204 c m).run.bind fun k=>(ptM 2 k ByteArray.empty).bind fun s=>(g193 l).run.bind fun z=>(ptM 2 (Q4 (z+more)) s).bind fun s=>(ptM 4 554869826 s).bind fun s=>wsM s id
def writtenM(c m:Int)(id:ByteArray)(l:List Q9)(more:Int):Option ByteArray:=
 (hdM c m id l more).bind fun s=>(l.foldlM atM s).bind fun s=>if s.size=0∨4294967296 < l.length then none else some s
theorem wsM_some{s t r:ByteArray}(h:wsM s t=some r):r=s++t∧s.size+t.size≤140737488355328:=by
 unfold wsM at h
 split at h
 ·rename_i hc;exact⟨(ζR h).symm,hc⟩
 ·cases h
theorem bytes_app(s t:ByteArray):Lib.strCells (s++t)=Lib.strCells s++Lib.strCells t:=by
 unfold Lib.strCells
 rw[ByteArray.data_append,Array.toList_append,ζp]
theorem wPt(B b:Nat)(s:ByteArray)(n v:Int){r:ByteArray}(hr:ptM n v s=some r)(w:World)(h:Lib.IsBuilder 266 5 B b (Lib.strCells s) w)(hBw:B≤w.heap.size)(hG:GOK w) :
  Calls Tryz.prog 203 #[.pointer (some ⟨b,0,none⟩),.int .i64 n,.int .i64 v] w fun e w'=>e=.returned (.tuple #[])∧(Lib.IsBuilder 266 5 B b (Lib.strCells r) w'∧Below B w w'∧Kept b w w'):=by
 unfold ptM at hr
 obtain⟨q,h1,h2⟩:=ζc.1 hr
 obtain⟨rfl,h3⟩:=wsM_some h2
 rw[bytes_app]
 exact bPut B b _ n v h1 w h (by rw[Lib.strCells_length];exact h3) hBw hG
theorem wWs(B b:Nat)(s t:ByteArray){r:ByteArray}(hr:wsM s t=some r)(w:World)(h:Lib.IsBuilder 266 5 B b (Lib.strCells s) w)(hBw:B≤w.heap.size) :
  Calls Tryz.prog 202 #[.pointer (some ⟨b,0,none⟩),.string t] w fun e w'=>e=.returned (.tuple #[.int .i64 t.size,.nilIface])∧(Lib.IsBuilder 266 5 B b (Lib.strCells r) w'∧Below B w w'∧Kept b w w'):=by
 obtain⟨rfl,h3⟩:=wsM_some hr
 rw[bytes_app]
 exact(bWs B b _ t w h (by rw[Lib.strCells_length];exact h3) hBw).mono fun e w' hp=>⟨hp.1,.inr hp.2.1,hp.2.2⟩
theorem bld_lt{T e:TypeId}{B b:Nat}{bs:List Value}{w:World}(h:Lib.IsBuilder T e B b bs w):b < w.heap.size:=by
 rcases h with⟨_,v,hb,_⟩|⟨_,v,hb,_⟩<;>exact(ζf.1 hb).1
theorem bld_alloc{T e:TypeId}{B b:Nat}{bs:List Value}{w:World}(h:Lib.IsBuilder T e B b bs w)(o:Obj):Lib.IsBuilder T e B b bs (w.alloc o):=
 bld_below h ((Below.refl _ w).alloc (ζK _) o)
theorem wrap_wi(n:Int):Q4 n=wrap64 n:=by unfold Q4 wrap64;exact IntKind.wrap_i64 n
theorem rep_below{γ:Gh}{w w':World}{c:V}{v:Value}(h:Rep γ w (ofL []) uTop c v)(b:Below w.heap.size w w'):Rep γ w' (ofL []) uTop c v:=
 h.mono (Grow.below b) (.refl fun b k hk=>by simp[ofL] at hk)
theorem bld_fresh{T e:TypeId}(B b:Nat)(w:World)(h:B≤b)(hb:b=w.heap.size):Lib.IsBuilder T e B b (Lib.strCells ByteArray.empty) (w.alloc (.cells #[.pointer none,.slice none 0 0] T)):=by
 subst hb
 exact .inl ⟨h,.slice none 0 0,Array.getElem?_push_size,⟨rfl,.inl ⟨rfl,rfl⟩⟩,nofun⟩
set_option maxHeartbeats 4000000 in
set_option maxRecDepth 1000000 in
theorem wrWalk(c m more:Int)(id:ByteArray)(x:Value)(sa:Option Addr)(cap B o:Nat)(l:List Q9)(γ:Gh)(w:World)(hg:S9 GG γ w)(hv:Rep γ w (ofL []) uTop (.sl false 2 (List.map Q7.c l)) (.slice sa l.length cap))
  (hB:l≠[]→sa=some ⟨B,o,none⟩) (hcell:∀j y,l[j]?=some y→w.cell? ⟨B,o+j * 2,none⟩=some (.int .i64 y.fy)∧w.cell? ⟨B,o+j * 2+1,none⟩=some (.string y.gj))
  {s0 s1:ByteArray} (h0:hdM c m id l more=some s0) (h1:l.foldlM atM s0=some s1) (hne:s1.size≠0) (hlen:l.length≤4294967296) :
  Calls Tryz.prog 126 #[.agg #[.int .i64 c,.int .i64 m,.string id,x],.slice sa l.length cap,.int .i64 more] w fun e w'=>e=.returned (.string s1)∧Below w.heap.size w w':=by
 unfold hdM at h0
 obtain⟨k,a1,h⟩:=ζc.1 h0
 clear h0
 obtain⟨t1,a2,h0⟩:=ζc.1 h
 clear h
 obtain⟨z,a3,h⟩:=ζc.1 h0
 clear h0
 obtain⟨t2,a4,h0⟩:=ζc.1 h
 clear h
 obtain⟨t3,a5,a6⟩:=ζc.1 h0
 clear h0
 have hG:GOK w:=⟨γ,hg⟩
 have c1:=fun w0 hG=>wKind c m a1 w0 hG
 have c2:=fun w0 I hB hG=>wPt w.heap.size (w.heap.size+1) _ 2 k a2 w0 I hB hG
 have c3:=fun w0 I hB hG=>wPt w.heap.size (w.heap.size+1) _ 2 (wrap64 (z+more)) (by rw[←wrap_wi];exact a4) w0 I hB hG
 have c4:=fun w0 I hB hG=>wPt w.heap.size (w.heap.size+1) _ 4 _ a5 w0 I hB hG
 have c5:=fun w0 I hB=>wWs w.heap.size (w.heap.size+1) _ id a6 w0 I hB
 clear a1 a2 a4 a5 a6
 go_enter Tryz.func126,Tryz.ntmps126
 go_wp2_with (go_at_call 204;refine(c1 _ (hG.below (((Below.refl _ w).alloc (ζK _) _).alloc (by simp) _))).mono ?_)
 rintro e w1 ⟨rfl,b1⟩
 have I1:=bld_below (bld_fresh (T:=266) (e:=5) w.heap.size (w.heap.size+1) (w.alloc _) (by omega) (Array.size_push (xs:=w.heap) _).symm) b1
 have B1:Below w.heap.size w w1:=(((Below.refl _ w).alloc (ζK _) _).alloc (by simp) _).trans (b1.mono (by simp only[World.alloc,Array.size_push];omega))
 have X1:w1.heap[w.heap.size]?=some (.cells #[.int .i64 c,.int .i64 m,.string id,x] 121 (0,0)):=by
  rw[b1.block _ (by simp only[World.alloc,Array.size_push];omega)]
  show ((w.heap.push _).push _)[w.heap.size]?=_
  rw[Array.getElem?_push_lt (by simp),Array.getElem_push_eq]
 go_wp2_with (go_at_call 203;refine(c2 _ I1 B1.size (hG.below B1)).mono ?_)
 rintro e w2 ⟨rfl,I2,b2,k2⟩
 have B2:=B1.trans b2
 have X2:=k2 _ _ _ _ (by omega) (by decide) X1
 clear c1 c2 b1 b2 k2 I1 X1 B1
 go_wp2_with (go_at_call 193;refine(wSize l (hg.grow (Grow.below B2)) (rep_below hv B2) a3).mono ?_)
 rintro e w3 ⟨rfl,b3⟩
 have I3:=bld_below I2 b3
 have B3:=B2.trans (b3.mono B2.size)
 have X3:=(Kept.below (b:=w.heap.size+1) b3) _ _ _ _ (by omega) (by decide) X2
 clear b3 I2 X2 B2
 go_wp2_with (go_at_call 203;refine(c3 _ I3 B3.size (hG.below B3)).mono ?_)
 rintro e w4 ⟨rfl,I4,b4,k4⟩
 have B4:=B3.trans b4
 have X4:=k4 _ _ _ _ (by omega) (by decide) X3
 clear b4 I3 X3 B3
 go_wp2_with (go_at_call 203;refine(c4 _ I4 B4.size (hG.below B4)).mono ?_)
 rintro e w5 ⟨rfl,I5,b5,k5⟩
 have B5:=B4.trans b5
 have X5:=k5 _ _ _ _ (by omega) (by decide) X4
 clear b5 I4 X4 B4
 have d5:w5.cell? ⟨w.heap.size,2,none⟩=some (.string id):=by rw[Lib.cell_of_heap X5];rfl
 go_wp2_with (go_at_call 202;refine(c5 _ I5 B5.size).mono ?_)
 rintro e w6 ⟨rfl,I6,b6,k6⟩
 have B6:=B5.trans b6
 clear b6 I5 X5 B5 k6 d5 c3 c4 c5
 go_wp2
 go_loopw [33] (fun i wr=>∃(k:Nat) (s:ByteArray),k≤l.length∧i=.int .i64 k∧Lib.IsBuilder 266 5 w.heap.size (w.heap.size+1) (Lib.strCells s) wr∧Below w.heap.size w wr∧(l.drop k).foldlM atM s=some s1) (fun i _=>l.length - (intOf i).toNat)
 case atStart=>exact⟨0,s0,Nat.zero_le _,rfl,I6,B6,by simpa using h1⟩
 case round=>
  clear I6 B6
  obtain⟨k,s,hk,rfl,I,hb,hf⟩:=hrel
  rcases ζN k l.length with hlt|hge
  ·obtain⟨y,hy⟩:∃y,l[k]?=some y:=⟨l[k],ζd hlt⟩
   have hd:l.drop k=y :: l.drop (k+1):=by
    rw[List.drop_eq_getElem_cons hlt]
    rw[ζd hlt] at hy
    rw[ζR hy]
   rw[hd,List.foldlM_cons] at hf
   obtain⟨s',f1,f2⟩:=ζc.1 hf
   obtain rfl:=hB (fun e=>by rw[e] at hlt;simp at hlt)
   obtain⟨q0,q1⟩:=hcell k y hy
   have hBw:=World.block_lt_of_cell? _ _ q0
   have g0:wr.cell? ⟨B,o+k * 2,none⟩=some (.int .i64 y.fy):=by
    rw[←q0];unfold World.cell?;simp only[hb.block B hBw]
   have g1:wr.cell? ⟨B,o+k * 2+1,none⟩=some (.string y.gj):=by
    rw[←q1];unfold World.cell?;simp only[hb.block B hBw]
   clear q0 q1 hf hd h1
   unfold atM at f1
   obtain⟨u1,e1,f⟩:=ζc.1 f1
   clear f1
   obtain⟨u2,e2,f1⟩:=ζc.1 f
   clear f
   obtain⟨u3,e3,e4⟩:=ζc.1 f1
   clear f1
   have p1:=fun w0 I hB hG=>wPt w.heap.size (w.heap.size+1) _ 2 _ e1 w0 I hB hG
   have p2:=fun w0 I hB hG=>wPt w.heap.size (w.heap.size+1) _ 2 _ e2 w0 I hB hG
   have p3:=fun w0 hG=>wPad y.gj 4 e3 w0 hG
   have p4:=fun w0 I hB=>wWs w.heap.size (w.heap.size+1) _ u3.1 e4 w0 I hB
   clear e1 e2 e3 e4
   have hsz:w.heap.size≤wr.heap.size:=hb.size
   have J1:=bld_alloc I (.cells #[.int .i64 y.fy,.string y.gj] 140 (0,0))
   have K1:=hb.alloc hsz (.cells #[.int .i64 y.fy,.string y.gj] 140 (0,0))
   have N1:wr.heap.size≠w.heap.size+1:=fun e=>by
    have:=bld_lt I
    omega
   have X1:(wr.alloc (.cells #[.int .i64 y.fy,.string y.gj] 140 (0,0))).heap[wr.heap.size]?=some (.cells #[.int .i64 y.fy,.string y.gj] 140 (0,0)):=Array.getElem?_push_size
   go_wp2_with (go_at_call 203;refine(p1 _ J1 K1.size (hG.below K1)).mono ?_)
   (first|rintro e w1 rfl J2 b2 k2|rintro e w1 ⟨rfl,J2,b2,k2⟩)
   have K2:=K1.trans b2
   have X2:=k2 _ _ _ _ N1 (by decide) X1
   clear b2 k2 X1 K1 J1 I
   have d2:w1.cell? ⟨wr.heap.size,1,none⟩=some (.string y.gj):=by rw[Lib.cell_of_heap X2];rfl
   go_wp2_with (go_at_call 203;refine(p2 _ J2 K2.size (hG.below K2)).mono ?_)
   (first|rintro e w2 rfl J3 b3 k3|rintro e w2 ⟨rfl,J3,b3,k3⟩)
   have K3:=K2.trans b3
   have X3:=k3 _ _ _ _ N1 (by decide) X2
   clear b3 k3 X2 K2 J2 d2
   have d3:w2.cell? ⟨wr.heap.size,1,none⟩=some (.string y.gj):=by rw[Lib.cell_of_heap X3];rfl
   go_wp2_with (go_at_call 205;refine(p3 _ (hG.below K3)).mono ?_)
   (first|rintro e w3 rfl b4|rintro e w3 ⟨rfl,b4⟩)
   have J4:=bld_below J3 b4
   have K4:=K3.trans (b4.mono K3.size)
   clear b4 J3 K3 d3 X3
   go_wp2_with (go_at_call 202;refine(p4 _ J4 K4.size).mono ?_)
   (first|rintro e w4 rfl J5 b5 k5|rintro e w4 ⟨rfl,J5,b5,k5⟩)
   have K5:=K4.trans b5
   clear b5 k5 J4 K4 p1 p2 p3 p4
   go_wp2
   go_roundw
   case rel=>exact⟨k+1,s',by omega,by simp,J5,K5,f2⟩
   case measure=>simp[intOf];omega
  ·have hkl:k=l.length:=by omega
   subst hkl
   have hs:s=s1:=by simpa using hf
   subst hs
   obtain⟨ys,hys⟩:∃ys:List UInt8,ys=s.data.toList:=⟨_,rfl⟩
   have hstr:=fun w0 I=>bStr w.heap.size (w.heap.size+1) s.data.toList w0 I (fun e=>hne (by
    show s.data.size=0
    rw[←Array.length_toList,e];rfl))
   go_wp2_with (go_at_call 206;refine(hstr _ I).mono ?_)
   (first|rintro e w1 rfl b1|rintro e w1 ⟨rfl,b1⟩)
   go_wp2
   go_ret
   exact⟨rfl,hb.trans b1⟩
theorem wr_args{cls m more:Int}{id:ByteArray}{at_ l:List Q9}{γ:Gh}{w:World}{xs:Array Value}(h:J8 γ w (ofL []) uTop [.agg [.int .i64 cls,.int .i64 m,.str id,.sl false 2 (List.map Q7.c at_)],.sl false 2 (List.map Q7.c l),.int .i64 more] xs) :
  ∃x v,xs=#[.agg #[.int .i64 cls,.int .i64 m,.string id,x],v,.int .i64 more]∧Rep γ w (ofL []) uTop (.sl false 2 (List.map Q7.c l)) v:=by
 obtain⟨h1,h2⟩:=h
 have h1:xs.size=3:=h1
 have r0:=h2 0 _ xs[0] rfl (ζg (by omega))
 have r1:=h2 1 _ xs[1] rfl (ζg (by omega))
 have r2:=(h2 2 _ xs[2] rfl (ζg (by omega))).int_inv
 obtain⟨vs,q0,q1,q2⟩:=r0.agg_inv
 match vs,q1 with
 | [a,b,c,d],_=>
  have ha:=(q2 0 _ a rfl rfl).int_inv
  have hb:=(q2 1 _ b rfl rfl).int_inv
  have hc:=(q2 2 _ c rfl rfl).str_inv
  subst ha;subst hb;subst hc
  refine⟨d,xs[1],?_,r1⟩
  apply Array.ext
  ·exact h1
  ·intro i hi hi'
   match i,hi' with
   | 0,_=>exact q0
   | 1,_=>rfl
   | 2,_=>exact r2
theorem wrCells{l:List Q9}{γ:Gh}{w:World}{v:Value}(h:Rep γ w (ofL []) uTop (.sl false 2 (List.map Q7.c l)) v) :
  ∃(sa:Option Addr) (cap B o:Nat),v=.slice sa l.length cap∧(l≠[]→sa=some ⟨B,o,none⟩)∧∀j y,l[j]?=some y→w.cell? ⟨B,o+j * 2,none⟩=some (.int .i64 y.fy)∧w.cell? ⟨B,o+j * 2+1,none⟩=some (.string y.gj):=by
 rcases h.sl_inv with⟨a,rfl,hr⟩|⟨B,o,cap,vs,rfl,s1,s2,s3,s4⟩
 ·have:l=[]:=by simpa using hr
  subst this
  exact⟨a,0,0,0,rfl,fun e=>absurd rfl e,fun j y hy=>by simp at hy⟩
 ·refine⟨some ⟨B,o,none⟩,cap,B,o,by rw[ζs],fun _=>rfl,fun j y hy=>?_⟩
  have hrow:∀r,r∈List.map Q7.c l→r.length=2:=fun r hr=>by
   obtain⟨q,_,rfl⟩:=ζt.1 hr;rfl
  have hj:(List.map Q7.c l)[j]?=some (Q7.c y):=by rw[ζo,hy];rfl
  have k0:(List.map Q7.c l).flatten[j * 2+0]?=some (.int .i64 y.fy):=by
   rw[J7 _ hrow j 0 (by decide),hj];rfl
  have k1:(List.map Q7.c l).flatten[j * 2+1]?=some (.str y.gj):=by
   rw[J7 _ hrow j 1 (by decide),hj];rfl
  have e0:vs (j * 2)=.int .i64 y.fy:=Rep.int_inv (γ:=γ) (bs:=ofL []) (u:=uTop) (.data (s4 _ _ k0))
  have e1:vs (j * 2+1)=.string y.gj:=Rep.str_inv (γ:=γ) (bs:=ofL []) (u:=uTop) (.data (s4 _ _ k1))
  have t0:=(s3 _ _ k0).2
  have t1:=(s3 _ _ k1).2
  rw[show j * 2+0=j * 2 from rfl,e0] at t0
  rw[e1] at t1
  exact⟨t0,t1⟩
theorem wr_ok(cls m more:Int)(id:ByteArray)(at_ l:List Q9){r:ByteArray}(h:writtenM cls m id l more=some r) :
  CallC Tryz.prog GG 126 [.agg [.int .i64 cls,.int .i64 m,.str id,.sl false 2 (List.map Q7.c at_)],.sl false 2 (List.map Q7.c l),.int .i64 more] (ofL []) (.str r) (ofL []):=by
 intro γ w xs hg hown hcells _
 obtain⟨x,v,rfl,hv⟩:=wr_args hcells
 obtain⟨sa,cap,B,o,rfl,hB,hcell⟩:=wrCells hv
 unfold writtenM at h
 obtain⟨s0,h0,h⟩:=ζc.1 h
 obtain⟨s1,h1,h⟩:=ζc.1 h
 have hc:¬(s1.size=0∨4294967296 < l.length):=fun e=>by rw[if_pos e] at h;cases h
 rw[if_neg hc] at h
 have hne:s1.size≠0:=fun e=>hc (.inl e)
 have hlen:l.length≤4294967296:=Nat.le_of_not_lt fun e=>hc (.inr e)
 obtain rfl:=ζR h
 refine(wrWalk cls m more id x sa cap B o l γ w hg hv hB hcell h0 h1 hne hlen).mono fun e w' hh=>?_
 obtain⟨rfl,b⟩:=hh
 refine⟨.string s1,γ,rfl,Grow.below b,?_,.data (.str _),fun b k hk=>by simp[ofL] at hk,fun B x hB=>ζM (hown B x hB) b.size⟩
 exact fun b _=>⟨fun _=>rfl,fun _ h=>h,fun k hk=>by simp[ofL] at hk⟩
def wrSpec(cls m:Int)(id:ByteArray)(at_ l:List Q9)(more:Int):EV.Spec Tryz.prog GG ByteArray:=
 ⟨126,[.agg [.int .i64 cls,.int .i64 m,.str id,.sl false 2 (List.map Q7.c at_)],.sl false 2 (List.map Q7.c l),.int .i64 more],[],writtenM cls m id l more,fun r=>.str r,fun _=>[],[],fun _ _ h=>by simp at h,fun r h=>wr_ok cls m more id at_ l h⟩
end Go.Proofs.YtjpahkpfkohfkaaGreatDoor
