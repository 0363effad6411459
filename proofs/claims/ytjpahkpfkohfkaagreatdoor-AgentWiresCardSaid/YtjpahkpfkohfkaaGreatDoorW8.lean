/- Guides and contracts, printed by a program. Guides and contracts, printed by a program. strings.Clone: the kit's contract taken D6. The blocks of oct ..; no conditions. -/
import Derived.Test.YtjpahkpfkohfkaaGreatDoorW7
import Derived.Test.YtjpahkpfkohfkaaGreatDoorW5
import Derived.Test.YtjpahkpfkohfkaaGreatDoorProg
import Derived.Test.YtjpahkpfkohfkaaGreatDoorW6
import Derived.KernelRfl
import Derived.Shelf.Strconv.Clone
import Derived.Lib.Builder
import Derived.Lib.AppendStr
import Derived.Lib.UnsafeStr
import Derived.Lib.Walk
import Derived.Lib.Slices
import Derived.Lib.Strings
import Derived.Shelf.RegionOpenPlain
import Derived.WalkKit
import Derived.BigCall
set_option linter.unusedVariables false
set_option linter.unusedSimpArgs false
set_option maxRecDepth 100000
noncomputable section
abbrev Prod.q{A B C D E:Type}(x:A×B×C×D×E):E:=x.2.2.2.2
theorem And.q{a b c d e:Prop}(h:a/\b/\c/\d/\e):e:=h.2.2.2.2
namespace Go.EV
open Go
abbrev Sl{α:Type}(n:Nat)(t:Ty α)(l:List α):V:=.sl false n (l.map t.c)
abbrev Rf{α:Type}(b:Nat)(l:List α):V:=.ref b 0 l.length
abbrev Bt{α:Type}(b:Nat)(t:Ty α)(n:Nat)(l:List α):BT:=BT.of b t n l true
abbrev bD(a b:Int):Bool:=decide (0<=a)&&decide (a < b)
abbrev V.i(n:Int):V:=.int .i64 n
end Go.EV
namespace Go.Proofs.YtjpahkpfkohfkaaGreatDoor
open Go Go.EV
def GG:zd:=λg=>if g=0 then some [.int .i64 0,.int .i64 126,.int .i64 110,.int .i64 100,.int .i64 0] else none
abbrev TT:=T Tryz.prog GG
abbrev Sp:=EV.Spec Tryz.prog GG
abbrev Pg:=Tryz.prog
abbrev zo:=1000000
abbrev zt:=1000001
abbrev zu:=1000002
abbrev zx:=1000003
abbrev zy:=1000005
abbrev zA:=1000004
abbrev zB:=1000006
abbrev zI:=660000
abbrev zY:=660001
abbrev zZ:=1000007
abbrev wa:=600191
abbrev wh:=600013
abbrev wn:=600053
abbrev wx:=660002
theorem Q9:Tryz.prog.follows .mixedOrders=true:=by kernel_rfl
def U2:List Int:=[1116352408,1899447441,3049323471,3921009573,961987163,1508970993,2453635748,2870763221,3624381080,310598401,607225278,1426881987,1925078388,2162078206,2614888103,3248222580,3835390401,4022224774,264347078,604807628,770255983,1249150122,1555081692,1996064986,2554220882,2821834349,2952996808,3210313671,3336571891,3584528711,113926993,338241895,666307205,773529912,1294757372,1396182291,1695183700,1986661051,2177026350,2456956037,2730485921,2820302411,3259730800,3345764771,3516065817,3600352804,4094571909,275423344,430227734,506948616,659060556,883997877,958139571,1322822218,1537002063,1747873779,1955562222,2024104815,2227730452,2361852424,2428436474,2756734187,3204031479,3329325298]
def E0:List V:=[.int .u32 1116352408,.int .u32 1899447441,.int .u32 3049323471,.int .u32 3921009573,.int .u32 961987163,.int .u32 1508970993,.int .u32 2453635748,.int .u32 2870763221,.int .u32 3624381080,.int .u32 310598401,.int .u32 607225278,.int .u32 1426881987,.int .u32 1925078388,.int .u32 2162078206,.int .u32 2614888103,.int .u32 3248222580,.int .u32 3835390401,.int .u32 4022224774,.int .u32 264347078,.int .u32 604807628,.int .u32 770255983,.int .u32 1249150122,.int .u32 1555081692,.int .u32 1996064986,.int .u32 2554220882,.int .u32 2821834349,.int .u32 2952996808,.int .u32 3210313671,.int .u32 3336571891,.int .u32 3584528711,.int .u32 113926993,.int .u32 338241895,.int .u32 666307205,.int .u32 773529912,.int .u32 1294757372,.int .u32 1396182291,.int .u32 1695183700,.int .u32 1986661051,.int .u32 2177026350,.int .u32 2456956037,.int .u32 2730485921,.int .u32 2820302411,.int .u32 3259730800,.int .u32 3345764771,.int .u32 3516065817,.int .u32 3600352804,.int .u32 4094571909,.int .u32 275423344,.int .u32 430227734,.int .u32 506948616,.int .u32 659060556,.int .u32 883997877,.int .u32 958139571,.int .u32 1322822218,.int .u32 1537002063,.int .u32 1747873779,.int .u32 1955562222,.int .u32 2024104815,.int .u32 2227730452,.int .u32 2361852424,.int .u32 2428436474,.int .u32 2756734187,.int .u32 3204031479,.int .u32 3329325298]
def U0:Ty Int:=⟨λx=>[.int .u32 x],λx=>[.int .u32 x],λ_=>rfl,λ_=>rfl,λ_ _=>rfl,λ_=>rfl⟩
def s253(p0 p1:Int):Sp (Int×Int):=.ofFn 253 Q9 Tryz.func253 (show FnD Pg GG [0,1,4,5,6,7,8,9,10,11,12,13] Tryz.f253 [.int .u64 p0,.int .u64 p1] (.done ((Z5 ((Z5 ((Z5 ((Z3 .u64 p0 32) * (Z3 .u64 p1 32)))+(Z3 .u64 (Z5 ((Z5 ((Z3 .u64 p0 32) * (Y1 .u64 p1 4294967295)))+(Z3 .u64 (Z5 ((Y1 .u64 p0 4294967295) * (Y1 .u64 p1 4294967295))) 32))) 32)))+(Z3 .u64 (Z5 ((Y1 .u64 (Z5 ((Z5 ((Z3 .u64 p0 32) * (Y1 .u64 p1 4294967295)))+(Z3 .u64 (Z5 ((Y1 .u64 p0 4294967295) * (Y1 .u64 p1 4294967295))) 32))) 4294967295)+(Z5 ((Y1 .u64 p0 4294967295) * (Z3 .u64 p1 32))))) 32))),(Z5 (p0 * p1))):TT (Int×Int)) (λr=>.tup [.int .u64 r.1,.int .u64 r.2]) by unfold FnD;kernel_rfl)
def s276(p0 p1:Int):Sp (Bool):=.ofFn 276 Q9 Tryz.func276 (show FnD Pg GG [0,1,3,4,5,6,7,8] Tryz.f276 [.int .u64 p0,.snap [.int .u64 p1]] (.call 1003 (s253 p0 p0) [] [] λr1=>.call 2003 (s253 r1.2 p0) [] [] λr2=>.cnd 4 [3] (.br 4006 (decide ((Z5 ((Z5 (r1.1 * p0))+r2.1)) < (N6 .u64 p1 32))) (.done true) (.br 4011 ((Z5 ((Z5 (r1.1 * p0))+r2.1))==(N6 .u64 p1 32)) (.done (r2.2==0)) (.done false))) zg λc3=>.done c3:TT (Bool)) (λr=>.bool r) by unfold FnD;kernel_rfl)
def s275(p0:Int):Sp (Int):=.ofFn 275 Q9 Tryz.func275 (show FnD Pg GG [0,2,3,4,6,13] Tryz.f275 [.fn 276 [] [.snap [.int .u64 p0]]] (.bind 1 (.lp (λ(l3:Int×Int)=>Ext.l .normal [(0,.fn 276 [] [.snap [.int .u64 p0]]),(2,.int .u32 0),(3,.int .u64 l3.1),(4,.int .u64 l3.2)] []) (λl3=>.br 0 (decide ((0:Int) < l3.2)) (.call 5005 (s276 (bOr .u64 l3.1 l3.2) p0) [] [] λr4=>.br 0 r4 (.done (.inl ((bOr .u64 l3.1 l3.2),(Z3 .u64 l3.2 1)))) (.done (.inl (l3.1,(Z3 .u64 l3.2 1))))) (.done (.inr l3.1))) (0,68719476736)) (λ(e5:Int)=>Ext.l (.exit 0) [(2,.int .u32 0),(3,.int .u64 e5)] []) (λe5=>.done (A5 (Y1 .u64 e5 4294967295))):TT (Int)) (λr=>.int .u32 r) by unfold FnD;kernel_rfl)
def s277(p0 p1:Int):Sp (Bool):=.ofFn 277 Q9 Tryz.func277 (show FnD Pg GG [0,1,3,4,5] Tryz.f277 [.int .u64 p0,.snap [.int .u64 p1]] (.call 1003 (s253 p0 p0) [] [] λr8=>.cnd 2 [3] (.br 2005 (decide (r8.1 < p1)) (.done true) (.br 2009 (r8.1==p1) (.done (r8.2==0)) (.done false))) zg λc9=>.done c9:TT (Bool)) (λr=>.bool r) by unfold FnD;kernel_rfl)
def s275_1(p0:Int):Sp (Int):=.ofFn 275 Q9 Tryz.func275 (show FnD Pg GG [0,2,3,4,6,13] Tryz.f275 [.fn 277 [] [.snap [.int .u64 p0]]] (.bind 1 (.lp (λ(l10:Int×Int)=>Ext.l .normal [(0,.fn 277 [] [.snap [.int .u64 p0]]),(2,.int .u32 0),(3,.int .u64 l10.1),(4,.int .u64 l10.2)] []) (λl10=>.br 0 (decide ((0:Int) < l10.2)) (.call 5005 (s277 (bOr .u64 l10.1 l10.2) p0) [] [] λr11=>.br 0 r11 (.done (.inl ((bOr .u64 l10.1 l10.2),(Z3 .u64 l10.2 1)))) (.done (.inl (l10.1,(Z3 .u64 l10.2 1))))) (.done (.inr l10.1))) (0,68719476736)) (λ(e12:Int)=>Ext.l (.exit 0) [(2,.int .u32 0),(3,.int .u64 e12)] []) (λe12=>.done (A5 (Y1 .u64 e12 4294967295))):TT (Int)) (λr=>.int .u32 r) by unfold FnD;kernel_rfl)
def s261 :Sp (Int×Int×Int×Int×Int×Int×Int×Int):=.ofFnB 261 [] Q9 Tryz.func261 rfl (λ_=>rfl) (show FnB Pg GG [0,1,2,3,4,5,7,14,25,31,38] Tryz.f261 [] (Ext.of .normal (H8 []) [] [] (by rfl)) (.opr 2 (Rule.allocS (ty:=U0) 292 1 (List.replicate 64 (0:Int)) (λ_=>rfl) (by kernel_rfl)) λ_=>.bind 1 (.lp (λ(l14:Int×Int×Int×Int×Int×Int×Int×Int×(List Int)×Int×Int)=>Ext.of .normal [(0,.ptr 0 0 0),(1,.ptr 1 0 0),(2,.i l14.q.q.2.2),(3,.ptr 3 0 0)] [(0,⟨8,true,[[.int .u32 l14.1,.int .u32 l14.2.1,.int .u32 l14.2.2.1,.int .u32 l14.2.2.2.1,.int .u32 l14.q.1,.int .u32 l14.q.2.1,.int .u32 l14.q.2.2.1,.int .u32 l14.q.2.2.2.1]]⟩),(3,⟨1,true,[[.int .u64 l14.q.q.2.1]]⟩)] [Bt 1 U0 1 l14.q.q.1] (by rfl)) (λl14=>.br 0 (decide (l14.q.q.2.2 < 64)) (.bind 0 (.bind 2 (.lp (λ(l16:Bool×Int)=>Ext.of .normal [(0,.ptr 0 0 0),(1,.ptr 1 0 0),(2,.i l14.q.q.2.2),(3,.ptr 3 0 0),(4,.bool l16.1),(5,.int .u64 l16.2)] [(0,⟨8,true,[[.int .u32 l14.1,.int .u32 l14.2.1,.int .u32 l14.2.2.1,.int .u32 l14.2.2.2.1,.int .u32 l14.q.1,.int .u32 l14.q.2.1,.int .u32 l14.q.2.2.1,.int .u32 l14.q.2.2.2.1]]⟩),(3,⟨1,true,[[.int .u64 l14.q.q.2.1]]⟩)] [Bt 1 U0 1 l14.q.q.1] (by rfl)) (λl16=>.br 0 (decide ((Z5 (l16.2 * l16.2))<=l14.q.q.2.1)) (.cnd 9 [4] (.br 9003 l16.1 (.chk 9005 (!(l16.2==0)) (.done ((Int.tmod l14.q.q.2.1 l16.2) != 0))) (.done false)) zg λc17=>.done (.inl (c17,(Z5 (l16.2+1))))) (.done (.inr l16.1))) (true,2)) (λ(e18:Bool)=>Ext.of (.exit 2) [(0,.ptr 0 0 0),(1,.ptr 1 0 0),(2,.i l14.q.q.2.2),(3,.ptr 3 0 0),(4,.bool e18)] [(0,⟨8,true,[[.int .u32 l14.1,.int .u32 l14.2.1,.int .u32 l14.2.2.1,.int .u32 l14.2.2.2.1,.int .u32 l14.q.1,.int .u32 l14.q.2.1,.int .u32 l14.q.2.2.1,.int .u32 l14.q.2.2.2.1]]⟩),(3,⟨1,true,[[.int .u64 l14.q.q.2.1]]⟩)] [Bt 1 U0 1 l14.q.q.1] (by rfl)) (λe18=>.br 0 (!e18) (.done (l14.1,l14.2.1,l14.2.2.1,l14.2.2.2.1,l14.q.1,l14.q.2.1,l14.q.2.2.1,l14.q.2.2.2.1,l14.q.q.1,l14.q.q.2.2)) (.view 11003 (s275 l14.q.q.2.1) [] λr19=>.opr 11004 (Rule.arrAt (e:=290) 292 (.tmp 1) (.tmp 26) 29 1 ⟨1,true,(List.map U0.c l14.q.q.1)⟩ 0 .i64 l14.q.q.2.2 64 (by kernel_rfl) (by kernel_rfl)) λ_=>.row 11005 U0 l14.q.q.1 (0+l14.q.q.2.2.toNat) true λx20=>.re 11005 (ReW.put 1 1 U0 l14.q.q.1 (0+l14.q.q.2.2.toNat) r19) (.br 0 (decide (l14.q.q.2.2 < 8)) (.view 13003 (s275_1 l14.q.q.2.1) [] λr21=>.ceq 13004 l14.q.q.2.2 [0,1,2,3,4,5,6,7] (λv=>bif v==0 then .done (r21,l14.2.1,l14.2.2.1,l14.2.2.2.1,l14.q.1,l14.q.2.1,l14.q.2.2.1,l14.q.2.2.2.1,(l14.q.q.1.set (0+l14.q.q.2.2.toNat) r19),(Q7 (l14.q.q.2.2+1))) else bif v==1 then .done (l14.1,r21,l14.2.2.1,l14.2.2.2.1,l14.q.1,l14.q.2.1,l14.q.2.2.1,l14.q.2.2.2.1,(l14.q.q.1.set (0+l14.q.q.2.2.toNat) r19),(Q7 (l14.q.q.2.2+1))) else bif v==2 then .done (l14.1,l14.2.1,r21,l14.2.2.2.1,l14.q.1,l14.q.2.1,l14.q.2.2.1,l14.q.2.2.2.1,(l14.q.q.1.set (0+l14.q.q.2.2.toNat) r19),(Q7 (l14.q.q.2.2+1))) else bif v==3 then .done (l14.1,l14.2.1,l14.2.2.1,r21,l14.q.1,l14.q.2.1,l14.q.2.2.1,l14.q.2.2.2.1,(l14.q.q.1.set (0+l14.q.q.2.2.toNat) r19),(Q7 (l14.q.q.2.2+1))) else bif v==4 then .done (l14.1,l14.2.1,l14.2.2.1,l14.2.2.2.1,r21,l14.q.2.1,l14.q.2.2.1,l14.q.2.2.2.1,(l14.q.q.1.set (0+l14.q.q.2.2.toNat) r19),(Q7 (l14.q.q.2.2+1))) else bif v==5 then .done (l14.1,l14.2.1,l14.2.2.1,l14.2.2.2.1,l14.q.1,r21,l14.q.2.2.1,l14.q.2.2.2.1,(l14.q.q.1.set (0+l14.q.q.2.2.toNat) r19),(Q7 (l14.q.q.2.2+1))) else bif v==6 then .done (l14.1,l14.2.1,l14.2.2.1,l14.2.2.2.1,l14.q.1,l14.q.2.1,r21,l14.q.2.2.2.1,(l14.q.q.1.set (0+l14.q.q.2.2.toNat) r19),(Q7 (l14.q.q.2.2+1))) else bif v==7 then .done (l14.1,l14.2.1,l14.2.2.1,l14.2.2.2.1,l14.q.1,l14.q.2.1,l14.q.2.2.1,r21,(l14.q.q.1.set (0+l14.q.q.2.2.toNat) r19),(Q7 (l14.q.q.2.2+1))) else .fail)) (.done (l14.1,l14.2.1,l14.2.2.1,l14.2.2.2.1,l14.q.1,l14.q.2.1,l14.q.2.2.1,l14.q.2.2.2.1,(l14.q.q.1.set (0+l14.q.q.2.2.toNat) r19),(Q7 (l14.q.q.2.2+1)))))))) (λ(e22:Int×Int×Int×Int×Int×Int×Int×Int×(List Int)×Int)=>Ext.of .normal [(0,.ptr 0 0 0),(1,.ptr 1 0 0),(2,.i e22.q.q.2),(3,.ptr 3 0 0)] [(0,⟨8,true,[[.int .u32 e22.1,.int .u32 e22.2.1,.int .u32 e22.2.2.1,.int .u32 e22.2.2.2.1,.int .u32 e22.q.1,.int .u32 e22.q.2.1,.int .u32 e22.q.2.2.1,.int .u32 e22.q.2.2.2.1]]⟩),(3,⟨1,true,[[.int .u64 l14.q.q.2.1]]⟩)] [Bt 1 U0 1 e22.q.q.1] (by rfl)) (λe22=>.gh 18 (.drop [3]) (.done (.inl (e22.1,e22.2.1,e22.2.2.1,e22.2.2.2.1,e22.q.1,e22.q.2.1,e22.q.2.2.1,e22.q.2.2.2.1,e22.q.q.1,(Z5 (l14.q.q.2.1+1)),e22.q.q.2))))) (.done (.inr (l14.q.q.1,l14.1,l14.2.1,l14.2.2.1,l14.2.2.2.1,l14.q.1,l14.q.2.1,l14.q.2.2.1,l14.q.2.2.2.1)))) (0,0,0,0,0,0,0,0,(List.replicate 64 (0:Int)),2,0)) (λ(e23:(List Int)×Int×Int×Int×Int×Int×Int×Int×Int)=>Ext.of (.exit 0) [(0,.ptr 0 0 0),(1,.ptr 1 0 0)] [(0,⟨8,true,[[.int .u32 e23.2.1,.int .u32 e23.2.2.1,.int .u32 e23.2.2.2.1,.int .u32 e23.q.1,.int .u32 e23.q.2.1,.int .u32 e23.q.2.2.1,.int .u32 e23.q.2.2.2.1,.int .u32 e23.q.q]]⟩)] [Bt 1 U0 1 e23.1] (by rfl)) (λe23=>.fact (e23.1=U2) inferInstance λh24=>.opr 17002 (Rule.loadX 292 (.tmp 1) 40 1 ⟨1,true,(List.map U0.c e23.1)⟩ (.agg E0) (show 1 < J8 by decide) (by rw[h24];kernel_rfl)) λ_=>.opr 17004 (Rule.storeX (ty:=U0) 292 (.tmp 1) (.tmp 40) 1 ⟨1,true,(List.map U0.c e23.1)⟩ (.agg E0) U2 (λ_=>rfl) (show 1 < J8 by decide) rfl rfl (by rw[wj,h24]) (by kernel_rfl) (by kernel_rfl)) λ_=>.done (e23.2.1,e23.2.2.1,e23.2.2.2.1,e23.q.1,e23.q.2.1,e23.q.2.2.1,e23.q.2.2.2.1,e23.q.q)):TT (Int×Int×Int×Int×Int×Int×Int×Int)) (λ(r:Int×Int×Int×Int×Int×Int×Int×Int)=>.tup [.agg [.int .u32 r.1,.int .u32 r.2.1,.int .u32 r.2.2.1,.int .u32 r.2.2.2.1,.int .u32 r.q.1,.int .u32 r.q.2.1,.int .u32 r.q.2.2.1,.int .u32 r.q.2.2.2],.agg E0]) (λ(r:Int×Int×Int×Int×Int×Int×Int×Int)=>Ext.of .normal [] [] [] (by rfl)) by unfold FnB;kernel_rfl)
def s236 :Sp (Int×Int×Int×Int×Int×Int×Int×Int):=.ofFnB 236 [] Q9 Tryz.func236 rfl (λ_=>rfl) (show FnB Pg GG [0,1,2] Tryz.f236 [] (Ext.of .normal (H8 []) [] [] (by rfl)) (.call 1001 s261 [] [] λr25=>.opr 1006 (Rule.allocS (ty:=U0) 292 2 (List.replicate 64 (0:Int)) (λ_=>rfl) (by kernel_rfl)) λ_=>.opr 1008 (Rule.storeX (ty:=U0) 292 (.tmp 2) (.tmp 6) 2 ⟨1,true,(List.map U0.c (List.replicate 64 (0:Int)))⟩ (.agg E0) U2 (λ_=>rfl) (show 1 < J8 by decide) rfl rfl (by kernel_rfl) (by kernel_rfl) (by kernel_rfl)) λ_=>.opr 2002 (Rule.loadX 292 (.tmp 2) 8 2 ⟨1,true,(List.map U0.c U2)⟩ (.agg E0) (show 1 < J8 by decide) (by kernel_rfl)) λ_=>.done (r25.1,r25.2.1,r25.2.2.1,r25.2.2.2.1,r25.q.1,r25.q.2.1,r25.q.2.2.1,r25.q.2.2.2):TT (Int×Int×Int×Int×Int×Int×Int×Int)) (λ(r:Int×Int×Int×Int×Int×Int×Int×Int)=>.agg ([.int .u32 r.1,.int .u32 r.2.1,.int .u32 r.2.2.1,.int .u32 r.2.2.2.1,.int .u32 r.q.1,.int .u32 r.q.2.1,.int .u32 r.q.2.2.1,.int .u32 r.q.2.2.2]++E0)) (λ(r:Int×Int×Int×Int×Int×Int×Int×Int)=>Ext.of .normal [] [] [] (by rfl)) by unfold FnB;kernel_rfl)
def s311(p0 p1:Int):Sp (Int):=.ofFn 311 Q9 Tryz.func311 (show FnD Pg GG [0,1,4,5] Tryz.f311 [.int .u32 p0,.i p1] (.chk 2003 (decide ((0:Int)<=(Y1 .u64 (Z5 p1) 31))) (.chk 2007 (decide ((0:Int)<=(Z5 ((32:Int) - (Y1 .u64 (Z5 p1) 31))))) (.done (bOr .u32 (N6 .u32 p0 (Y1 .u64 (Z5 p1) 31)) (Z3 .u32 p0 (Z5 ((32:Int) - (Y1 .u64 (Z5 p1) 31))))))):TT (Int)) (λr=>.int .u32 r) by unfold FnD;kernel_rfl)
abbrev W8:=Int×Int×Int×Int×Int×Int×Int×Int
def gMix(w:W8)(tl:za)(ct:Int)(s:za)(rest:za):TT (Int×Int×Int×Int×Int×Int×Int×Int):=
 .opr 3001 (Rule.allocS (ty:=U0) 292 7 (List.replicate 64 (0:Int)) (λ_=>rfl) (by kernel_rfl)) λ_=>
 .bind 1
 (.lp (λ(l28:(List Int)×Int)=>Ext.of .normal [(3,.ptr 1000003 0 0),(5,.ptr 1000005 0 0),(6,.str s),(7,.ptr 7 0 0),(22,.i l28.2)] [(1000003,⟨1,true,[[.ptr 2000000 0 0]]⟩),(1700070,⟨1,true,[[.str rest]]⟩),(2000000,⟨10,true,[[.int .u32 w.1,.int .u32 w.2.1,.int .u32 w.2.2.1,.int .u32 w.2.2.2.1,.int .u32 w.q.1,.int .u32 w.q.2.1,.int .u32 w.q.2.2.1,.int .u32 w.q.2.2.2,.str tl,.i ct]]⟩)] [BT.of 7 U0 1 l28.1 true,BT.of 1000005 U0 1 U2 true] (by rfl))
  (λl28=>
   .br 0 (decide (l28.2 < 64))
   (.br 0 (decide (l28.2 < 16))
    (.chk 8007 ((decide (0<=(Q7 ((Q7 ((4:Int) * l28.2))+4)))&&decide ((Q7 ((Q7 ((4:Int) * l28.2))+4))<=(s.size:Int)))&&(decide (0<=(Q7 ((4:Int) * l28.2)))&&decide ((Q7 ((4:Int) * l28.2))<=((Q7 ((Q7 ((4:Int) * l28.2))+4)).toNat:Int)))) (.chk 9003 (decide (0<=(0:Int)/\(0:Int) < ((s.extract ((Q7 ((4:Int) * l28.2)).toNat) ((Q7 ((Q7 ((4:Int) * l28.2))+4)).toNat)).size:Int))) (.chk 9007 (decide (0<=(1:Int)/\(1:Int) < ((s.extract ((Q7 ((4:Int) * l28.2)).toNat) ((Q7 ((Q7 ((4:Int) * l28.2))+4)).toNat)).size:Int))) (.chk 9012 (decide (0<=(2:Int)/\(2:Int) < ((s.extract ((Q7 ((4:Int) * l28.2)).toNat) ((Q7 ((Q7 ((4:Int) * l28.2))+4)).toNat)).size:Int))) (.chk 9017 (decide (0<=(3:Int)/\(3:Int) < ((s.extract ((Q7 ((4:Int) * l28.2)).toNat) ((Q7 ((Q7 ((4:Int) * l28.2))+4)).toNat)).size:Int))) (.opr 9020 (Rule.arrAt (e:=290) 292 (.tmp 7) (.tmp 34) 53 7 ⟨1,true,(List.map U0.c l28.1)⟩ 0 .i64 l28.2 64 (by kernel_rfl) (by kernel_rfl)) λ_=>
     .row 9021 U0 l28.1 (0+l28.2.toNat) true λx29=>
     .re 9021 (ReW.put 7 1 U0 l28.1 (0+l28.2.toNat) (bOr .u32 (bOr .u32 (bOr .u32 (N6 .u32 (A5 (bAt (s.extract ((Q7 ((4:Int) * l28.2)).toNat) ((Q7 ((Q7 ((4:Int) * l28.2))+4)).toNat)) 0)) 24) (N6 .u32 (A5 (bAt (s.extract ((Q7 ((4:Int) * l28.2)).toNat) ((Q7 ((Q7 ((4:Int) * l28.2))+4)).toNat)) 1)) 16)) (N6 .u32 (A5 (bAt (s.extract ((Q7 ((4:Int) * l28.2)).toNat) ((Q7 ((Q7 ((4:Int) * l28.2))+4)).toNat)) 2)) 8)) (A5 (bAt (s.extract ((Q7 ((4:Int) * l28.2)).toNat) ((Q7 ((Q7 ((4:Int) * l28.2))+4)).toNat)) 3)))) (.done (.inl ((l28.1.set (0+l28.2.toNat) (bOr .u32 (bOr .u32 (bOr .u32 (N6 .u32 (A5 (bAt (s.extract ((Q7 ((4:Int) * l28.2)).toNat) ((Q7 ((Q7 ((4:Int) * l28.2))+4)).toNat)) 0)) 24) (N6 .u32 (A5 (bAt (s.extract ((Q7 ((4:Int) * l28.2)).toNat) ((Q7 ((Q7 ((4:Int) * l28.2))+4)).toNat)) 1)) 16)) (N6 .u32 (A5 (bAt (s.extract ((Q7 ((4:Int) * l28.2)).toNat) ((Q7 ((Q7 ((4:Int) * l28.2))+4)).toNat)) 2)) 8)) (A5 (bAt (s.extract ((Q7 ((4:Int) * l28.2)).toNat) ((Q7 ((Q7 ((4:Int) * l28.2))+4)).toNat)) 3)))),(Q7 (l28.2+1)))))))))))
    (.opr 10003 (Rule.arrAt (e:=290) 292 (.tmp 7) (.tmp 55) 56 7 ⟨1,true,(List.map U0.c l28.1)⟩ 0 .i64 (Q7 (l28.2 - 15)) 64 (by kernel_rfl) (by kernel_rfl)) λ_=>
     .row 10004 U0 l28.1 (0+(Q7 (l28.2 - 15)).toNat) true λx30=>
     .opr 10007 (Rule.arrAt (e:=290) 292 (.tmp 7) (.tmp 59) 60 7 ⟨1,true,(List.map U0.c l28.1)⟩ 0 .i64 (Q7 (l28.2 - 2)) 64 (by kernel_rfl) (by kernel_rfl)) λ_=>
     .row 10008 U0 l28.1 (0+(Q7 (l28.2 - 2)).toNat) true λx31=>
     .opr 11004 (Rule.arrAt (e:=290) 292 (.tmp 7) (.tmp 64) 65 7 ⟨1,true,(List.map U0.c l28.1)⟩ 0 .i64 (Q7 (l28.2 - 16)) 64 (by kernel_rfl) (by kernel_rfl)) λ_=>
     .row 11005 U0 l28.1 (0+(Q7 (l28.2 - 16)).toNat) true λx32=>
     .opr 11008 (Rule.arrAt (e:=290) 292 (.tmp 7) (.tmp 68) 69 7 ⟨1,true,(List.map U0.c l28.1)⟩ 0 .i64 (Q7 (l28.2 - 7)) 64 (by kernel_rfl) (by kernel_rfl)) λ_=>
     .row 11009 U0 l28.1 (0+(Q7 (l28.2 - 7)).toNat) true λx33=>
     .call 11012 (s311 x30 (-7)) [] [] λr34=>
     .call 11014 (s311 x30 (-18)) [] [] λr35=>
     .call 11021 (s311 x31 (-17)) [] [] λr36=>
     .call 11023 (s311 x31 (-19)) [] [] λr37=>
     .opr 11029 (Rule.arrAt (e:=290) 292 (.tmp 7) (.tmp 62) 90 7 ⟨1,true,(List.map U0.c l28.1)⟩ 0 .i64 l28.2 64 (by kernel_rfl) (by kernel_rfl)) λ_=>
     .row 11030 U0 l28.1 (0+l28.2.toNat) true λx38=>
     .re 11030 (ReW.put 7 1 U0 l28.1 (0+l28.2.toNat) (A5 ((A5 ((A5 (x32+x33))+(K9 .u32 (K9 .u32 r34 r35) (Z3 .u32 x30 3))))+(K9 .u32 (K9 .u32 r36 r37) (Z3 .u32 x31 10))))) (.done (.inl ((l28.1.set (0+l28.2.toNat) (A5 ((A5 ((A5 (x32+x33))+(K9 .u32 (K9 .u32 r34 r35) (Z3 .u32 x30 3))))+(K9 .u32 (K9 .u32 r36 r37) (Z3 .u32 x31 10))))),(Q7 (l28.2+1)))))))
   (.done (.inr l28.1)))
  ((List.replicate 64 (0:Int)),0))
 (λ(e39:(List Int))=>Ext.of (.exit 2) [(3,.ptr 1000003 0 0),(5,.ptr 1000005 0 0),(7,.ptr 7 0 0)] [(1000003,⟨1,true,[[.ptr 2000000 0 0]]⟩),(1700070,⟨1,true,[[.str rest]]⟩),(2000000,⟨10,true,[[.int .u32 w.1,.int .u32 w.2.1,.int .u32 w.2.2.1,.int .u32 w.2.2.2.1,.int .u32 w.q.1,.int .u32 w.q.2.1,.int .u32 w.q.2.2.1,.int .u32 w.q.2.2.2,.str tl,.i ct]]⟩)] [BT.of 7 U0 1 e39 true,BT.of 1000005 U0 1 U2 true] (by rfl))
 (λe39=>
  .bind 1
  (.lp (λ(l49:Int×Int×Int×Int×Int×Int×Int×Int×Int)=>Ext.of .normal [(3,.ptr 1000003 0 0),(5,.ptr 1000005 0 0),(7,.ptr 7 0 0),(12,.ptr 12 0 0),(97,.i l49.q.q)] [(12,⟨8,true,[[.int .u32 l49.1,.int .u32 l49.2.1,.int .u32 l49.2.2.1,.int .u32 l49.2.2.2.1,.int .u32 l49.q.1,.int .u32 l49.q.2.1,.int .u32 l49.q.2.2.1,.int .u32 l49.q.2.2.2.1]]⟩),(1000003,⟨1,true,[[.ptr 2000000 0 0]]⟩),(1700070,⟨1,true,[[.str rest]]⟩),(2000000,⟨10,true,[[.int .u32 w.1,.int .u32 w.2.1,.int .u32 w.2.2.1,.int .u32 w.2.2.2.1,.int .u32 w.q.1,.int .u32 w.q.2.1,.int .u32 w.q.2.2.1,.int .u32 w.q.2.2.2,.str tl,.i ct]]⟩)] [BT.of 7 U0 1 e39 true,BT.of 1000005 U0 1 U2 true] (by rfl))
   (λl49=>
    .br 0 (decide (l49.q.q < 64))
    (.call 18004 (s311 l49.q.1 (-6)) [] [] λr50=>
     .call 18006 (s311 l49.q.1 (-11)) [] [] λr51=>
     .call 18009 (s311 l49.q.1 (-25)) [] [] λr52=>
     .opr 18024 (Rule.arrAt (e:=290) 292 (.tmp 5) (.tmp 126) 127 1000005 ⟨1,true,(List.map U0.c U2)⟩ 0 .i64 l49.q.q 64 (by kernel_rfl) (by kernel_rfl)) λ_=>
     .row 18025 U0 U2 (0+l49.q.q.toNat) true λx53=>
     .opr 18028 (Rule.arrAt (e:=290) 292 (.tmp 7) (.tmp 130) 131 7 ⟨1,true,(List.map U0.c e39)⟩ 0 .i64 l49.q.q 64 (by kernel_rfl) (by kernel_rfl)) λ_=>
     .row 18029 U0 e39 (0+l49.q.q.toNat) true λx54=>
     .call 19002 (s311 l49.1 (-2)) [] [] λr55=>
     .call 19004 (s311 l49.1 (-13)) [] [] λr56=>
     .call 19007 (s311 l49.1 (-22)) [] [] λr57=>
     .done (.inl ((A5 ((A5 ((A5 ((A5 ((A5 (l49.q.2.2.2.1+(K9 .u32 (K9 .u32 r50 r51) r52)))+(K9 .u32 (Y1 .u32 l49.q.1 l49.q.2.1) (Y1 .u32 (K9 .u32 4294967295 l49.q.1) l49.q.2.2.1))))+x53))+x54))+(A5 ((K9 .u32 (K9 .u32 r55 r56) r57)+(K9 .u32 (K9 .u32 (Y1 .u32 l49.1 l49.2.1) (Y1 .u32 l49.1 l49.2.2.1)) (Y1 .u32 l49.2.1 l49.2.2.1)))))),l49.1,l49.2.1,l49.2.2.1,(A5 (l49.2.2.2.1+(A5 ((A5 ((A5 ((A5 (l49.q.2.2.2.1+(K9 .u32 (K9 .u32 r50 r51) r52)))+(K9 .u32 (Y1 .u32 l49.q.1 l49.q.2.1) (Y1 .u32 (K9 .u32 4294967295 l49.q.1) l49.q.2.2.1))))+x53))+x54)))),l49.q.1,l49.q.2.1,l49.q.2.2.1,(Q7 (l49.q.q+1)))))
    (.done (.inr (l49.1,l49.2.1,l49.2.2.1,l49.2.2.2.1,l49.q.1,l49.q.2.1,l49.q.2.2.1,l49.q.2.2.2.1))))
   (w.1,w.2.1,w.2.2.1,w.2.2.2.1,w.q.1,w.q.2.1,w.q.2.2.1,w.q.2.2.2,0))
  (λ(e58:Int×Int×Int×Int×Int×Int×Int×Int)=>Ext.of (.exit 4) [(3,.ptr 1000003 0 0),(12,.ptr 12 0 0)] [(12,⟨8,true,[[.int .u32 e58.1,.int .u32 e58.2.1,.int .u32 e58.2.2.1,.int .u32 e58.2.2.2.1,.int .u32 e58.q.1,.int .u32 e58.q.2.1,.int .u32 e58.q.2.2.1,.int .u32 e58.q.2.2.2]]⟩),(1000003,⟨1,true,[[.ptr 2000000 0 0]]⟩),(1700070,⟨1,true,[[.str rest]]⟩),(2000000,⟨10,true,[[.int .u32 w.1,.int .u32 w.2.1,.int .u32 w.2.2.1,.int .u32 w.2.2.2.1,.int .u32 w.q.1,.int .u32 w.q.2.1,.int .u32 w.q.2.2.1,.int .u32 w.q.2.2.2,.str tl,.i ct]]⟩)] [BT.of 1000005 U0 1 U2 true] (by rfl))
  (λe58=>
   .tt (.tt (.tt (.tt (.tt (.tt (.tt (.tt (.ff (.done ((A5 (w.1+e58.1)),(A5 (w.2.1+e58.2.1)),(A5 (w.2.2.1+e58.2.2.1)),(A5 (w.2.2.2.1+e58.2.2.2.1)),(A5 (w.q.1+e58.q.1)),(A5 (w.q.2.1+e58.q.2.1)),(A5 (w.q.2.2.1+e58.q.2.2.1)),(A5 (w.q.2.2.2+e58.q.2.2.2))))))))))))))
def xsMix(w:W8)(tl:za)(ct:Int)(s:za)(rest:za):Ext:=Ext.of .normal [(3,.ptr 1000003 0 0),(5,.ptr 1000005 0 0),(6,.str s)] [(1000003,⟨1,true,[[.ptr 2000000 0 0]]⟩),(1700070,⟨1,true,[[.str rest]]⟩),(2000000,⟨10,true,[[.int .u32 w.1,.int .u32 w.2.1,.int .u32 w.2.2.1,.int .u32 w.2.2.2.1,.int .u32 w.q.1,.int .u32 w.q.2.1,.int .u32 w.q.2.2.1,.int .u32 w.q.2.2.2,.str tl,.i ct]]⟩)] [BT.of 1000005 U0 1 U2 true] (by rfl)
def xeMix(w:W8)(tl:za)(ct:Int)(s:za)(rest:za):(Int×Int×Int×Int×Int×Int×Int×Int)->Ext:=λ(r:Int×Int×Int×Int×Int×Int×Int×Int)=>Ext.of .normal [] [(1000003,⟨1,true,[[.ptr 2000000 0 0]]⟩),(1700070,⟨1,true,[[.str rest]]⟩),(2000000,⟨10,true,[[.int .u32 r.1,.int .u32 r.2.1,.int .u32 r.2.2.1,.int .u32 r.2.2.2.1,.int .u32 r.q.1,.int .u32 r.q.2.1,.int .u32 r.q.2.2.1,.int .u32 r.q.2.2.2,.str tl,.i ct]]⟩)] [BT.of 1000005 U0 1 U2 true] (by rfl)
theorem kMix(w:W8)(tl:za)(ct:Int)(s:za)(rest:za):Y2 Tryz.prog GG [3,5,6,7,8,9,10,11,12,13,14,15,16,17,18,22,23,26,97,98,179,180] 198 (rBody (cB (cR (cR (Tryz.f290.body.getD .skip))))) (xsMix w tl ct s rest) (gMix w tl ct s rest) (xeMix w tl ct s rest):=by unfold Y2;kernel_rfl
end Go.Proofs.YtjpahkpfkohfkaaGreatDoor
namespace Go.Proofs
open Go.Shelf
def Tryz.lays316_ren:Go.Shelf.Ren:=⟨fun|316=>312|n=>n,fun|9=>9|3=>3|4=>4|37=>73|0=>0|127=>298|5=>5|n=>n,fun|n=>n⟩
theorem Tryz.lays316:LaysM.n316 Tryz.prog Tryz.lays316_ren where
 mixed:=by kernel_rfl
 f316:=Tryz.func312.trans (congrArg some (by kernel_rfl))
 t0:=Tryz.underlying0
 a0:=Tryz.isAgg0
 z0:=Tryz.sizeOf0
 v0:=Tryz.zeroValue0
 t3:=Tryz.underlying3
 a3:=Tryz.isAgg3
 z3:=Tryz.sizeOf3
 v3:=Tryz.zeroValue3
 t4:=Tryz.underlying4
 a4:=Tryz.isAgg4
 z4:=Tryz.sizeOf4
 v4:=Tryz.zeroValue4
 t9:=Tryz.underlying9
 a9:=Tryz.isAgg9
 z9:=Tryz.sizeOf9
 v9:=Tryz.zeroValue9
 t37:=Tryz.underlying73
 a37:=Tryz.isAgg73
 z37:=Tryz.sizeOf73
 v37:=Tryz.zeroValue73
 t127:=Tryz.underlying298
 a127:=Tryz.isAgg298
 z127:=Tryz.sizeOf298
 v127:=Tryz.zeroValue298
 t5:=Tryz.underlying5
 a5:=Tryz.isAgg5
 z5:=Tryz.sizeOf5
 v5:=Tryz.zeroValue5
 i0:=by kernel_rfl
 i3:=by kernel_rfl
 i4:=by kernel_rfl
 i5:=by kernel_rfl
 i9:=by kernel_rfl
 i37:=by kernel_rfl
 i127:=by kernel_rfl
end Go.Proofs
namespace Go.Proofs.YtjpahkpfkohfkaaGreatDoor
open Go Go.EV
def g312(p0:za):TT Unit:=.chk 0 (decide (p0.size<=281474976710656)) (.done ())
theorem k312(p0:za)(r:Unit)(h:(g312 p0).run=some r):CallC Tryz.prog GG 312 [.str p0] (ofL []) (.str p0) (ofL []):=by
 have h1:p0.size<=281474976710656:=by
  cases hd:decide (p0.size<=281474976710656) with
  | true=>simpa using hd
  | false=>
   unfold g312 at h
   rw[hd] at h
   cases h
 exact callC_shelf args_str (λw=>Any.stringslite_Clone Tryz.lays316 p0 w h1) (λ_ _ _ _=>.data (.str _))
def s312(p0:za):Sp Unit:=⟨312,[.str p0],[],(g312 p0).run,λ_=>.str p0,λ_=>[],[],λ_ _ h=>by simp at h,λr h=>k312 p0 r h⟩
def mxTs:List (Nat×V):=[(3,.ptr 1000003 0 0),(5,.ptr 1000005 0 0),(20,.fn 316 [] [.ptr 1700070 0 0])]
def mxR(w:W8)(tl:za)(ct:Int):List V:=[.int .u32 w.1,.int .u32 w.2.1,.int .u32 w.2.2.1,.int .u32 w.2.2.2.1,.int .u32 w.q.1,.int .u32 w.q.2.1,.int .u32 w.q.2.2.1,.int .u32 w.q.2.2.2,.str tl,.int .i64 ct]
def mxL(w:W8)(tl:za)(ct:Int)(rest:za):List (Nat×Blk):=
 [(1000003,⟨1,true,[[.ptr 2000000 0 0]]⟩),(1700070,⟨1,true,[[.str rest]]⟩),(2000000,⟨10,true,[mxR w tl ct]⟩)]
def mxT:List BT:=[BT.of 1000005 U0 1 U2 true]
def mxX(ts:List (Nat×V))(w:W8)(tl:za)(ct:Int)(rest:za):Ext:=Ext.of .normal ts (mxL w tl ct rest) mxT (by rfl)
def mxB(w:W8)(tl:za)(ct:Int)(rest:za):List (Nat×Blk):=(mxX [] w tl ct rest).bs
theorem E9{st:St}(x:Ext){n:Nat}(hok:x.ok=true)(hn:st.n=n)(h:extTs x st=x.ts/\extBs x st=x.bs.map λp=>(p.1,some p.2)):Gst GG st (x.D n).st:=by
 grind [R3]
def mxRn:Code:=cB (cR (cR (Tryz.f290.body.getD .skip)))
def mxAs:Code:=rAssign mxRn
section
variable (w:W8) (tl:za) (ct:Int) (s rest:za)
theorem kMa:Y2 Tryz.prog GG [3,5,6,20,21] 198 mxAs (mxX ((21,.str s) :: mxTs) w tl ct rest) (.done ():TT Unit) (λ_=>xsMix w tl ct s rest):=by unfold Y2;kernel_rfl
end
theorem roundMix(w:W8)(tl:za)(ct:Int)(s rest:za){r:W8}(hb:(gMix w tl ct s rest).run=some r) :
  RoundT Tryz.prog GG 198 (tOf mxTs) [21] mxAs (rBody mxRn) (ofL (mxB w tl ct rest)) [.str s] (λe b'=>e=.normal/\b'=ofL (mxB r tl ct rest)):=by
 refine⟨((xsMix w tl ct s rest).D 198).st,?_,?_⟩
 ·have h:=(kMa w tl ct s rest).tv Q9 (r:=()) rfl (by rfl)
  have e:((mxX ((21,.str s) :: mxTs) w tl ct rest).D 198).st=setP (E1 198 (tOf mxTs) (ofL (mxB w tl ct rest))) ([21].zip [.str s]):=by
   rw[O8 (by rfl)]
   exact(setP_susp 198 mxTs _ 21 (.str s)).symm
  rw[e] at h
  exact h
 ·refine((kMix w tl ct s rest).tv Q9 hb (by rfl)).mono λe s' hg=>?_
  obtain⟨rfl,g⟩:=hg
  refine⟨_,198,⟨rfl,rfl⟩,?_⟩
  have e:((xeMix w tl ct s rest r).D 198).st=E1 198 (λ_=>.undef) (ofL (mxB r tl ct rest)):=by
   rw[O8 (by rfl)];rfl
  grind
def bkArgs(l:Nat):List V:=[.yld l,.ptr 1700070 0 0]
def cBk:Code:=Tryz.f316.body.getD .skip
def cBL:Code:=cB (cB cBk)
def bR0:Code:=cL (cL cBL)
def ops2:Array Oper:=rOps (cL (cB (cL (cR cBL))))
def bR1:Code:=cR (cR cBL)
theorem eBk:cBk=.block 0 (.loop cBL):=by kernel_rfl
theorem eBL:cBL=.seq (.seq bR0 (.cond (.tmp 5) .skip (.exit 0))) (.seq (.block 1 (.seq (.region 2 ops2 false) (.cond (.tmp 12) .ret .skip))) bR1):=by kernel_rfl
section
variable (l:Nat) (w:W8) (tl:za) (ct:Int) (rest:za)
def tBk:List (Nat×V):=[(0,.yld l),(1,.ptr 1700070 0 0)]
def xBk:Ext:=mxX (tBk l) w tl ct rest
def xBk1:Ext:=mxX (tBk l++[(5,.bool (decide ((64:Int)<=(rest.size:Int))))]) w tl ct rest
def xBkS:Ext:=mxX (tBk l++[(8,.yld l),(10,.str (rest.extract 0 64))]) w tl ct rest
theorem kB0:Y2 Tryz.prog GG [0,1,5] 13 bR0 (xBk l w tl ct rest) (.done ():TT Unit) (λ_=>xBk1 l w tl ct rest):=by unfold Y2;kernel_rfl
def gB2:TT Unit:=.chk 2003 (decide (0<=(64:Int))&&decide ((64:Int)<=(rest.size:Int))) (.done ())
theorem kB2:F6 Tryz.prog GG [0,1,8,10] 13 2 ops2 3 (xBk l w tl ct rest) (gB2 rest) (λ_=>xBkS l w tl ct rest):=by unfold F6;kernel_rfl
def gB1:TT Unit:=.chk 1002 (decide (0<=(64:Int))&&decide ((64:Int)<=(rest.size:Int))) (.done ())
theorem kB1:Y2 Tryz.prog GG [0,1] 13 bR1 (xBk l w tl ct rest) (gB1 rest) (λ_=>xBk l w tl ct (rest.extract 64 rest.size)):=by unfold Y2;kernel_rfl
end
def S9(tl:za)(ct:Int)(x:W8×za):Option ((W8×za)⊕W8):=
 bif decide ((64:Int)<=(x.2.size:Int)) then
  (match (gMix x.1 tl ct (x.2.extract 0 64) x.2).run with
  | none=>none
  | some w=>some (.inl (w,x.2.extract 64 x.2.size)))
 else some (.inr x.1)
def mixM(w:W8)(tl:za)(ct:Int)(s:za):Option W8:=S3 (S9 tl ct) FUEL (w,s)
def mxYL:YL:=⟨198,tOf mxTs,#[21],mxAs,rBody mxRn⟩
theorem iterMix(w:W8)(tl:za)(ct:Int)(s:za){r:W8}(h:mixM w tl ct s=some r) :
  IterT Tryz.prog GG cBk 13 bkArgs (ofL (mxB w tl ct s)) mxYL (λe b=>e=.normal/\∃rest,b=ofL (mxB r tl ct rest)):=by
 refine IterT.of λl=>?_
 have e0:entry 13 (bkArgs l) (ofL (mxB w tl ct s))=((mxX (H8 (bkArgs l)) w tl ct s).D 13).st:=(entry_ext (x:=mxX (H8 (bkArgs l)) w tl ct s) (by rfl) (by rfl) 13).symm
 rw[e0,eBk]
 show YT _ _ _ _ _ ⟨.normal,((xBk l w tl ct s).D 13).st⟩ _
 refine YT.block ?_
 refine YT.loop (λm s=>s.x=.normal/\∃y:W8×za,Gst GG s.st ((xBk l y.1 tl ct y.2).D 13).st/\S3 (S9 tl ct) m y=some r) (λm s hI=>?_) (n:=FUEL) ⟨rfl,(w,s),Gst.same _,h⟩
 obtain⟨x,st⟩:=s
 obtain⟨rfl,⟨v,o⟩,g,hit⟩:=hI
 refine YT.gst g ?_
 cases m with
 | zero=>simp[S3] at hit
 | succ m=>
  rw[iter_succ] at hit
  rw[eBL]
  refine YT.seq (YT.seq (YT.piece (kB0 l v tl ct o) Q9 rfl (by rfl) λs g=>?_))
  show YT _ _ _ _ _ _ _
  refine YT.gst g ?_
  cases hc:decide ((64:Int)<=(o.size:Int)) with
  | false=>
   have hs0:S9 tl ct (v,o)=some (.inr v):=by grind [S9]
   rw[hs0] at hit
   obtain rfl:v=r:=wq hit
   refine YT.cond (b:=false) (by show some (V.bool (decide ((64:Int)<=(o.size:Int))))=_;rw[hc]) (YT.exit ?_)
   refine⟨.inl rfl,13,tOf (xBk1 l v tl ct o).ts,ofL (mxB v tl ct o),?_,rfl,o,rfl⟩
   show Gst GG ((xBk1 l v tl ct o).D 13).st _
   rw[O8 (by rfl) 13]
   exact Gst.same _
  | true=>
   have hrun:∀a:Nat,(T.chk a (decide (0<=(64:Int))&&decide ((64:Int)<=(o.size:Int))) (.done ()):TT Unit).run=some ():=λa=>by
    rw[hc];rfl
   refine YT.cond (b:=true) (by show some (V.bool (decide ((64:Int)<=(o.size:Int))))=_;rw[hc]) (YT.skip ?_)
   show YT _ _ _ _ _ _ _
   refine YT.gst (st':=((xBk l v tl ct o).D 13).st) (E9 (xBk l v tl ct o) (by rfl) rfl ⟨by rfl,by rfl⟩) ?_
   cases h5:(gMix v tl ct (o.extract 0 64) o).run with
   | none=>grind [S9]
   | some v2=>
   have hs0:S9 tl ct (v,o)=some (.inl (v2,o.extract 64 o.size)):=by grind [S9]
   rw[hs0] at hit
   refine YT.seq (YT.block (YT.seq (YT.region ?_)))
   show K6 _ _ _ _ _ ([0,1,2]++[3,4]) _ _
   refine K6.tv ((kB2 l v tl ct o).tv Q9 (hrun _) (by rfl)) λe st hq'=>⟨hq'.1,K6.gst hq'.2 ?_⟩
   rw[O8 (x:=xBkS l v tl ct o) (by rfl) 13]
   refine K6.yieldG (hi:=rfl) rfl rfl rfl rfl rfl rfl rfl ?_ ?_ ?_ rfl (roundMix v tl ct (o.extract 0 64) o h5) ?_ ?_
   ·exact λi=>tOf_ok (by rfl) i
   ·exact λi=>tOf_ok (by rfl) i
   ·intro p hp
    have:p∈[21]:=hp
    simp at this
    subst this
    exact(by decide:21 < 198)
   ·grind
   ·intro e b' h
    obtain⟨rfl,rfl⟩:=h
    refine K6.step rfl (K6.nil ?_)
    show YT _ _ _ _ _ _ _
    refine YT.cond (b:=false) rfl (YT.skip ?_)
    show YT _ _ _ _ _ _ _
    refine YT.gst (st':=((xBk l v2 tl ct o).D 13).st) (E9 (xBk l v2 tl ct o) (by rfl) rfl ⟨by rfl,by rfl⟩) ?_
    refine YT.piece (kB1 l v2 tl ct o) Q9 (hrun _) (by rfl) λs g=>?_
    exact⟨m,Nat.lt_succ_self m,rfl,(v2,o.extract 64 o.size),g,hit⟩
def mfTs:List (Nat×V):=[(3,.ptr 3 0 0),(5,.ptr 5 0 0)]
def mfL(w:W8)(tl:za)(ct:Int):List (Nat×Blk):=[(3,⟨1,true,[[.ptr 1000000 0 0]]⟩),(1000000,⟨10,true,[mxR w tl ct]⟩)]
def mfL2(w:W8)(tl:za)(ct:Int)(s:za):List (Nat×Blk):=[(3,⟨1,true,[[.ptr 1000000 0 0]]⟩),(700070,⟨1,true,[[.str s]]⟩),(1000000,⟨10,true,[mxR w tl ct]⟩)]
def mfT:List BT:=[BT.of 5 U0 1 U2 true]
def xMf(w:W8)(tl:za)(ct:Int)(s:za):Ext:=Ext.of .normal (mfTs++[(20,.fn 316 [] [.ptr 700070 0 0])]) (mfL2 w tl ct s) mfT (by rfl)
def eMf(w:W8)(tl:za)(ct:Int):Ext:=Ext.of .normal mfTs (mfL w tl ct) mfT (by rfl)
theorem sh_rows{α:Type}(ty:Ty α)(l:List α):(List.map ty.c l).map (G3 sh)=List.map ty.c l:=by
 have h:U7 (l.map ty.c):=ty.data l
 have:(⟨0,true,List.map ty.c l⟩:Blk).ren sh=⟨0,true,List.map ty.c l⟩:=(by grind [U7.ren,List.map,sh])
 have:=congrArg Blk.rows this
 exact this
theorem bsMix(w:W8)(tl:za)(ct:Int)(s:za):shB (ofL (xMf w tl ct s).bs)=ofL (mxB w tl ct s):=by
 rw[shB_ofL]
 have:((xMf w tl ct s).bs.map λp=>(sh p.1,p.2.ren sh))=mxB w tl ct s:=by
  simp only[xMf,Ext.of,mfL2,mfT,List.cons_append,List.nil_append,zW,List.map_nil,BT.of,Blk.ren,sh_rows]
  kernel_rfl
 rw[this]
theorem loopMix(w:W8)(tl:za)(ct:Int)(s:za){r:W8}(h:mixM w tl ct s=some r) :
  TV Tryz.prog GG (.rangeFunc (.tmp 20) #[21] mxAs (rBody mxRn)) ((xMf w tl ct s).D 198).st (λe st=>e=.normal/\Gst GG st ((eMf r tl ct).D 198).st):=by
 have ht:(λi=>W5 sh (((xMf w tl ct s).D 198).st.t i))=tOf mxTs:=by
  have:((xMf w tl ct s).D 198).st.t=tOf (xMf w tl ct s).ts:=rfl
  rw[this,tOf_shift]
  have:((xMf w tl ct s).ts.map λp=>(p.1,W5 sh p.2))=mxTs:=by kernel_rfl
  rw[this]
 have hb:Tryz.f316.body=some cBk:=by kernel_rfl
 refine TV.rangeF (f:=316) (fi:=Tryz.f316) (c:=cBk) (first:=[]) (caps:=[.ptr 1700070 0 0]) (R:=λe b=>e=.normal/\∃rest,b=ofL (mxB r tl ct rest)) ?_ Tryz.func316 hb (by kernel_rfl) (by kernel_rfl) ?_ (λi=>?_) ?_ ?_
 ·show some ((λi=>W5 sh (((xMf w tl ct s).D 198).st.t i)) 20)=_
  rw[ht];rfl
 ·intro b k hk
  obtain⟨q,h1,rfl,_⟩:=find_b (show ofL (xMf w tl ct s).bs b=some k from hk)
  show (((xMf w tl ct s).us).contains q.1 || uTop q.1)=true
  simp only[Ext.us,wd,wc,zG]
  grind
 ·have:=congrFun ht i
  rw[show W5 sh (((xMf w tl ct s).D 198).st.t i)=tOf mxTs i from this]
  exact tOf_ok (by rfl) i
 ·have hbb:shB ((xMf w tl ct s).D 198).st.b=ofL (mxB w tl ct s):=bsMix w tl ct s
  rw[ht,hbb]
  have e:max Tryz.f316.ntmps (([]:List V).length+1+[V.ptr 1700070 0 0].length)=13:=by kernel_rfl
  rw[e]
  exact iterMix w tl ct s h
 ·intro e b' ho
  obtain⟨rfl,rest,rfl⟩:=ho
  refine⟨.inl rfl,ofL (xMf r tl ct rest).bs,(bsMix r tl ct rest).symm,?_,rfl,?_⟩
  ·show (X0 198 (xMf w tl ct s).ts (xMf r tl ct rest).bs (xMf w tl ct s).us).known
   refine⟨λi b hm=>?_,λi k hk=>?_⟩
   ·have hm':b∈U8 (tOf (xMf w tl ct s).ts i):=hm
    unfold tOf at hm'
    cases hf:(xMf w tl ct s).ts.find? (λp=>p.1==i) with
    | none=>grind [U8]
    | some p=>
     rw[hf] at hm'
     have all:((xMf w tl ct s).ts.all λp=>(U8 p.2).all λb=>(xMf w tl ct s).us.contains b)=true:=by rfl
     have:=zH.1 (zH.1 all p (wU hf)) b hm'
     show ((xMf w tl ct s).us.contains b || uTop b)=true
     rw[this];rfl
   ·obtain⟨q,h1,rfl,rfl⟩:=find_b (show ofL (xMf r tl ct rest).bs i=some k from hk)
    have husl:(xMf r tl ct rest).us=(xMf w tl ct s).us:=rfl
    refine⟨?_,λb hm=>?_⟩
    ·show ((xMf w tl ct s).us.contains q.1 || uTop q.1)=true
     rw[<-husl]
     simp only[Ext.us,wd,wc,zG]
     grind
    ·have:q∈mfL2 r tl ct rest++mfT.map λx=>(x.id,x.k):=h1
     rcases zU.1 this with h2|h2
     ·have all:((mfL2 r tl ct rest).all λq=>(W1 q.2.rows.flatten).all λb=>(xMf w tl ct s).us.contains b)=true:=by rfl
      have:=zH.1 (zH.1 all q h2) b hm
      show ((xMf w tl ct s).us.contains b || uTop b)=true
      rw[this];rfl
     ·have hdat:=bts_dat _ h2
      rw[hdat.refs] at hm;simp at hm
  ·show Gst GG (X0 198 (xMf w tl ct s).ts (xMf r tl ct rest).bs (xMf w tl ct s).us) _
   exact E9 (eMf r tl ct) (by rfl) rfl ⟨by rfl,by rfl⟩
def subMix(w:W8)(tl:za)(ct:Int)(s:za):Sub Tryz.prog GG W8:=
 ⟨.rangeFunc (.tmp 20) #[21] mxAs (rBody mxRn),198,xMf w tl ct s,mixM w tl ct s,λr=>eMf r tl ct,λ_ h=>loopMix w tl ct s h⟩
structure S8Uint32 where
 a0:Int
 a1:Int
 a2:Int
 a3:Int
 a4:Int
 a5:Int
 a6:Int
 a7:Int
structure SHash where
 fV:S8Uint32
 fW:za
 fP:Int
structure SHash1 where
 fu:SHash
structure Q3 where
 fm:Int
 fp:za
def R6:Ty za:=⟨λx=>[.str x],λx=>[.str x],λ_=>rfl,λ_=>rfl,λ_ _=>rfl,λ_=>rfl⟩
def U4:Ty Int:=⟨λx=>[.int .u8 x],λx=>[.int .u8 x],λ_=>rfl,λ_=>rfl,λ_ _=>rfl,λ_=>rfl⟩
def Q2:Ty Q3:=⟨λx=>[.i x.fm,.str x.fp],λx=>[.i x.fm,.str x.fp],λ_=>rfl,λ_=>rfl,λ_ _=>rfl,λ_=>rfl⟩
def g235(p0:List za):TT (Bool):=.bind2 1 (.lp (λ(l61:Int)=>Ext.l .normal [(2,.bool false),(5,Sl 1 R6 p0),(6,.i (Y6 R6 p0)),(7,.i l61)] []) (λl61=>.br 0 (decide (l61 < (Y6 R6 p0))) (.row 3001 R6 p0 l61.toNat (decide (0<=l61)) λx62=>.br 0 (decide ((4096:Int) < (x62.size:Int))) (.done (.inr (.inl ()))) (.done (.inl (Q7 (l61+1))))) (.done (.inr (.inr ())))) 0) (λ(e63:Unit)=>Ext.l .ret [(2,.bool true)] []) (λ(e64:Unit)=>Ext.l (.exit 0) [(2,.bool false)] []) (λe63=>.done true) (λe64=>.done false)
def s235(p0:List za):Sp (Bool):=.ofFn 235 Q9 Tryz.func235 (show FnD Pg GG [0,2,4,5,6,7,8,13] Tryz.f235 [Sl 1 R6 p0] (g235 p0) (λr=>.bool r) by unfold FnD;kernel_rfl)
def s310(p0:za):Sp (Unit):=.ofFnB 310 [] Q9 Tryz.func310 rfl (λ_=>rfl) (show FnB Pg GG [0,1,2] Tryz.f310 [.str p0] (Ext.of .normal (H8 [.str p0]) [] [] (by rfl)) (.done ():TT (Unit)) (λ(r:Unit)=>.fn 316 [] [.ptr 1 0 0]) (λ(r:Unit)=>Ext.of .normal [] [(1,⟨1,true,[[.str p0]]⟩)] [] (by rfl)) by unfold FnB;kernel_rfl)
def g290_1(p0:za)(p1:SHash1):TT (Int×Int×Int×Int×Int×Int×Int×Int):=.opr 2 (Rule.boxS (ty:=U0) 292 (.tmp 2) 5 U2 (λ_=>rfl) (by kernel_rfl)) λ_=>.call 1002 (s310 p0) [] [(1,500003)] λr71=>.gh 1 (.ren 500003 700070) (.sub (subMix (p1.fu.fV.a0,p1.fu.fV.a1,p1.fu.fV.a2,p1.fu.fV.a3,p1.fu.fV.a4,p1.fu.fV.a5,p1.fu.fV.a6,p1.fu.fV.a7) p1.fu.fW p1.fu.fP p0) λr72=>.done (r72.1,r72.2.1,r72.2.2.1,r72.2.2.2.1,r72.q.1,r72.q.2.1,r72.q.2.2.1,r72.q.2.2.2))
def s290_1(p0:za)(p1:SHash1):Sp (Int×Int×Int×Int×Int×Int×Int×Int):=.ofFnB 290 [] Q9 Tryz.func290 rfl (λ_=>rfl) (show FnB Pg GG [0,1,2,3,5,6,7,8,9,10,11,12,13,14,15,16,17,18,20,21,22,23,26,97,98,179,180] Tryz.f290 [.ptr zo 0 0,.str p0,.agg E0] (Ext.of .normal (H8 [.ptr zo 0 0,.str p0,.agg E0]) [(zo,⟨10,true,[[.int .u32 p1.fu.fV.a0,.int .u32 p1.fu.fV.a1,.int .u32 p1.fu.fV.a2,.int .u32 p1.fu.fV.a3,.int .u32 p1.fu.fV.a4,.int .u32 p1.fu.fV.a5,.int .u32 p1.fu.fV.a6,.int .u32 p1.fu.fV.a7,.str p1.fu.fW,.i p1.fu.fP]]⟩)] [] (by rfl)) (g290_1 p0 p1) (λ(r:Int×Int×Int×Int×Int×Int×Int×Int)=>.tup []) (λ(r:Int×Int×Int×Int×Int×Int×Int×Int)=>Ext.of .normal [] [(zo,⟨10,true,[[.int .u32 r.1,.int .u32 r.2.1,.int .u32 r.2.2.1,.int .u32 r.2.2.2.1,.int .u32 r.q.1,.int .u32 r.q.2.1,.int .u32 r.q.2.2.1,.int .u32 r.q.2.2.2,.str p1.fu.fW,.i p1.fu.fP]]⟩)] [] (by rfl)) by unfold FnB;kernel_rfl)
def s291(p0:za):Sp (za):=.ofFn 291 Q9 Tryz.func291 (show FnD Pg GG [0,2] Tryz.f291 [.str p0] (.call 1002 (s312 p0) [] [] λr74=>.done p0:TT (za)) (λr=>.str r) by unfold FnD;kernel_rfl)
def g278(p0:za)(p1:SHash1):TT (Int×Int×Int×Int×Int×Int×Int×Int×za×Int):=.opr 1 (Rule.boxS (ty:=U0) 292 (.tmp 2) 5 U2 (λ_=>rfl) (by kernel_rfl)) λ_=>.chk 1007 (decide (p1.fu.fW.size+p0.size<=9223372036854775807)) (.opr 2003 (Rule.loadX 292 (.tmp 5) 16 5 ⟨1,true,(List.map U0.c U2)⟩ (.agg E0) (show 1 < J8 by decide) (by kernel_rfl)) λ_=>.call 2004 (s290_1 (p1.fu.fW++p0) (SHash1.mk (SHash.mk (S8Uint32.mk p1.fu.fV.a0 p1.fu.fV.a1 p1.fu.fV.a2 p1.fu.fV.a3 p1.fu.fV.a4 p1.fu.fV.a5 p1.fu.fV.a6 p1.fu.fV.a7) p1.fu.fW p1.fu.fP))) [(zo,zo)] [] λr73=>.chk 3007 (decide (0<=(Q7 ((Q7 (Int.tdiv ((p1.fu.fW++p0).size:Int) 64)) * 64)))&&decide ((Q7 ((Q7 (Int.tdiv ((p1.fu.fW++p0).size:Int) 64)) * 64))<=((p1.fu.fW++p0).size:Int))) (.call 3008 (s291 ((p1.fu.fW++p0).extract ((Q7 ((Q7 (Int.tdiv ((p1.fu.fW++p0).size:Int) 64)) * 64)).toNat) ((p1.fu.fW++p0).size))) [] [] λr75=>.done (r73.1,r73.2.1,r73.2.2.1,r73.2.2.2.1,r73.q.1,r73.q.2.1,r73.q.2.2.1,r73.q.2.2.2,r75,(Q7 (p1.fu.fP+(p0.size:Int))))))
def s278(p0:za)(p1:SHash1):Sp (Int×Int×Int×Int×Int×Int×Int×Int×za×Int):=.ofFnB 278 [] Q9 Tryz.func278 rfl (λ_=>rfl) (show FnB Pg GG [0,1,2,5,6] Tryz.f278 [.ptr zo 0 0,.str p0,.agg E0] (Ext.of .normal (H8 [.ptr zo 0 0,.str p0,.agg E0]) [(zo,⟨10,true,[[.int .u32 p1.fu.fV.a0,.int .u32 p1.fu.fV.a1,.int .u32 p1.fu.fV.a2,.int .u32 p1.fu.fV.a3,.int .u32 p1.fu.fV.a4,.int .u32 p1.fu.fV.a5,.int .u32 p1.fu.fV.a6,.int .u32 p1.fu.fV.a7,.str p1.fu.fW,.i p1.fu.fP]]⟩)] [] (by rfl)) (g278 p0 p1) (λ(r:Int×Int×Int×Int×Int×Int×Int×Int×za×Int)=>.tup []) (λ(r:Int×Int×Int×Int×Int×Int×Int×Int×za×Int)=>Ext.of .normal [] [(zo,⟨10,true,[[.int .u32 r.1,.int .u32 r.2.1,.int .u32 r.2.2.1,.int .u32 r.2.2.2.1,.int .u32 r.q.1,.int .u32 r.q.2.1,.int .u32 r.q.2.2.1,.int .u32 r.q.2.2.2.1,.str r.q.q.1,.i r.q.q.2]]⟩)] [] (by rfl)) by unfold FnB;kernel_rfl)
def g279(p0:SHash1):TT (za):=.opr 2 (Rule.boxS (ty:=U0) 292 (.tmp 1) 3 U2 (λ_=>rfl) (by kernel_rfl)) λ_=>.chk 1004 (decide (p0.fu.fW.size+(bs [128]).size<=9223372036854775807)) (.opr 1011 (Rule.makeD (ty:=U4) (t:=73) (e:=5) (zv:=.int .u8 0) (zc:=.int .u8 0) (0:Int) (.tmp 20) (.tmp 20) 21 (Int.tmod (Q7 ((119:Int) - (p0.fu.fW.size:Int))) 64) (Int.tmod (Q7 ((119:Int) - (p0.fu.fW.size:Int))) 64) 1 (by kernel_rfl) (by kernel_rfl) (by kernel_rfl) rfl ⟨rfl,rfl,rfl⟩ (λ_ _=>by constructor)) λ_=>.opr 1012 (Rule.textOf (ty:=U4) (s:=73) (t:=9) (e:=5) (.tmp 21) 22 21 (List.replicate (Int.tmod (Q7 ((119:Int) - (p0.fu.fW.size:Int))) 64).toNat (0:Int)) ((Int.tmod (Q7 ((119:Int) - (p0.fu.fW.size:Int))) 64).toNat) (by kernel_rfl) (by kernel_rfl) (by kernel_rfl) (by simp) (λ_=>rfl)) λ_=>.chk 1013 (decide ((p0.fu.fW++(bs [128])).size+(strOfNums (List.replicate (Int.tmod (Q7 ((119:Int) - (p0.fu.fW.size:Int))) 64).toNat (0:Int))).size<=9223372036854775807)) (.tt (.chk 6008 (decide (((p0.fu.fW++(bs [128]))++(strOfNums (List.replicate (Int.tmod (Q7 ((119:Int) - (p0.fu.fW.size:Int))) 64).toNat (0:Int)))).size+(strOfNums [(wu8 (Z3 .u64 (Z5 ((Z5 p0.fu.fP) * 8)) 56))]).size<=9223372036854775807)) (.tt (.gh 8 (.drop [38]) (.chk 6008 (decide ((((p0.fu.fW++(bs [128]))++(strOfNums (List.replicate (Int.tmod (Q7 ((119:Int) - (p0.fu.fW.size:Int))) 64).toNat (0:Int))))++(strOfNums [(wu8 (Z3 .u64 (Z5 ((Z5 p0.fu.fP) * 8)) 56))])).size+(strOfNums [(wu8 (Z3 .u64 (Z5 ((Z5 p0.fu.fP) * 8)) 48))]).size<=9223372036854775807)) (.tt (.gh 8 (.drop [38]) (.chk 6008 (decide (((((p0.fu.fW++(bs [128]))++(strOfNums (List.replicate (Int.tmod (Q7 ((119:Int) - (p0.fu.fW.size:Int))) 64).toNat (0:Int))))++(strOfNums [(wu8 (Z3 .u64 (Z5 ((Z5 p0.fu.fP) * 8)) 56))]))++(strOfNums [(wu8 (Z3 .u64 (Z5 ((Z5 p0.fu.fP) * 8)) 48))])).size+(strOfNums [(wu8 (Z3 .u64 (Z5 ((Z5 p0.fu.fP) * 8)) 40))]).size<=9223372036854775807)) (.tt (.gh 8 (.drop [38]) (.chk 6008 (decide ((((((p0.fu.fW++(bs [128]))++(strOfNums (List.replicate (Int.tmod (Q7 ((119:Int) - (p0.fu.fW.size:Int))) 64).toNat (0:Int))))++(strOfNums [(wu8 (Z3 .u64 (Z5 ((Z5 p0.fu.fP) * 8)) 56))]))++(strOfNums [(wu8 (Z3 .u64 (Z5 ((Z5 p0.fu.fP) * 8)) 48))]))++(strOfNums [(wu8 (Z3 .u64 (Z5 ((Z5 p0.fu.fP) * 8)) 40))])).size+(strOfNums [(wu8 (Z3 .u64 (Z5 ((Z5 p0.fu.fP) * 8)) 32))]).size<=9223372036854775807)) (.tt (.gh 8 (.drop [38]) (.chk 6008 (decide (((((((p0.fu.fW++(bs [128]))++(strOfNums (List.replicate (Int.tmod (Q7 ((119:Int) - (p0.fu.fW.size:Int))) 64).toNat (0:Int))))++(strOfNums [(wu8 (Z3 .u64 (Z5 ((Z5 p0.fu.fP) * 8)) 56))]))++(strOfNums [(wu8 (Z3 .u64 (Z5 ((Z5 p0.fu.fP) * 8)) 48))]))++(strOfNums [(wu8 (Z3 .u64 (Z5 ((Z5 p0.fu.fP) * 8)) 40))]))++(strOfNums [(wu8 (Z3 .u64 (Z5 ((Z5 p0.fu.fP) * 8)) 32))])).size+(strOfNums [(wu8 (Z3 .u64 (Z5 ((Z5 p0.fu.fP) * 8)) 24))]).size<=9223372036854775807)) (.tt (.gh 8 (.drop [38]) (.chk 6008 (decide ((((((((p0.fu.fW++(bs [128]))++(strOfNums (List.replicate (Int.tmod (Q7 ((119:Int) - (p0.fu.fW.size:Int))) 64).toNat (0:Int))))++(strOfNums [(wu8 (Z3 .u64 (Z5 ((Z5 p0.fu.fP) * 8)) 56))]))++(strOfNums [(wu8 (Z3 .u64 (Z5 ((Z5 p0.fu.fP) * 8)) 48))]))++(strOfNums [(wu8 (Z3 .u64 (Z5 ((Z5 p0.fu.fP) * 8)) 40))]))++(strOfNums [(wu8 (Z3 .u64 (Z5 ((Z5 p0.fu.fP) * 8)) 32))]))++(strOfNums [(wu8 (Z3 .u64 (Z5 ((Z5 p0.fu.fP) * 8)) 24))])).size+(strOfNums [(wu8 (Z3 .u64 (Z5 ((Z5 p0.fu.fP) * 8)) 16))]).size<=9223372036854775807)) (.tt (.gh 8 (.drop [38]) (.chk 6008 (decide (((((((((p0.fu.fW++(bs [128]))++(strOfNums (List.replicate (Int.tmod (Q7 ((119:Int) - (p0.fu.fW.size:Int))) 64).toNat (0:Int))))++(strOfNums [(wu8 (Z3 .u64 (Z5 ((Z5 p0.fu.fP) * 8)) 56))]))++(strOfNums [(wu8 (Z3 .u64 (Z5 ((Z5 p0.fu.fP) * 8)) 48))]))++(strOfNums [(wu8 (Z3 .u64 (Z5 ((Z5 p0.fu.fP) * 8)) 40))]))++(strOfNums [(wu8 (Z3 .u64 (Z5 ((Z5 p0.fu.fP) * 8)) 32))]))++(strOfNums [(wu8 (Z3 .u64 (Z5 ((Z5 p0.fu.fP) * 8)) 24))]))++(strOfNums [(wu8 (Z3 .u64 (Z5 ((Z5 p0.fu.fP) * 8)) 16))])).size+(strOfNums [(wu8 (Z3 .u64 (Z5 ((Z5 p0.fu.fP) * 8)) 8))]).size<=9223372036854775807)) (.tt (.gh 8 (.drop [38]) (.chk 6008 (decide ((((((((((p0.fu.fW++(bs [128]))++(strOfNums (List.replicate (Int.tmod (Q7 ((119:Int) - (p0.fu.fW.size:Int))) 64).toNat (0:Int))))++(strOfNums [(wu8 (Z3 .u64 (Z5 ((Z5 p0.fu.fP) * 8)) 56))]))++(strOfNums [(wu8 (Z3 .u64 (Z5 ((Z5 p0.fu.fP) * 8)) 48))]))++(strOfNums [(wu8 (Z3 .u64 (Z5 ((Z5 p0.fu.fP) * 8)) 40))]))++(strOfNums [(wu8 (Z3 .u64 (Z5 ((Z5 p0.fu.fP) * 8)) 32))]))++(strOfNums [(wu8 (Z3 .u64 (Z5 ((Z5 p0.fu.fP) * 8)) 24))]))++(strOfNums [(wu8 (Z3 .u64 (Z5 ((Z5 p0.fu.fP) * 8)) 16))]))++(strOfNums [(wu8 (Z3 .u64 (Z5 ((Z5 p0.fu.fP) * 8)) 8))])).size+(strOfNums [(wu8 (Z3 .u64 (Z5 ((Z5 p0.fu.fP) * 8)) 0))]).size<=9223372036854775807)) (.ff (.opr 7002 (Rule.loadX 292 (.tmp 3) 42 3 ⟨1,true,(List.map U0.c U2)⟩ (.agg E0) (show 1 < J8 by decide) (by kernel_rfl)) λ_=>.call 7003 (s290_1 ((((((((((p0.fu.fW++(bs [128]))++(strOfNums (List.replicate (Int.tmod (Q7 ((119:Int) - (p0.fu.fW.size:Int))) 64).toNat (0:Int))))++(strOfNums [(wu8 (Z3 .u64 (Z5 ((Z5 p0.fu.fP) * 8)) 56))]))++(strOfNums [(wu8 (Z3 .u64 (Z5 ((Z5 p0.fu.fP) * 8)) 48))]))++(strOfNums [(wu8 (Z3 .u64 (Z5 ((Z5 p0.fu.fP) * 8)) 40))]))++(strOfNums [(wu8 (Z3 .u64 (Z5 ((Z5 p0.fu.fP) * 8)) 32))]))++(strOfNums [(wu8 (Z3 .u64 (Z5 ((Z5 p0.fu.fP) * 8)) 24))]))++(strOfNums [(wu8 (Z3 .u64 (Z5 ((Z5 p0.fu.fP) * 8)) 16))]))++(strOfNums [(wu8 (Z3 .u64 (Z5 ((Z5 p0.fu.fP) * 8)) 8))]))++(strOfNums [(wu8 (Z3 .u64 (Z5 ((Z5 p0.fu.fP) * 8)) 0))])) p0) [(zo,2)] [] λr77=>.gh 1 (.virt wh 8 1) (.bind 0 (.lp (λ(l79:(List Int)×Int)=>Ext.of .normal [(4,.str zb),(8,Rf wh l79.1),(46,.agg [.int .u32 r77.1,.int .u32 r77.2.1,.int .u32 r77.2.2.1,.int .u32 r77.2.2.2.1,.int .u32 r77.q.1,.int .u32 r77.q.2.1,.int .u32 r77.q.2.2.1,.int .u32 r77.q.2.2.2]),(47,.i l79.2)] [] [Bt wh U4 1 l79.1] (by rfl)) (λl79=>.br 0 (decide (l79.2 < 8)) (.ceq 11001 l79.2 [0,1,2,3,4,5,6,7] (λv=>bif v==0 then .app 12014 U4 l79.1 [(wu8 (Z3 .u32 r77.1 24)),(wu8 (Z3 .u32 r77.1 16)),(wu8 (Z3 .u32 r77.1 8)),(wu8 r77.1)] 1 false (by intro h;cases h) (.gh 0 (.drop [wh]) (.gh 0 (.ren 63 wh) (.done (.inl ((l79.1++[(wu8 (Z3 .u32 r77.1 24)),(wu8 (Z3 .u32 r77.1 16)),(wu8 (Z3 .u32 r77.1 8)),(wu8 r77.1)]),(Q7 (l79.2+1))))))) else bif v==1 then .app 12014 U4 l79.1 [(wu8 (Z3 .u32 r77.2.1 24)),(wu8 (Z3 .u32 r77.2.1 16)),(wu8 (Z3 .u32 r77.2.1 8)),(wu8 r77.2.1)] 1 false (by intro h;cases h) (.gh 0 (.drop [wh]) (.gh 0 (.ren 63 wh) (.done (.inl ((l79.1++[(wu8 (Z3 .u32 r77.2.1 24)),(wu8 (Z3 .u32 r77.2.1 16)),(wu8 (Z3 .u32 r77.2.1 8)),(wu8 r77.2.1)]),(Q7 (l79.2+1))))))) else bif v==2 then .app 12014 U4 l79.1 [(wu8 (Z3 .u32 r77.2.2.1 24)),(wu8 (Z3 .u32 r77.2.2.1 16)),(wu8 (Z3 .u32 r77.2.2.1 8)),(wu8 r77.2.2.1)] 1 false (by intro h;cases h) (.gh 0 (.drop [wh]) (.gh 0 (.ren 63 wh) (.done (.inl ((l79.1++[(wu8 (Z3 .u32 r77.2.2.1 24)),(wu8 (Z3 .u32 r77.2.2.1 16)),(wu8 (Z3 .u32 r77.2.2.1 8)),(wu8 r77.2.2.1)]),(Q7 (l79.2+1))))))) else bif v==3 then .app 12014 U4 l79.1 [(wu8 (Z3 .u32 r77.2.2.2.1 24)),(wu8 (Z3 .u32 r77.2.2.2.1 16)),(wu8 (Z3 .u32 r77.2.2.2.1 8)),(wu8 r77.2.2.2.1)] 1 false (by intro h;cases h) (.gh 0 (.drop [wh]) (.gh 0 (.ren 63 wh) (.done (.inl ((l79.1++[(wu8 (Z3 .u32 r77.2.2.2.1 24)),(wu8 (Z3 .u32 r77.2.2.2.1 16)),(wu8 (Z3 .u32 r77.2.2.2.1 8)),(wu8 r77.2.2.2.1)]),(Q7 (l79.2+1))))))) else bif v==4 then .app 12014 U4 l79.1 [(wu8 (Z3 .u32 r77.q.1 24)),(wu8 (Z3 .u32 r77.q.1 16)),(wu8 (Z3 .u32 r77.q.1 8)),(wu8 r77.q.1)] 1 false (by intro h;cases h) (.gh 0 (.drop [wh]) (.gh 0 (.ren 63 wh) (.done (.inl ((l79.1++[(wu8 (Z3 .u32 r77.q.1 24)),(wu8 (Z3 .u32 r77.q.1 16)),(wu8 (Z3 .u32 r77.q.1 8)),(wu8 r77.q.1)]),(Q7 (l79.2+1))))))) else bif v==5 then .app 12014 U4 l79.1 [(wu8 (Z3 .u32 r77.q.2.1 24)),(wu8 (Z3 .u32 r77.q.2.1 16)),(wu8 (Z3 .u32 r77.q.2.1 8)),(wu8 r77.q.2.1)] 1 false (by intro h;cases h) (.gh 0 (.drop [wh]) (.gh 0 (.ren 63 wh) (.done (.inl ((l79.1++[(wu8 (Z3 .u32 r77.q.2.1 24)),(wu8 (Z3 .u32 r77.q.2.1 16)),(wu8 (Z3 .u32 r77.q.2.1 8)),(wu8 r77.q.2.1)]),(Q7 (l79.2+1))))))) else bif v==6 then .app 12014 U4 l79.1 [(wu8 (Z3 .u32 r77.q.2.2.1 24)),(wu8 (Z3 .u32 r77.q.2.2.1 16)),(wu8 (Z3 .u32 r77.q.2.2.1 8)),(wu8 r77.q.2.2.1)] 1 false (by intro h;cases h) (.gh 0 (.drop [wh]) (.gh 0 (.ren 63 wh) (.done (.inl ((l79.1++[(wu8 (Z3 .u32 r77.q.2.2.1 24)),(wu8 (Z3 .u32 r77.q.2.2.1 16)),(wu8 (Z3 .u32 r77.q.2.2.1 8)),(wu8 r77.q.2.2.1)]),(Q7 (l79.2+1))))))) else bif v==7 then .app 12014 U4 l79.1 [(wu8 (Z3 .u32 r77.q.2.2.2 24)),(wu8 (Z3 .u32 r77.q.2.2.2 16)),(wu8 (Z3 .u32 r77.q.2.2.2 8)),(wu8 r77.q.2.2.2)] 1 false (by intro h;cases h) (.gh 0 (.drop [wh]) (.gh 0 (.ren 63 wh) (.done (.inl ((l79.1++[(wu8 (Z3 .u32 r77.q.2.2.2 24)),(wu8 (Z3 .u32 r77.q.2.2.2 16)),(wu8 (Z3 .u32 r77.q.2.2.2 8)),(wu8 r77.q.2.2.2)]),(Q7 (l79.2+1))))))) else .fail)) (.done (.inr l79.1))) ([],0)) (λ(e80:(List Int))=>Ext.of (.exit 2) [(4,.str zb),(8,Rf wh e80)] [] [Bt wh U4 1 e80] (by rfl)) (λe80=>.opr 14002 (Rule.textOf (ty:=U4) (s:=73) (t:=9) (e:=5) (.tmp 65) 66 wh e80 e80.length (by kernel_rfl) (by kernel_rfl) (by kernel_rfl) (by simp) (λ_=>rfl)) λ_=>.done (strOfNums e80)))))))))))))))))))))))))))))
def s279(p0:SHash1):Sp (za):=.ofFn 279 Q9 Tryz.func279 (show FnD Pg GG [0,1,2,3,4,5,6,7,8,10,30,46,47,48] Tryz.f279 [.agg [.int .u32 p0.fu.fV.a0,.int .u32 p0.fu.fV.a1,.int .u32 p0.fu.fV.a2,.int .u32 p0.fu.fV.a3,.int .u32 p0.fu.fV.a4,.int .u32 p0.fu.fV.a5,.int .u32 p0.fu.fV.a6,.int .u32 p0.fu.fV.a7,.str p0.fu.fW,.i p0.fu.fP],.agg E0] (g279 p0) (λr=>.str r) by unfold FnD;kernel_rfl)
def g262(p0 p1 p2 p3 p4 p5 p6 p7:Int)(p8:List za):TT (za):=.bind 1 (.lp (λ(l71:Int×Int×Int×Int×Int×Int×Int×Int×za×Int×Int)=>Ext.l .normal [(2,.ptr 2 0 0),(4,.str zb),(5,.ptr 5 0 0),(12,Sl 1 R6 p8),(13,.i (Y6 R6 p8)),(14,.i l71.q.q.2.2)] [(2,⟨72,true,[([.int .u32 p0,.int .u32 p1,.int .u32 p2,.int .u32 p3,.int .u32 p4,.int .u32 p5,.int .u32 p6,.int .u32 p7]++E0)]⟩),(5,⟨10,true,[[.int .u32 l71.1,.int .u32 l71.2.1,.int .u32 l71.2.2.1,.int .u32 l71.2.2.2.1,.int .u32 l71.q.1,.int .u32 l71.q.2.1,.int .u32 l71.q.2.2.1,.int .u32 l71.q.2.2.2.1,.str l71.q.q.1,.i l71.q.q.2.1]]⟩)]) (λl71=>.br 0 (decide (l71.q.q.2.2 < (Y6 R6 p8))) (.row 4001 R6 p8 l71.q.q.2.2.toNat (decide (0<=l71.q.q.2.2)) λx72=>.call 5004 (s278 x72 (SHash1.mk (SHash.mk (S8Uint32.mk l71.1 l71.2.1 l71.2.2.1 l71.2.2.2.1 l71.q.1 l71.q.2.1 l71.q.2.2.1 l71.q.2.2.2.1) l71.q.q.1 l71.q.q.2.1))) [(zo,5)] [] λr74=>.done (.inl (r74.1,r74.2.1,r74.2.2.1,r74.2.2.2.1,r74.q.1,r74.q.2.1,r74.q.2.2.1,r74.q.2.2.2.1,r74.q.q.1,r74.q.q.2,(Q7 (l71.q.q.2.2+1))))) (.done (.inr (l71.1,l71.2.1,l71.2.2.1,l71.2.2.2.1,l71.q.1,l71.q.2.1,l71.q.2.2.1,l71.q.2.2.2.1,l71.q.q.1,l71.q.q.2.1)))) (p0,p1,p2,p3,p4,p5,p6,p7,zb,0,0)) (λ(e75:Int×Int×Int×Int×Int×Int×Int×Int×za×Int)=>Ext.l (.exit 0) [(2,.ptr 2 0 0),(4,.str zb),(5,.ptr 5 0 0)] [(2,⟨72,true,[([.int .u32 p0,.int .u32 p1,.int .u32 p2,.int .u32 p3,.int .u32 p4,.int .u32 p5,.int .u32 p6,.int .u32 p7]++E0)]⟩),(5,⟨10,true,[[.int .u32 e75.1,.int .u32 e75.2.1,.int .u32 e75.2.2.1,.int .u32 e75.2.2.2.1,.int .u32 e75.q.1,.int .u32 e75.q.2.1,.int .u32 e75.q.2.2.1,.int .u32 e75.q.2.2.2.1,.str e75.q.q.1,.i e75.q.q.2]]⟩)]) (λe75=>.call 7004 (s279 (SHash1.mk (SHash.mk (S8Uint32.mk e75.1 e75.2.1 e75.2.2.1 e75.2.2.2.1 e75.q.1 e75.q.2.1 e75.q.2.2.1 e75.q.2.2.2.1) e75.q.q.1 e75.q.q.2))) [] [] λr81=>.done r81)
def s262(p0 p1 p2 p3 p4 p5 p6 p7:Int)(p8:List za):Sp (za):=.ofFn 262 Q9 Tryz.func262 (show FnD Pg GG [0,1,2,4,5,7,12,13,14,15] Tryz.f262 [.agg ([.int .u32 p0,.int .u32 p1,.int .u32 p2,.int .u32 p3,.int .u32 p4,.int .u32 p5,.int .u32 p6,.int .u32 p7]++E0),Sl 1 R6 p8] (g262 p0 p1 p2 p3 p4 p5 p6 p7 p8) (λr=>.str r) by unfold FnD;kernel_rfl)
def g263(p0:Int)(p1:za):TT (za):=.opr 1001 (Rule.makeNums (ty:=U4) (t:=73) (e:=5) (k:=.u8) (.const (.int .i64 64)) (.const (.int .i64 64)) 6 64 1 (by kernel_rfl) (by kernel_rfl) (by kernel_rfl) (by decide) (λ_=>rfl)) λ_=>.opr 2003 (Rule.copyText (ty:=U4) (dT:=73) (sT:=9) (elem:=5) (.tmp 7) (.tmp 8) 9 6 64 (List.replicate 64 (0:Int)) p1 (by kernel_rfl) (by kernel_rfl) (by simp) (λ_=>rfl) (λ_=>rfl)) λ_=>.bind 1 (.lp (λ(l87:(List Int)×Int)=>Ext.of .normal [(0,.int .u8 p0),(3,.str zb),(4,.ref 6 0 64),(11,.i 64),(12,.i l87.2)] [] [Bt 6 U4 1 l87.1] (by rfl)) (λl87=>.br 0 (decide (l87.2 < 64)) (.chk 6003 (bD l87.2 64) (.row 6004 U4 l87.1 (0+l87.2.toNat) true λx88=>.chk 6007 (bD l87.2 64) (.row 6008 U4 l87.1 (0+l87.2.toNat) true λx89=>.re 6008 (ReW.put 6 1 U4 l87.1 (0+l87.2.toNat) (K9 .u8 x88 p0)) (.done (.inl ((l87.1.set (0+l87.2.toNat) (K9 .u8 x88 p0)),(Q7 (l87.2+1)))))))) (.done (.inr l87.1))) ((D6 (List.replicate 64 (0:Int)) 0 (Z1 p1)),0)) (λ(e90:(List Int))=>Ext.of (.exit 0) [(3,.str zb),(4,.ref 6 0 64)] [] [Bt 6 U4 1 e90] (by rfl)) (λe90=>.fact (e90.length=64) inferInstance λh91=>.opr 8002 (Rule.textOf (ty:=U4) (s:=73) (t:=9) (e:=5) (.tmp 23) 24 6 e90 64 (by kernel_rfl) (by kernel_rfl) (by kernel_rfl) h91 (λ_=>rfl)) λ_=>.done (strOfNums e90))
def s263(p0:Int)(p1:za):Sp (za):=.ofFn 263 Q9 Tryz.func263 (show FnD Pg GG [0,1,3,4,5,11,12,13] Tryz.f263 [.int .u8 p0,.snap [.str p1]] (g263 p0 p1) (λr=>.str r) by unfold FnD;kernel_rfl)
def g237(p0 p1 p2 p3 p4 p5 p6 p7:Int)(p8:za)(p9:List za):TT (za):=.bind 0 (.br 0 (decide ((64:Int) < (p8.size:Int))) (.view 2004 (s262 p0 p1 p2 p3 p4 p5 p6 p7 [p8]) [] λr82=>.done r82) (.done p8)) (λ(e83:za)=>Ext.l .normal [(2,Sl 1 R6 p9),(3,.ptr 3 0 0),(4,.ptr 4 0 0),(6,.str zb)] [(3,⟨72,true,[([.int .u32 p0,.int .u32 p1,.int .u32 p2,.int .u32 p3,.int .u32 p4,.int .u32 p5,.int .u32 p6,.int .u32 p7]++E0)]⟩),(4,⟨1,true,[[.str e83]]⟩)]) (λe83=>.view 4003 (s263 92 e83) [] λr92=>.view 4006 (s263 54 e83) [] λr93=>.app 4009 R6 [r93] p9 16 true (by intros;rfl) (.view 4010 (s262 p0 p1 p2 p3 p4 p5 p6 p7 ([r93]++p9)) [(VwW.o 24 R6 ([r93]++p9))] λr94=>.view 4012 (s262 p0 p1 p2 p3 p4 p5 p6 p7 [r92,r94]) [] λr95=>.done r95))
def s237(p0 p1 p2 p3 p4 p5 p6 p7:Int)(p8:za)(p9:List za):Sp (za):=.ofFn 237 Q9 Tryz.func237 (show FnD Pg GG [0,1,2,3,4,6,7,10] Tryz.f237 [.agg ([.int .u32 p0,.int .u32 p1,.int .u32 p2,.int .u32 p3,.int .u32 p4,.int .u32 p5,.int .u32 p6,.int .u32 p7]++E0),.str p8,Sl 1 R6 p9] (g237 p0 p1 p2 p3 p4 p5 p6 p7 p8 p9) (λr=>.str r) by unfold FnD;kernel_rfl)
def g197(p0 p1:za):TT (za×Int):=.view 1004 (s235 [p0,p1]) [] λr65=>.br 0 r65 (.done (zb,3)) (.call 3001 s236 [] [] λr66=>.view 3005 (s237 r66.1 r66.2.1 r66.2.2.1 r66.2.2.2.1 r66.q.1 r66.q.2.1 r66.q.2.2.1 r66.q.2.2.2 p0 [p1]) [] λr96=>.done (r96,0))
def s197(p0 p1:za):Sp (za×Int):=.ofFn 197 Q9 Tryz.func197 (show FnD Pg GG [0,1,4,5,9] Tryz.f197 [.str p0,.str p1] (g197 p0 p1) (λr=>.tup [.str r.1,.i r.2]) by unfold FnD;kernel_rfl)
def g204(p0 p1:Int):TT (Int):=.done (bOr .i64 (bOr .i64 (bOr .i64 (bOr .i64 (N6 .i64 (Y1 .i64 p1 3968) 2) (N6 .i64 (Y1 .i64 p0 2) 7)) (N6 .i64 (Y1 .i64 p1 112) 1)) (N6 .i64 (Y1 .i64 p0 1) 4)) (Y1 .i64 p1 15))
def s204(p0 p1:Int):Sp (Int):=.ofFn 204 Q9 Tryz.func204 (show FnD Pg GG [0,1,4] Tryz.f204 [.i p0,.i p1] (g204 p0 p1) (λr=>.int .i64 r) by unfold FnD;kernel_rfl)
def g198(p0 p1:Int):TT (za×Int):=.cnd 1 [8] (.br 1004 (decide (p0 < 1)) (.done true) (.br 1008 (decide ((7:Int) < p0)) (.done true) (.done (decide (p1 < 0))))) zg λc97=>.br 0 c97 (.done (zb,2)) (.chk 3004 (decide ((0:Int)<=(Q7 ((8:Int) * p0)))) (.br 0 ((Z3 .i64 p1 (Q7 ((8:Int) * p0))) != 0) (.done (zb,6)) (.opr 5002 (Rule.makeD (ty:=U4) (t:=73) (e:=5) (zv:=.int .u8 0) (zc:=.int .u8 0) (0:Int) (.tmp 25) (.tmp 25) 26 p0 p0 1 (by kernel_rfl) (by kernel_rfl) (by kernel_rfl) rfl ⟨rfl,rfl,rfl⟩ (λ_ _=>by constructor)) λ_=>.gh 8 (.len 26 ((List.replicate p0.toNat (0:Int)).length) [p0.toNat] (by simp)) (.bind 1 (.lp (λ(l100:(List Int)×Int)=>Ext.of .normal [(0,.i p0),(1,.i p1),(4,.str zb),(5,.i 0),(6,Rf 26 l100.1),(28,.i ((List.replicate p0.toNat (0:Int)).length:Int)),(29,.i l100.2)] [] [Bt 26 U4 1 l100.1] (by rfl)) (λl100=>.br 0 (decide (l100.2 < ((List.replicate p0.toNat (0:Int)).length:Int))) (.chk 9009 (decide ((0:Int)<=(Q7 ((8:Int) * (Q7 ((Q7 (p0 - 1)) - l100.2)))))) (.chk 9011 (bD l100.2 l100.1.length) (.row 9012 U4 l100.1 (0+l100.2.toNat) true λx101=>.re 9012 (ReW.put 26 1 U4 l100.1 (0+l100.2.toNat) (wu8 (Z3 .i64 p1 (Q7 ((8:Int) * (Q7 ((Q7 (p0 - 1)) - l100.2))))))) (.gh 12 (.len 26 ((l100.1.set (0+l100.2.toNat) (wu8 (Z3 .i64 p1 (Q7 ((8:Int) * (Q7 ((Q7 (p0 - 1)) - l100.2))))))).length) [l100.1.length] (by simp)) (.done (.inl ((l100.1.set (0+l100.2.toNat) (wu8 (Z3 .i64 p1 (Q7 ((8:Int) * (Q7 ((Q7 (p0 - 1)) - l100.2))))))),(Q7 (l100.2+1))))))))) (.done (.inr l100.1))) ((List.replicate p0.toNat (0:Int)),0)) (λ(e102:(List Int))=>Ext.of (.exit 1) [(4,.str zb),(5,.i 0),(6,Rf 26 e102)] [] [Bt 26 U4 1 e102] (by rfl)) (λe102=>.opr 11002 (Rule.textOf (ty:=U4) (s:=73) (t:=9) (e:=5) (.tmp 44) 45 26 e102 e102.length (by kernel_rfl) (by kernel_rfl) (by kernel_rfl) (by simp) (λ_=>rfl)) λ_=>.done ((strOfNums e102),0))))))
def s198(p0 p1:Int):Sp (za×Int):=.ofFn 198 Q9 Tryz.func198 (show FnD Pg GG [0,1,4,5,6,7,8,19,28,29,30] Tryz.f198 [.i p0,.i p1] (g198 p0 p1) (λr=>.tup [.str r.1,.i r.2]) by unfold FnD;kernel_rfl)
def s281(p0:Int):Sp (Int):=.ofFn 281 Q9 Tryz.func281 (show FnD Pg GG [0,2] Tryz.f281 [.int .u64 p0] (.done (Y1 .i64 (Q7 (Z5 ((Z5 ((Z5 ((Y1 .u64 (Z5 ((Z3 .u64 (Z5 ((Y1 .u64 (Z3 .u64 (Z5 ((Y1 .u64 (Z3 .u64 p0 1) 6148914691236517205)+(Y1 .u64 p0 6148914691236517205))) 2) 3689348814741910323)+(Y1 .u64 (Z5 ((Y1 .u64 (Z3 .u64 p0 1) 6148914691236517205)+(Y1 .u64 p0 6148914691236517205))) 3689348814741910323))) 4)+(Z5 ((Y1 .u64 (Z3 .u64 (Z5 ((Y1 .u64 (Z3 .u64 p0 1) 6148914691236517205)+(Y1 .u64 p0 6148914691236517205))) 2) 3689348814741910323)+(Y1 .u64 (Z5 ((Y1 .u64 (Z3 .u64 p0 1) 6148914691236517205)+(Y1 .u64 p0 6148914691236517205))) 3689348814741910323))))) 1085102592571150095)+(Z3 .u64 (Y1 .u64 (Z5 ((Z3 .u64 (Z5 ((Y1 .u64 (Z3 .u64 (Z5 ((Y1 .u64 (Z3 .u64 p0 1) 6148914691236517205)+(Y1 .u64 p0 6148914691236517205))) 2) 3689348814741910323)+(Y1 .u64 (Z5 ((Y1 .u64 (Z3 .u64 p0 1) 6148914691236517205)+(Y1 .u64 p0 6148914691236517205))) 3689348814741910323))) 4)+(Z5 ((Y1 .u64 (Z3 .u64 (Z5 ((Y1 .u64 (Z3 .u64 p0 1) 6148914691236517205)+(Y1 .u64 p0 6148914691236517205))) 2) 3689348814741910323)+(Y1 .u64 (Z5 ((Y1 .u64 (Z3 .u64 p0 1) 6148914691236517205)+(Y1 .u64 p0 6148914691236517205))) 3689348814741910323))))) 1085102592571150095) 8)))+(Z3 .u64 (Z5 ((Y1 .u64 (Z5 ((Z3 .u64 (Z5 ((Y1 .u64 (Z3 .u64 (Z5 ((Y1 .u64 (Z3 .u64 p0 1) 6148914691236517205)+(Y1 .u64 p0 6148914691236517205))) 2) 3689348814741910323)+(Y1 .u64 (Z5 ((Y1 .u64 (Z3 .u64 p0 1) 6148914691236517205)+(Y1 .u64 p0 6148914691236517205))) 3689348814741910323))) 4)+(Z5 ((Y1 .u64 (Z3 .u64 (Z5 ((Y1 .u64 (Z3 .u64 p0 1) 6148914691236517205)+(Y1 .u64 p0 6148914691236517205))) 2) 3689348814741910323)+(Y1 .u64 (Z5 ((Y1 .u64 (Z3 .u64 p0 1) 6148914691236517205)+(Y1 .u64 p0 6148914691236517205))) 3689348814741910323))))) 1085102592571150095)+(Z3 .u64 (Y1 .u64 (Z5 ((Z3 .u64 (Z5 ((Y1 .u64 (Z3 .u64 (Z5 ((Y1 .u64 (Z3 .u64 p0 1) 6148914691236517205)+(Y1 .u64 p0 6148914691236517205))) 2) 3689348814741910323)+(Y1 .u64 (Z5 ((Y1 .u64 (Z3 .u64 p0 1) 6148914691236517205)+(Y1 .u64 p0 6148914691236517205))) 3689348814741910323))) 4)+(Z5 ((Y1 .u64 (Z3 .u64 (Z5 ((Y1 .u64 (Z3 .u64 p0 1) 6148914691236517205)+(Y1 .u64 p0 6148914691236517205))) 2) 3689348814741910323)+(Y1 .u64 (Z5 ((Y1 .u64 (Z3 .u64 p0 1) 6148914691236517205)+(Y1 .u64 p0 6148914691236517205))) 3689348814741910323))))) 1085102592571150095) 8))) 16)))+(Z3 .u64 (Z5 ((Z5 ((Y1 .u64 (Z5 ((Z3 .u64 (Z5 ((Y1 .u64 (Z3 .u64 (Z5 ((Y1 .u64 (Z3 .u64 p0 1) 6148914691236517205)+(Y1 .u64 p0 6148914691236517205))) 2) 3689348814741910323)+(Y1 .u64 (Z5 ((Y1 .u64 (Z3 .u64 p0 1) 6148914691236517205)+(Y1 .u64 p0 6148914691236517205))) 3689348814741910323))) 4)+(Z5 ((Y1 .u64 (Z3 .u64 (Z5 ((Y1 .u64 (Z3 .u64 p0 1) 6148914691236517205)+(Y1 .u64 p0 6148914691236517205))) 2) 3689348814741910323)+(Y1 .u64 (Z5 ((Y1 .u64 (Z3 .u64 p0 1) 6148914691236517205)+(Y1 .u64 p0 6148914691236517205))) 3689348814741910323))))) 1085102592571150095)+(Z3 .u64 (Y1 .u64 (Z5 ((Z3 .u64 (Z5 ((Y1 .u64 (Z3 .u64 (Z5 ((Y1 .u64 (Z3 .u64 p0 1) 6148914691236517205)+(Y1 .u64 p0 6148914691236517205))) 2) 3689348814741910323)+(Y1 .u64 (Z5 ((Y1 .u64 (Z3 .u64 p0 1) 6148914691236517205)+(Y1 .u64 p0 6148914691236517205))) 3689348814741910323))) 4)+(Z5 ((Y1 .u64 (Z3 .u64 (Z5 ((Y1 .u64 (Z3 .u64 p0 1) 6148914691236517205)+(Y1 .u64 p0 6148914691236517205))) 2) 3689348814741910323)+(Y1 .u64 (Z5 ((Y1 .u64 (Z3 .u64 p0 1) 6148914691236517205)+(Y1 .u64 p0 6148914691236517205))) 3689348814741910323))))) 1085102592571150095) 8)))+(Z3 .u64 (Z5 ((Y1 .u64 (Z5 ((Z3 .u64 (Z5 ((Y1 .u64 (Z3 .u64 (Z5 ((Y1 .u64 (Z3 .u64 p0 1) 6148914691236517205)+(Y1 .u64 p0 6148914691236517205))) 2) 3689348814741910323)+(Y1 .u64 (Z5 ((Y1 .u64 (Z3 .u64 p0 1) 6148914691236517205)+(Y1 .u64 p0 6148914691236517205))) 3689348814741910323))) 4)+(Z5 ((Y1 .u64 (Z3 .u64 (Z5 ((Y1 .u64 (Z3 .u64 p0 1) 6148914691236517205)+(Y1 .u64 p0 6148914691236517205))) 2) 3689348814741910323)+(Y1 .u64 (Z5 ((Y1 .u64 (Z3 .u64 p0 1) 6148914691236517205)+(Y1 .u64 p0 6148914691236517205))) 3689348814741910323))))) 1085102592571150095)+(Z3 .u64 (Y1 .u64 (Z5 ((Z3 .u64 (Z5 ((Y1 .u64 (Z3 .u64 (Z5 ((Y1 .u64 (Z3 .u64 p0 1) 6148914691236517205)+(Y1 .u64 p0 6148914691236517205))) 2) 3689348814741910323)+(Y1 .u64 (Z5 ((Y1 .u64 (Z3 .u64 p0 1) 6148914691236517205)+(Y1 .u64 p0 6148914691236517205))) 3689348814741910323))) 4)+(Z5 ((Y1 .u64 (Z3 .u64 (Z5 ((Y1 .u64 (Z3 .u64 p0 1) 6148914691236517205)+(Y1 .u64 p0 6148914691236517205))) 2) 3689348814741910323)+(Y1 .u64 (Z5 ((Y1 .u64 (Z3 .u64 p0 1) 6148914691236517205)+(Y1 .u64 p0 6148914691236517205))) 3689348814741910323))))) 1085102592571150095) 8))) 16))) 32)))) 127):TT (Int)) (λr=>.int .i64 r) by unfold FnD;kernel_rfl)
def s265(p0:Int):Sp (Int):=.ofFn 265 Q9 Tryz.func265 (show FnD Pg GG [0,2] Tryz.f265 [.int .u64 p0] (.ff (.call 2002 (s281 p0) [] [] λr103=>.done r103):TT (Int)) (λr=>.int .i64 r) by unfold FnD;kernel_rfl)
def s239(p0:Int):Sp (Bool):=.ofFn 239 Q9 Tryz.func239 (show FnD Pg GG [0,2] Tryz.f239 [.i p0] (.cnd 1 [2] (.br 1004 (decide ((1:Int)<=p0)) (.br 1008 (decide (p0<=8)) (.call 1010 (s265 (Z5 p0)) [] [] λr104=>.done (r104==1)) (.done false)) (.done false)) zg λc105=>.done c105:TT (Bool)) (λr=>.bool r) by unfold FnD;kernel_rfl)
def g205(p0:za)(p1:Int):TT (za×Int):=.call 1002 (s239 p1) [] [] λr106=>.br 0 (!r106) (.done (zb,2)) (.opr 3002 (Rule.octets (ty:=U4) (s:=9) (t:=73) (e:=5) (.tmp 10) 11 p0 (by kernel_rfl) (by kernel_rfl) (by kernel_rfl) (by kernel_rfl) (λ_=>rfl)) λ_=>.gh 1 (.ren 11 600015) (.bind 0 (.lp (λ(l108:(List Int))=>Ext.of .normal [(1,.i p1),(4,.str zb),(5,.i 0),(6,Rf 600015 l108)] [] [Bt 600015 U4 1 l108] (by rfl)) (λl108=>.chk 4004 (!(p1==0)) (.br 0 ((Int.tmod (l108.length:Int) p1) != 0) (.app 5003 U4 l108 [0] 1 false (by intro h;cases h) (.gh 0 (.drop [600015]) (.gh 0 (.ren 19 600015) (.done (.inl (l108++[0])))))) (.done (.inr l108)))) (Z1 p0)) (λ(e109:(List Int))=>Ext.of (.exit 0) [(4,.str zb),(5,.i 0),(6,Rf 600015 e109)] [] [Bt 600015 U4 1 e109] (by rfl)) (λe109=>.opr 6002 (Rule.textOf (ty:=U4) (s:=73) (t:=9) (e:=5) (.tmp 20) 21 600015 e109 e109.length (by kernel_rfl) (by kernel_rfl) (by kernel_rfl) (by simp) (λ_=>rfl)) λ_=>.done ((strOfNums e109),0))))
def s205(p0:za)(p1:Int):Sp (za×Int):=.ofFn 205 Q9 Tryz.func205 (show FnD Pg GG [0,1,4,5,6,9,16] Tryz.f205 [.str p0,.i p1] (g205 p0 p1) (λr=>.tup [.str r.1,.i r.2]) by unfold FnD;kernel_rfl)
def g193(p0:List Q3):TT (Int):=.bind 1 (.lp (λ(l112:Int×Int)=>Ext.l .normal [(2,.i 0),(3,.i l112.1),(6,Sl 2 Q2 p0),(7,.i (Y6 Q2 p0)),(8,.i l112.2)] []) (λl112=>.br 0 (decide (l112.2 < (Y6 Q2 p0))) (.row 4001 Q2 p0 l112.2.toNat (decide (0<=l112.2)) λx113=>.done (.inl ((Q7 (l112.1+(Q7 ((4:Int)+(Q7 ((Q7 (Int.tdiv (Q7 ((x113.fp.size:Int)+3)) 4)) * 4)))))),(Q7 (l112.2+1))))) (.done (.inr l112.1))) (0,0)) (λ(e114:Int)=>Ext.l (.exit 0) [(2,.i 0),(3,.i e114)] []) (λe114=>.done e114)
def s193(p0:List Q3):Sp (Int):=.ofFn 193 Q9 Tryz.func193 (show FnD Pg GG [0,2,3,5,6,7,8,9] Tryz.f193 [Sl 2 Q2 p0] (g193 p0) (λr=>.int .i64 r) by unfold FnD;kernel_rfl)
end Go.Proofs.YtjpahkpfkohfkaaGreatDoor
namespace Go.Proofs.YtjpahkpfkohfkaaGreatDoor
open Go Go.RowKit
theorem bInfo5:(Tryz.prog.info? 5).map (λi=>(i.zero,i.size,i.bytes))=some (some (.int .u8 0),1,1):=by kernel_rfl
theorem bSizeB:∃j,Tryz.prog.info? 264=some j/\j.size=2:=by
 have h:(Tryz.prog.info? 264).map (·.size)=some 2:=by kernel_rfl
 grind [Option.map_eq_some_iff]
theorem bLies:liesAt Tryz.prog Tryz.prog.depth 266 (2 / Tryz.prog.cellsOf 266) 0 264 1=true:=by kernel_rfl
theorem bCells:Tryz.prog.cellsOf 5=1:=by kernel_rfl
set_option maxHeartbeats 1000000 in
set_option maxRecDepth 100000 in
theorem bCcUsed(b:Nat)(w:World)(h0:w.cell? ⟨b,0,none⟩=some (.pointer (some ⟨b,0,none⟩))) :
  Calls Tryz.prog 238 #[.pointer (some ⟨b,0,none⟩)] w λe w'=>e=.returned (.tuple #[])/\w'=w:=by
 obtain⟨j,hj,_⟩:=bSizeB
 go_enter Tryz.func238,Tryz.ntmps238
 go_wp2
 rw[Lib.run_neq_ptr_same w _ Tryz.underlying262 hj]
 go_wp2
 go_end0
 grind
set_option maxHeartbeats 1000000 in
set_option maxRecDepth 100000 in
theorem bCcFresh(b:Nat)(w:World)(h0:w.cell? ⟨b,0,none⟩=some (.pointer none))(hsh:w.shape? b=some (266,2))(hfz:w.frozen? ⟨b,0,none⟩=false) :
  Calls Tryz.prog 238 #[.pointer (some ⟨b,0,none⟩)] w λe w'=>e=.returned (.tuple #[])/\w'=w.setCell ⟨b,0,none⟩ (.pointer (some ⟨b,0,none⟩)):=by
 obtain⟨j,hj,hjs⟩:=bSizeB
 go_enter Tryz.func238,Tryz.ntmps238
 go_wp2
 rw[Lib.run_to_unsafe w ⟨b,0,none⟩ Tryz.underlying262 Tryz.underlying324 hj (by grind) hsh (Nat.zero_lt_succ 1)]
 simp only[Result.andThen]
 rw[Oper.upon_value]
 go_wp2
 rw[run_callFunc_extern Tryz.func264 (by kernel_rfl) (by kernel_rfl) (by kernel_rfl) (e:=Extern.AbiNoEscape.same) (by kernel_rfl)]
 rw[Lib.run_noEscape]
 simp only[Result.andThen]
 rw[Oper.upon_value]
 go_wp2
 rw[Lib.run_from_unsafe w ⟨b,0,none⟩ Tryz.underlying324 Tryz.underlying262 hj hsh bLies]
 simp only[Result.andThen]
 rw[Oper.upon_value]
 go_wp2
 go_end0
 grind
def Kept(b:Nat)(w w':World):Prop:=∀k cs e fz,k≠b->e≠5->w.heap[k]?=some (.cells cs e fz)->w'.heap[k]?=some (.cells cs e fz)
theorem Kept.refl(b:Nat)(w:World):Kept b w w:=λ_ _ _ _ _ _ h=>h
theorem Kept.trans{b:Nat}{w w1 w2:World}(h:Kept b w w1)(k:Kept b w1 w2):Kept b w w2:=λi cs e fz h1 h2 h3=>k i cs e fz h1 h2 (h i cs e fz h1 h2 h3)
theorem Kept.below{b:Nat}{w w':World}(h:Below w.heap.size w w'):Kept b w w':=λi _ _ _ _ _ h3=>(h.block i (by grind)).trans h3
theorem Kept.setCell{b:Nat}{w w':World}(h:Kept b w w')(o:Nat)(v:Value):Kept b w (w'.setCell ⟨b,o,none⟩ v):=λi cs e fz h1 h2 h3=>by
 have h4:=h i cs e fz h1 h2 h3
 have hne:b≠i:=λe'=>h1 e'.symm
 show (w'.heap.modify b _)[i]?=_
 grind
theorem bCc(B b:Nat)(bs:List Value)(w:World)(h:Lib.IsBuilder 266 5 B b bs w) :
  Calls Tryz.prog 238 #[.pointer (some ⟨b,0,none⟩)] w λe w'=>e=.returned (.tuple #[])/\(Lib.BuilderAt 266 5 B b (.pointer (some ⟨b,0,none⟩)) bs w'/\Below B w w'/\Kept b w w'):=by
 rcases h with h|h
 ·refine(bCcFresh b w h.cell0 h.shape h.frozen0).mono ?_
  rintro e w' ⟨rfl,rfl⟩
  exact⟨rfl,h.used _,(Below.refl B w).setCell (p:=⟨b,0,none⟩) h.1 _,(Kept.refl b w).setCell _ _⟩
 ·refine(bCcUsed b w h.cell0).mono ?_
  rintro e w' ⟨rfl,rfl⟩
  exact⟨rfl,h,Below.refl B _,Kept.refl b _⟩
set_option maxHeartbeats 2000000 in
set_option maxRecDepth 100000 in
theorem bWs(B b:Nat)(bs:List Value)(s:za)(w:World)(h:Lib.IsBuilder 266 5 B b bs w)(hlen:bs.length+s.size<=140737488355328)(hBw:B<=w.heap.size) :
  Calls Tryz.prog 202 #[.pointer (some ⟨b,0,none⟩),.string s] w λe w'=>e=.returned (.tuple #[.int .i64 s.size,.nilIface])/\(Lib.BuilderAt 266 5 B b (.pointer (some ⟨b,0,none⟩)) (bs++Lib.strCells s) w'/\Below B w w'/\Kept b w w'):=by
 obtain⟨i0,hi,hz0,hz1,hz2⟩:=info_parts bInfo5
 go_enter Tryz.func202,Tryz.ntmps202
 go_wp2_with (go_at_call 238;refine(bCc B b bs _ h).mono ?_)
 rintro e w1 ⟨rfl,h1,hb1,hk1⟩
 obtain⟨hB,v,hbk,hown,hne⟩:=h1
 have c0:w1.cell? ⟨b,0,none⟩=some (.pointer (some ⟨b,0,none⟩)):=by rw[Lib.cell_of_heap hbk];rfl
 have c1:w1.cell? ⟨b,1,none⟩=some v:=by rw[Lib.cell_of_heap hbk];rfl
 go_wp2_with (at_builtin;refine Lib.wpList_append_own_string _ rfl _ _ 73 9 rfl B 5 i0 Tryz.underlying73 Tryz.underlying9 hi hz0 hz1 hz2 _ _ _ rfl hown s rfl ?c3 ?c4 ?c5 ?_)
 case c3=>unfold maxLen;omega
 case c4=>omega
 case c5=>grind
 intro v' w2 hown' hgrow _
 have hlt:b < w1.heap.size:=(by grind)
 have hb2:w2.heap[b]?=some (.cells #[.pointer (some ⟨b,0,none⟩),v] 266 (0,0)):=by
  rw[hgrow.block b hlt (λe=>hne e.symm)]
  exact hbk
 have d0:w2.cell? ⟨b,0,none⟩=some (.pointer (some ⟨b,0,none⟩)):=by rw[Lib.cell_of_heap hb2];rfl
 have d1:w2.cell? ⟨b,1,none⟩=some v:=by rw[Lib.cell_of_heap hb2];rfl
 have f1:w2.frozen? ⟨b,1,none⟩=false:=Lib.frozen_of_heap hb2 1
 obtain⟨ao,n',cap,rfl⟩:∃ao n' cap,v'=.slice ao n' cap:=by
  rcases hown'.2 with⟨hv,_⟩|⟨g,cap,cur,hv,_⟩
  ·grind
  grind
 go_wp2
 go_ret2
 have hk2:Kept b w1 w2:=λi cs e fz h1 h2 h3=>by
  refine(hgrow.block i (by grind) λe'=>?_).trans h3
  rcases hown.2 with⟨hv,_⟩|⟨g,_,_,hv,_,hg,_⟩
  ·rw[hv] at e';cases e'
  ·rw[hv] at e'
   obtain rfl:g=i:=(wq e').symm
   grind
 refine⟨rfl,?_,?_,(hk1.trans hk2).setCell _ _⟩
 ·grind [Lib.BuilderAt.put,Lib.strCells_length,Lib.strCells]
 ·exact(hb1.grown hgrow (by grind) (λk hk=>(hown.lt k hk).1)).setCell (p:=⟨b,1,none⟩) hB _
set_option maxHeartbeats 1000000 in
set_option maxRecDepth 100000 in
theorem bStr(B b:Nat)(l:List UInt8)(w:World)(h:Lib.IsBuilder 266 5 B b (Lib.byteCells l) w)(h0:l≠[]) :
  Calls Tryz.prog 206 #[.pointer (some ⟨b,0,none⟩)] w λe w'=>e=.returned (.string ⟨l.toArray⟩)/\Below B w w':=by
 obtain⟨p,hB,v,hbk,hown,hne⟩:∃p,Lib.BuilderAt 266 5 B b p (Lib.byteCells l) w:=by
  rcases h with h|h
  ·grind
  grind
 have hl0:l.length≠0:=by simpa using h0
 rw[Lib.byteCells_length] at hown
 obtain⟨g,cap,cur,rfl,hbg,hg,hnc,hcm,hcs,htake⟩:∃g cap cur,v=.slice (some ⟨g,0,none⟩) l.length cap/\B<=g/\w.heap[g]?=some (.cells cur 5 (0,0))/\l.length<=cap/\cap<=maxLen/\cur.size=cap * 1/\cur.toList.take (l.length * 1)=Lib.byteCells l:=by
  rcases hown.2 with⟨_,hz⟩|⟨g,cap,cur,hv,r⟩
  ·grind
  ·exact⟨g,cap,cur,hv,r⟩
 have c1:w.drew.cell? ⟨b,1,none⟩=some (.slice (some ⟨g,0,none⟩) l.length cap):=by
  have:w.drew.heap[b]?=some (.cells #[p,.slice (some ⟨g,0,none⟩) l.length cap] 266 (0,0)):=hbk
  rw[Lib.cell_of_heap this];rfl
 have hSD:(Builtin.unsafeSliceData_ #[73] 298 #[.slice (some ⟨g,0,none⟩) l.length cap]).run Tryz.prog w.drew=.ok (.pointer (some ⟨g,0,none⟩)) w.drew:=
  (by grind [Lib.run_unsafeSliceData_row])
 have hUS:(Builtin.unsafeString_ #[298,3] 9 #[.pointer (some ⟨g,0,none⟩),.int .i64 l.length]).run Tryz.prog w.drew=.ok (.string ⟨l.toArray⟩) (w.drew.freeze ⟨g,0,none⟩ l.length):=by
  refine Lib.run_unsafeString_row w.drew 298 3 9 5 Tryz.underlying298 bCells g cur.size (by have hg':w.drew.heap[g]?=some (.cells cur 5 (0,0)):=hg;simp[World.shape?,hg']) l h0 (by omega) (by grind [maxLen]) ?_
  intro j x hx
  have:=hown.cells (g:=g) rfl j (.int .u8 x.toNat) (by simp[Lib.byteCells,hx])
  exact this
 have Q9:Tryz.prog.follows .mixedOrders=true:=by kernel_rfl
 go_enter Tryz.func206,Tryz.ntmps206
 go_wp2
 go_region_o
 all_goals (go_wp2;go_ret;exact⟨rfl,Lib.below_freeze (Below.drew (Below.refl B w)) (p:=⟨g,0,none⟩) hbg _⟩)
end Go.Proofs.YtjpahkpfkohfkaaGreatDoor
namespace Go.Proofs.YtjpahkpfkohfkaaGreatDoor
open Go Go.EV Go.RowKit
def GOK(w:World):Prop:=∃γ,V3 GG γ w
theorem GOK.below{w w':World}(h:GOK w)(b:Below w.heap.size w w'):GOK w':=by
 obtain⟨γ,h⟩:=h
 exact⟨γ,h.grow (Grow.below b)⟩
theorem calls_of{f:FuncId}{args:List V}{res:V}(h:CallC Tryz.prog GG f args (ofL []) res (ofL []))(hd:dataL args=true){γ:Gh}{w:World}{xs:Array Value}(hg:V3 GG γ w)(ha:U3 γ w (ofL []) uTop args xs) :
  Calls Tryz.prog f xs w λe w'=>∃v γ',e=.returned v/\Rep γ' w' (ofL []) (λ_=>true) res v/\Below w.heap.size w w':=by
 let γs:Gh:={ loc:=λ_=>none,own:=λ_=>none,lim:=γ.lim }
 have ha':U3 γs w (ofL []) uTop args xs:=⟨ha.1,λi c v hc hv=>Rep.dataMono (γ:=γ) (γ':=γs) (λB o v h1 h2=>⟨h1,h2⟩) (ha.2 i c v hc hv) (dataL_get hd hc)⟩
 refine(h γs w xs (λi cells hi=>(hg i cells hi).mono λB o v h1 h2=>⟨h1,h2⟩) (λB x hx=>by simp[γs] at hx) ha' (λb k hk=>by simp[ofL] at hk)).mono λe w' hp=>?_
 obtain⟨v,γe,rfl,hr,_,hrep,_,_⟩:=hp
 exact⟨v,γe,rfl,hrep,hr.os,hr.tape,hr.output,hr.size,λB hB=>(hr.free B hB rfl).1⟩
theorem args_ii(γ:Gh)(w:World)(a b:Int):U3 γ w (ofL []) uTop [.int .i64 a,.int .i64 b] #[.int .i64 a,.int .i64 b]:=by
 refine⟨rfl,λi c v hc hv=>?_⟩
 match i,hc,hv with
 | 0,hc,hv=>simp at hc hv;subst hc;subst hv;exact .data (.int _ _)
 | 1,hc,hv=>simp at hc hv;subst hc;subst hv;exact .data (.int _ _)
theorem args_si(γ:Gh)(w:World)(a:za)(b:Int):U3 γ w (ofL []) uTop [.str a,.int .i64 b] #[.string a,.int .i64 b]:=by
 refine⟨rfl,λi c v hc hv=>?_⟩
 match i,hc,hv with
 | 0,hc,hv=>simp at hc hv;subst hc;subst hv;exact .data (.str _)
 | 1,hc,hv=>simp at hc hv;subst hc;subst hv;exact .data (.int _ _)
theorem rep_si{γ:Gh}{w:World}{s:za}{n:Int}{v:Value}(h:Rep γ w (ofL []) (λ_=>true) (.tup [.str s,.int .i64 n]) v):v=.tuple #[.string s,.int .i64 n]:=by
 obtain⟨vs,rfl,h1,h2⟩:=h.tup_inv
 match vs,h1 with
 | [x,y],_=>
  have hx:=(h2 0 _ x rfl rfl).str_inv
  have hy:=(h2 1 _ y rfl rfl).int_inv
  subst hx;subst hy;rfl
theorem wPut(n v:Int){r:za×Int}(h:(g198 n v).run=some r)(w:World)(hG:GOK w) :
  Calls Tryz.prog 198 #[.int .i64 n,.int .i64 v] w λe w'=>e=.returned (.tuple #[.string r.1,.int .i64 r.2])/\Below w.heap.size w w':=by
 obtain⟨γ0,hg⟩:=hG
 exact(calls_of ((s198 n v).ok r h) rfl hg (args_ii γ0 w n v)).mono λe w' hp=>by
  obtain⟨x,γ,rfl,hr,hb⟩:=hp
  rw[rep_si hr];exact⟨rfl,hb⟩
theorem wPad(s:za)(n:Int){r:za×Int}(h:(g205 s n).run=some r)(w:World)(hG:GOK w) :
  Calls Tryz.prog 205 #[.string s,.int .i64 n] w λe w'=>e=.returned (.tuple #[.string r.1,.int .i64 r.2])/\Below w.heap.size w w':=by
 obtain⟨γ0,hg⟩:=hG
 exact(calls_of ((s205 s n).ok r h) rfl hg (args_si γ0 w s n)).mono λe w' hp=>by
  obtain⟨x,γ,rfl,hr,hb⟩:=hp
  rw[rep_si hr];exact⟨rfl,hb⟩
theorem wKind(n v:Int){r:Int}(h:(g204 n v).run=some r)(w:World)(hG:GOK w) :
  Calls Tryz.prog 204 #[.int .i64 n,.int .i64 v] w λe w'=>e=.returned (.int .i64 r)/\Below w.heap.size w w':=by
 obtain⟨γ0,hg⟩:=hG
 exact(calls_of ((s204 n v).ok r h) rfl hg (args_ii γ0 w n v)).mono λe w' hp=>by
  obtain⟨x,γ,rfl,hr,hb⟩:=hp
  have:x=.int .i64 r:=hr.int_inv
  rw[this];exact⟨rfl,hb⟩
theorem wSize{γ:Gh}{w:World}(l:List Q3){v:Value}(hg:V3 GG γ w)(hv:Rep γ w (ofL []) uTop (.sl false 2 (List.map Q2.c l)) v){r:Int}(h:(g193 l).run=some r) :
  Calls Tryz.prog 193 #[v] w λe w'=>e=.returned (.int .i64 r)/\Below w.heap.size w w':=
 (calls_of (args:=[.sl false 2 (List.map Q2.c l)]) ((s193 l).ok r h) rfl hg ⟨rfl,λi c x hc hx=>by
  match i,hc,hx with
  | 0,hc,hx=>simp at hc hx;subst hc;subst hx;exact hv⟩).mono λe w' hp=>by
  obtain⟨x,γ,rfl,hr,hb⟩:=hp
  have:x=.int .i64 r:=hr.int_inv
  rw[this];exact⟨rfl,hb⟩
theorem bld_below{T e:TypeId}{B b:Nat}{bs:List Value}{w w':World}(h:Lib.IsBuilder T e B b bs w)(k:Below w.heap.size w w'):Lib.IsBuilder T e B b bs w':=by
 have key:∀p,Lib.BuilderAt T e B b p bs w->Lib.BuilderAt T e B b p bs w':=λp h=>by
  obtain⟨hB,v,hb,hown,hne⟩:=h
  refine⟨hB,v,(k.block b (wk.1 hb).1).trans hb,⟨hown.1,?_⟩,hne⟩
  rcases hown.2 with h2|⟨g,cap,cur,h1,h2,h3,h4⟩
  ·exact .inl h2
  ·exact .inr ⟨g,cap,cur,h1,h2,(k.block g (wk.1 h3).1).trans h3,h4⟩
 exact h.imp (key _) (key _)
theorem bPut(B b:Nat)(bs:List Value)(n v:Int){r:za×Int}(hr:(g198 n v).run=some r)(w:World)(h:Lib.IsBuilder 266 5 B b bs w)(hlen:bs.length+r.1.size<=140737488355328)(hBw:B<=w.heap.size)(hG:GOK w) :
  Calls Tryz.prog 203 #[.pointer (some ⟨b,0,none⟩),.int .i64 n,.int .i64 v] w λe w'=>e=.returned (.tuple #[])/\(Lib.IsBuilder 266 5 B b (bs++Lib.strCells r.1) w'/\Below B w w'/\Kept b w w'):=by
 go_enter Tryz.func203,Tryz.ntmps203
 go_wp2_with (go_at_call 198;refine(wPut n v hr _ hG).mono ?_)
 rintro e w1 ⟨rfl,hb1⟩
 have h1:=bld_below h hb1
 have hB1:B<=w1.heap.size:=Nat.le_trans hBw hb1.size
 go_wp2_with (go_at_call 202;refine(bWs B b bs r.1 _ h1 hlen hB1).mono ?_)
 rintro e w2 ⟨rfl,h2,hb2,hk2⟩
 go_wp2
 go_end0
 exact⟨rfl,.inr h2,(hb1.mono hBw).trans hb2,(Kept.below hb1).trans hk2⟩
def wsM(s t:za):Option za:=if s.size+t.size<=140737488355328 then some (s++t) else none
def ptM(n v:Int)(s:za):Option za:=(g198 n v).run.bind λr=>wsM s r.1
def atM(s:za)(a:Q3):Option za:=
 (ptM 2 a.fm s).bind λs=>(ptM 2 (a.fp.size:Int) s).bind λs=>(g205 a.fp 4).run.bind λr=>wsM s r.1
def hdM(c m:Int)(id:za)(l:List Q3)(more:Int):Option za:=
 (g204 c m).run.bind λk=>(ptM 2 k zb).bind λs=>(g193 l).run.bind λz=>(ptM 2 (Q7 (z+more)) s).bind λs=>(ptM 4 554869826 s).bind λs=>wsM s id
def writtenM(c m:Int)(id:za)(l:List Q3)(more:Int):Option za:=
 (hdM c m id l more).bind λs=>(l.foldlM atM s).bind λs=>if s.size=0\/4294967296 < l.length then none else some s
theorem wsM_some{s t r:za}(h:wsM s t=some r):r=s++t/\s.size+t.size<=140737488355328:=by
 unfold wsM at h
 split at h
 ·rename_i hc;exact⟨(wq h).symm,hc⟩
 ·cases h
theorem bytes_app(s t:za):Lib.strCells (s++t)=Lib.strCells s++Lib.strCells t:=by
 unfold Lib.strCells
 rw[ByteArray.data_append,Array.toList_append,wA]
theorem wPt(B b:Nat)(s:za)(n v:Int){r:za}(hr:ptM n v s=some r)(w:World)(h:Lib.IsBuilder 266 5 B b (Lib.strCells s) w)(hBw:B<=w.heap.size)(hG:GOK w) :
  Calls Tryz.prog 203 #[.pointer (some ⟨b,0,none⟩),.int .i64 n,.int .i64 v] w λe w'=>e=.returned (.tuple #[])/\(Lib.IsBuilder 266 5 B b (Lib.strCells r) w'/\Below B w w'/\Kept b w w'):=by
 unfold ptM at hr
 obtain⟨q,h1,h2⟩:=zL.1 hr
 obtain⟨rfl,h3⟩:=wsM_some h2
 rw[bytes_app]
 exact bPut B b _ n v h1 w h (by rw[Lib.strCells_length];exact h3) hBw hG
theorem wWs(B b:Nat)(s t:za){r:za}(hr:wsM s t=some r)(w:World)(h:Lib.IsBuilder 266 5 B b (Lib.strCells s) w)(hBw:B<=w.heap.size) :
  Calls Tryz.prog 202 #[.pointer (some ⟨b,0,none⟩),.string t] w λe w'=>e=.returned (.tuple #[.int .i64 t.size,.nilIface])/\(Lib.IsBuilder 266 5 B b (Lib.strCells r) w'/\Below B w w'/\Kept b w w'):=by
 obtain⟨rfl,h3⟩:=wsM_some hr
 rw[bytes_app]
 exact(bWs B b _ t w h (by rw[Lib.strCells_length];exact h3) hBw).mono λe w' hp=>⟨hp.1,.inr hp.2.1,hp.2.2⟩
theorem bld_lt{T e:TypeId}{B b:Nat}{bs:List Value}{w:World}(h:Lib.IsBuilder T e B b bs w):b < w.heap.size:=by
 rcases h with⟨_,v,hb,_⟩|⟨_,v,hb,_⟩<;>exact(wk.1 hb).1
theorem bld_alloc{T e:TypeId}{B b:Nat}{bs:List Value}{w:World}(h:Lib.IsBuilder T e B b bs w)(o:Obj):Lib.IsBuilder T e B b bs (w.alloc o):=
 bld_below h ((Below.refl _ w).alloc (zD _) o)
theorem wrap_wi(n:Int):Q7 n=wrap64 n:=by unfold Q7 wrap64;exact IntKind.wrap_i64 n
theorem rep_below{γ:Gh}{w w':World}{c:V}{v:Value}(h:Rep γ w (ofL []) uTop c v)(b:Below w.heap.size w w'):Rep γ w' (ofL []) uTop c v:=
 h.mono (Grow.below b) (.refl λb k hk=>by simp[ofL] at hk)
theorem bld_fresh{T e:TypeId}(B b:Nat)(w:World)(h:B<=b)(hb:b=w.heap.size):Lib.IsBuilder T e B b (Lib.strCells zb) (w.alloc (.cells #[.pointer none,.slice none 0 0] T)):=by
 subst hb
 exact .inl ⟨h,.slice none 0 0,Array.getElem?_push_size,⟨rfl,.inl ⟨rfl,rfl⟩⟩,nofun⟩
set_option maxHeartbeats 4000000 in
set_option maxRecDepth 1000000 in
theorem wrWalk(c m more:Int)(id:za)(x:Value)(sa:Option Addr)(cap B o:Nat)(l:List Q3)(γ:Gh)(w:World)(hg:V3 GG γ w)(hv:Rep γ w (ofL []) uTop (.sl false 2 (List.map Q2.c l)) (.slice sa l.length cap))
  (hB:l≠[]->sa=some ⟨B,o,none⟩) (hcell:∀j y,l[j]?=some y->w.cell? ⟨B,o+j * 2,none⟩=some (.int .i64 y.fm)/\w.cell? ⟨B,o+j * 2+1,none⟩=some (.string y.fp))
  {s0 s1:za} (h0:hdM c m id l more=some s0) (h1:l.foldlM atM s0=some s1) (hne:s1.size≠0) (hlen:l.length<=4294967296) :
  Calls Tryz.prog 126 #[.agg #[.int .i64 c,.int .i64 m,.string id,x],.slice sa l.length cap,.int .i64 more] w λe w'=>e=.returned (.string s1)/\Below w.heap.size w w':=by
 unfold hdM at h0
 obtain⟨k,a1,h⟩:=zL.1 h0
 clear h0
 obtain⟨t1,a2,h0⟩:=zL.1 h
 clear h
 obtain⟨z,a3,h⟩:=zL.1 h0
 clear h0
 obtain⟨t2,a4,h0⟩:=zL.1 h
 clear h
 obtain⟨t3,a5,a6⟩:=zL.1 h0
 clear h0
 have hG:GOK w:=⟨γ,hg⟩
 have c1:=λw0 hG=>wKind c m a1 w0 hG
 have c2:=λw0 I hB hG=>wPt w.heap.size (w.heap.size+1) _ 2 k a2 w0 I hB hG
 have c3:=λw0 I hB hG=>wPt w.heap.size (w.heap.size+1) _ 2 (wrap64 (z+more)) (by rw[<-wrap_wi];exact a4) w0 I hB hG
 have c4:=λw0 I hB hG=>wPt w.heap.size (w.heap.size+1) _ 4 _ a5 w0 I hB hG
 have c5:=λw0 I hB=>wWs w.heap.size (w.heap.size+1) _ id a6 w0 I hB
 clear a1 a2 a4 a5 a6
 go_enter Tryz.func126,Tryz.ntmps126
 go_wp2_with (go_at_call 204;refine(c1 _ (hG.below (((Below.refl _ w).alloc (zD _) _).alloc (by simp) _))).mono ?_)
 rintro e w1 ⟨rfl,b1⟩
 have I1:=bld_below (bld_fresh (T:=266) (e:=5) w.heap.size (w.heap.size+1) (w.alloc _) (by omega) (Array.size_push (xs:=w.heap) _).symm) b1
 have B1:Below w.heap.size w w1:=(((Below.refl _ w).alloc (zD _) _).alloc (by simp) _).trans (b1.mono (by simp only[World.alloc,Array.size_push];omega))
 have X1:w1.heap[w.heap.size]?=some (.cells #[.int .i64 c,.int .i64 m,.string id,x] 121 (0,0)):=by
  rw[b1.block _ (by simp only[World.alloc,Array.size_push];omega)]
  show ((w.heap.push _).push _)[w.heap.size]?=_
  rw[Array.getElem?_push_lt (by simp),Array.getElem_push_eq]
 go_wp2_with (go_at_call 203;refine(c2 _ I1 B1.size (hG.below B1)).mono ?_)
 rintro e w2 ⟨rfl,I2,b2,k2⟩
 have B2:=B1.trans b2
 have X2:=k2 _ _ _ _ (by omega) (by decide) X1
 clear c1 c2 b1 b2 k2 I1 X1 B1
 go_wp2_with (go_at_call 193;refine(wSize l (hg.grow (Grow.below B2)) (rep_below hv B2) a3).mono ?_)
 rintro e w3 ⟨rfl,b3⟩
 have I3:=bld_below I2 b3
 have B3:=B2.trans (b3.mono B2.size)
 have X3:=(Kept.below (b:=w.heap.size+1) b3) _ _ _ _ (by omega) (by decide) X2
 clear b3 I2 X2 B2
 go_wp2_with (go_at_call 203;refine(c3 _ I3 B3.size (hG.below B3)).mono ?_)
 rintro e w4 ⟨rfl,I4,b4,k4⟩
 have B4:=B3.trans b4
 have X4:=k4 _ _ _ _ (by omega) (by decide) X3
 clear b4 I3 X3 B3
 go_wp2_with (go_at_call 203;refine(c4 _ I4 B4.size (hG.below B4)).mono ?_)
 rintro e w5 ⟨rfl,I5,b5,k5⟩
 have B5:=B4.trans b5
 have X5:=k5 _ _ _ _ (by omega) (by decide) X4
 clear b5 I4 X4 B4
 have d5:w5.cell? ⟨w.heap.size,2,none⟩=some (.string id):=by rw[Lib.cell_of_heap X5];rfl
 go_wp2_with (go_at_call 202;refine(c5 _ I5 B5.size).mono ?_)
 rintro e w6 ⟨rfl,I6,b6,k6⟩
 have B6:=B5.trans b6
 clear b6 I5 X5 B5 k6 d5 c3 c4 c5
 go_wp2
 go_loopw [33] (λi wr=>∃(k:Nat) (s:za),k<=l.length/\i=.int .i64 k/\Lib.IsBuilder 266 5 w.heap.size (w.heap.size+1) (Lib.strCells s) wr/\Below w.heap.size w wr/\(l.drop k).foldlM atM s=some s1) (λi _=>l.length - (intOf i).toNat)
 case atStart=>exact⟨0,s0,Nat.zero_le _,rfl,I6,B6,by simpa using h1⟩
 case round=>
  clear I6 B6
  obtain⟨k,s,hk,rfl,I,hb,hf⟩:=hrel
  rcases wo k l.length with hlt|hge
  ·obtain⟨y,hy⟩:∃y,l[k]?=some y:=⟨l[k],zR hlt⟩
   have hd:l.drop k=y :: l.drop (k+1):=by
    rw[List.drop_eq_getElem_cons hlt]
    rw[zR hlt] at hy
    rw[wq hy]
   rw[hd,List.foldlM_cons] at hf
   obtain⟨s',f1,f2⟩:=zL.1 hf
   obtain rfl:=hB (λe=>by rw[e] at hlt;simp at hlt)
   obtain⟨q0,q1⟩:=hcell k y hy
   have hBw:=World.block_lt_of_cell? _ _ q0
   have g0:wr.cell? ⟨B,o+k * 2,none⟩=some (.int .i64 y.fm):=by
    rw[<-q0];unfold World.cell?;simp only[hb.block B hBw]
   have g1:wr.cell? ⟨B,o+k * 2+1,none⟩=some (.string y.fp):=by
    rw[<-q1];unfold World.cell?;simp only[hb.block B hBw]
   clear q0 q1 hf hd h1
   unfold atM at f1
   obtain⟨u1,e1,f⟩:=zL.1 f1
   clear f1
   obtain⟨u2,e2,f1⟩:=zL.1 f
   clear f
   obtain⟨u3,e3,e4⟩:=zL.1 f1
   clear f1
   have p1:=λw0 I hB hG=>wPt w.heap.size (w.heap.size+1) _ 2 _ e1 w0 I hB hG
   have p2:=λw0 I hB hG=>wPt w.heap.size (w.heap.size+1) _ 2 _ e2 w0 I hB hG
   have p3:=λw0 hG=>wPad y.fp 4 e3 w0 hG
   have p4:=λw0 I hB=>wWs w.heap.size (w.heap.size+1) _ u3.1 e4 w0 I hB
   clear e1 e2 e3 e4
   have hsz:w.heap.size<=wr.heap.size:=hb.size
   have J1:=bld_alloc I (.cells #[.int .i64 y.fm,.string y.fp] 140 (0,0))
   have K1:=hb.alloc hsz (.cells #[.int .i64 y.fm,.string y.fp] 140 (0,0))
   have N1:wr.heap.size≠w.heap.size+1:=λe=>by
    have:=bld_lt I
    omega
   have X1:(wr.alloc (.cells #[.int .i64 y.fm,.string y.fp] 140 (0,0))).heap[wr.heap.size]?=some (.cells #[.int .i64 y.fm,.string y.fp] 140 (0,0)):=Array.getElem?_push_size
   go_wp2_with (go_at_call 203;refine(p1 _ J1 K1.size (hG.below K1)).mono ?_)
   (first|rintro e w1 rfl J2 b2 k2|rintro e w1 ⟨rfl,J2,b2,k2⟩)
   have K2:=K1.trans b2
   have X2:=k2 _ _ _ _ N1 (by decide) X1
   clear b2 k2 X1 K1 J1 I
   have d2:w1.cell? ⟨wr.heap.size,1,none⟩=some (.string y.fp):=by rw[Lib.cell_of_heap X2];rfl
   go_wp2_with (go_at_call 203;refine(p2 _ J2 K2.size (hG.below K2)).mono ?_)
   (first|rintro e w2 rfl J3 b3 k3|rintro e w2 ⟨rfl,J3,b3,k3⟩)
   have K3:=K2.trans b3
   have X3:=k3 _ _ _ _ N1 (by decide) X2
   clear b3 k3 X2 K2 J2 d2
   have d3:w2.cell? ⟨wr.heap.size,1,none⟩=some (.string y.fp):=by rw[Lib.cell_of_heap X3];rfl
   go_wp2_with (go_at_call 205;refine(p3 _ (hG.below K3)).mono ?_)
   (first|rintro e w3 rfl b4|rintro e w3 ⟨rfl,b4⟩)
   have J4:=bld_below J3 b4
   have K4:=K3.trans (b4.mono K3.size)
   clear b4 J3 K3 d3 X3
   go_wp2_with (go_at_call 202;refine(p4 _ J4 K4.size).mono ?_)
   (first|rintro e w4 rfl J5 b5 k5|rintro e w4 ⟨rfl,J5,b5,k5⟩)
   have K5:=K4.trans b5
   clear b5 k5 J4 K4 p1 p2 p3 p4
   go_wp2
   go_roundw
   case rel=>exact⟨k+1,s',by omega,by simp,J5,K5,f2⟩
   case measure=>simp[intOf];omega
  ·have hkl:k=l.length:=by omega
   subst hkl
   have hs:s=s1:=by simpa using hf
   subst hs
   obtain⟨ys,hys⟩:∃ys:List UInt8,ys=s.data.toList:=⟨_,rfl⟩
   have hstr:=λw0 I=>bStr w.heap.size (w.heap.size+1) s.data.toList w0 I (λe=>hne (by
    show s.data.size=0
    rw[<-Array.length_toList,e];rfl))
   go_wp2_with (go_at_call 206;refine(hstr _ I).mono ?_)
   (first|rintro e w1 rfl b1|rintro e w1 ⟨rfl,b1⟩)
   go_wp2
   go_ret
   exact⟨rfl,hb.trans b1⟩
theorem wr_args{cls m more:Int}{id:za}{at_ l:List Q3}{γ:Gh}{w:World}{xs:Array Value}(h:U3 γ w (ofL []) uTop [.agg [.int .i64 cls,.int .i64 m,.str id,.sl false 2 (List.map Q2.c at_)],.sl false 2 (List.map Q2.c l),.int .i64 more] xs) :
  ∃x v,xs=#[.agg #[.int .i64 cls,.int .i64 m,.string id,x],v,.int .i64 more]/\Rep γ w (ofL []) uTop (.sl false 2 (List.map Q2.c l)) v:=by
 obtain⟨h1,h2⟩:=h
 have h1:xs.size=3:=h1
 have r0:=h2 0 _ xs[0] rfl (wl (by omega))
 have r1:=h2 1 _ xs[1] rfl (wl (by omega))
 have r2:=(h2 2 _ xs[2] rfl (wl (by omega))).int_inv
 obtain⟨vs,q0,q1,q2⟩:=r0.agg_inv
 match vs,q1 with
 | [a,b,c,d],_=>
  have ha:=(q2 0 _ a rfl rfl).int_inv
  have hb:=(q2 1 _ b rfl rfl).int_inv
  have hc:=(q2 2 _ c rfl rfl).str_inv
  subst ha;subst hb;subst hc
  refine⟨d,xs[1],?_,r1⟩
  apply Array.ext
  ·exact h1
  ·intro i hi hi'
   match i,hi' with
   | 0,_=>exact q0
   | 1,_=>rfl
   | 2,_=>exact r2
theorem wrCells{l:List Q3}{γ:Gh}{w:World}{v:Value}(h:Rep γ w (ofL []) uTop (.sl false 2 (List.map Q2.c l)) v) :
  ∃(sa:Option Addr) (cap B o:Nat),v=.slice sa l.length cap/\(l≠[]->sa=some ⟨B,o,none⟩)/\∀j y,l[j]?=some y->w.cell? ⟨B,o+j * 2,none⟩=some (.int .i64 y.fm)/\w.cell? ⟨B,o+j * 2+1,none⟩=some (.string y.fp):=by
 rcases h.sl_inv with⟨a,rfl,hr⟩|⟨B,o,cap,vs,rfl,s1,s2,s3,s4⟩
 ·have:l=[]:=by simpa using hr
  subst this
  exact⟨a,0,0,0,rfl,λe=>absurd rfl e,λj y hy=>by simp at hy⟩
 ·refine⟨some ⟨B,o,none⟩,cap,B,o,by rw[wj],λ_=>rfl,λj y hy=>?_⟩
  have hrow:∀r,r∈List.map Q2.c l->r.length=2:=λr hr=>by
   obtain⟨q,_,rfl⟩:=zF.1 hr;rfl
  have hj:(List.map Q2.c l)[j]?=some (Q2.c y):=by rw[zV,hy];rfl
  have k0:(List.map Q2.c l).flatten[j * 2+0]?=some (.int .i64 y.fm):=by
   rw[U1 _ hrow j 0 (by decide),hj];rfl
  have k1:(List.map Q2.c l).flatten[j * 2+1]?=some (.str y.fp):=by
   rw[U1 _ hrow j 1 (by decide),hj];rfl
  have e0:vs (j * 2)=.int .i64 y.fm:=Rep.int_inv (γ:=γ) (bs:=ofL []) (u:=uTop) (.data (s4 _ _ k0))
  have e1:vs (j * 2+1)=.string y.fp:=Rep.str_inv (γ:=γ) (bs:=ofL []) (u:=uTop) (.data (s4 _ _ k1))
  have t0:=(s3 _ _ k0).2
  have t1:=(s3 _ _ k1).2
  rw[show j * 2+0=j * 2 from rfl,e0] at t0
  rw[e1] at t1
  exact⟨t0,t1⟩
theorem wr_ok(cls m more:Int)(id:za)(at_ l:List Q3){r:za}(h:writtenM cls m id l more=some r) :
  CallC Tryz.prog GG 126 [.agg [.int .i64 cls,.int .i64 m,.str id,.sl false 2 (List.map Q2.c at_)],.sl false 2 (List.map Q2.c l),.int .i64 more] (ofL []) (.str r) (ofL []):=by
 intro γ w xs hg hown hcells _
 obtain⟨x,v,rfl,hv⟩:=wr_args hcells
 obtain⟨sa,cap,B,o,rfl,hB,hcell⟩:=wrCells hv
 unfold writtenM at h
 obtain⟨s0,h0,h⟩:=zL.1 h
 obtain⟨s1,h1,h⟩:=zL.1 h
 have hc:¬(s1.size=0\/4294967296 < l.length):=λe=>by rw[if_pos e] at h;cases h
 rw[if_neg hc] at h
 have hne:s1.size≠0:=λe=>hc (.inl e)
 have hlen:l.length<=4294967296:=Nat.le_of_not_lt λe=>hc (.inr e)
 obtain rfl:=wq h
 refine(wrWalk cls m more id x sa cap B o l γ w hg hv hB hcell h0 h1 hne hlen).mono λe w' hh=>?_
 obtain⟨rfl,b⟩:=hh
 refine⟨.string s1,γ,rfl,Grow.below b,?_,.data (.str _),λb k hk=>by simp[ofL] at hk,λB x hB=>wJ (hown B x hB) b.size⟩
 exact λb _=>⟨λ_=>rfl,λ_ h=>h,λk hk=>by simp[ofL] at hk⟩
def wrSpec(cls m:Int)(id:za)(at_ l:List Q3)(more:Int):EV.Spec Tryz.prog GG za:=
 ⟨126,[.agg [.int .i64 cls,.int .i64 m,.str id,.sl false 2 (List.map Q2.c at_)],.sl false 2 (List.map Q2.c l),.int .i64 more],[],writtenM cls m id l more,λr=>.str r,λ_=>[],[],λ_ _ h=>by simp at h,λr h=>wr_ok cls m more id at_ l h⟩
end Go.Proofs.YtjpahkpfkohfkaaGreatDoor
namespace Go.Proofs.YtjpahkpfkohfkaaGreatDoor
open Go Go.EV
structure U5 where
 fS:za
 fF:Int
structure SReader1 where
 ge:U5
structure Z8 where
 fG:Int
 fH:Int
 fj:za
 fo:(List Q3)
def g240(p0:U5):TT (SReader1×Int):=.cnd 1 [14] (.br 1005 (decide (p0.fF < 0)) (.done true) (.done (decide ((p0.fS.size:Int) < p0.fF)))) zg λc115=>.br 0 c115 (.done ((SReader1.mk (U5.mk zb 0)),2)) (.done ((SReader1.mk p0),0))
def s240(p0:U5):Sp (SReader1×Int):=.ofFn 240 Q9 Tryz.func240 (show FnD Pg GG [0,1,2,3,14] Tryz.f240 [.agg [.str p0.fS,.i p0.fF]] (g240 p0) (λr=>.tup [.agg [.str r.1.ge.fS,.i r.1.ge.fF],.i r.2]) by unfold FnD;kernel_rfl)
def g208(p0:za):TT (Int):=.opr 2002 (Rule.octets (ty:=U4) (s:=9) (t:=73) (e:=5) (.tmp 6) 7 p0 (by kernel_rfl) (by kernel_rfl) (by kernel_rfl) (by kernel_rfl) (λ_=>rfl)) λ_=>.bind 1 (.lp (λ(l120:Int×Int)=>Ext.of .normal [(2,.i 0),(3,.i l120.1),(7,.ref 7 0 ((Z1 p0).length)),(8,.i ((Z1 p0).length:Int)),(9,.i l120.2)] [] [BT.of 7 U4 1 (Z1 p0) true] (by rfl)) (λl120=>.br 0 (decide (l120.2 < ((Z1 p0).length:Int))) (.chk 4001 (decide (0<=l120.2)&&decide (l120.2 < ((Z1 p0).length:Int))) (.row 4002 U4 (Z1 p0) (0+l120.2.toNat) true λx121=>.done (.inl ((bOr .i64 (N6 .i64 l120.1 8) (Q7 x121)),(Q7 (l120.2+1)))))) (.done (.inr l120.1))) (0,0)) (λ(e122:Int)=>Ext.l (.exit 0) [(2,.i 0),(3,.i e122)] []) (λe122=>.done e122)
def s208(p0:za):Sp (Int):=.ofFn 208 Q9 Tryz.func208 (show FnD Pg GG [0,2,3,5,7,8,9,10] Tryz.f208 [.str p0] (g208 p0) (λr=>.int .i64 r) by unfold FnD;kernel_rfl)
def g207(p0:U5)(p1 p2 p3:Int):TT (Int×U5×Int):=.call 1002 (s240 p0) [] [] λr116=>.br 0 (r116.2 != 0) (.done (0,(U5.mk zb 0),r116.2)) (.cnd 4 [25] (.br 4005 (decide (p1 < p2)) (.done true) (.done (decide (p3 < p1)))) zg λc117=>.br 0 c117 (.done (0,(U5.mk zb 0),2)) (.br 0 (decide ((Q7 ((r116.1.ge.fS.size:Int) - r116.1.ge.fF)) < p1)) (.done (0,(U5.mk zb 0),7)) (.chk 8013 ((decide (0<=(Q7 (r116.1.ge.fF+p1)))&&decide ((Q7 (r116.1.ge.fF+p1))<=(r116.1.ge.fS.size:Int)))&&(decide (0<=r116.1.ge.fF)&&decide (r116.1.ge.fF<=((Q7 (r116.1.ge.fF+p1)).toNat:Int)))) (.call 8014 (s208 (r116.1.ge.fS.extract r116.1.ge.fF.toNat ((Q7 (r116.1.ge.fF+p1)).toNat))) [] [] λr123=>.done (r123,(U5.mk r116.1.ge.fS (Q7 (r116.1.ge.fF+p1))),0)))))
def s207(p0:U5)(p1 p2 p3:Int):Sp (Int×U5×Int):=.ofFn 207 Q9 Tryz.func207 (show FnD Pg GG [0,1,2,3,4,5,10,11,12,13,19,25,36] Tryz.f207 [.agg [.str p0.fS,.i p0.fF],.i p1,.i p2,.i p3,.fn 208 [] []] (g207 p0 p1 p2 p3) (λr=>.tup [.i r.1,.agg [.str r.2.1.fS,.i r.2.1.fF],.i r.2.2]) by unfold FnD;kernel_rfl)
def g129(p0:U5)(p1:Int):TT (Int×U5×Int):=.call 1003 (s207 p0 p1 1 7) [] [] λr124=>.done (r124.1,r124.2.1,r124.2.2)
def s129(p0:U5)(p1:Int):Sp (Int×U5×Int):=.ofFn 129 Q9 Tryz.func129 (show FnD Pg GG [0,1,2,4,5,6] Tryz.f129 [.agg [.str p0.fS,.i p0.fF],.i p1] (g129 p0 p1) (λr=>.tup [.i r.1,.agg [.str r.2.1.fS,.i r.2.1.fF],.i r.2.2]) by unfold FnD;kernel_rfl)
def s242(p0:za):Sp (za):=.ofFn 242 Q9 Tryz.func242 (show FnD Pg GG [0,2] Tryz.f242 [.str p0] (.done p0:TT (za)) (λr=>.str r) by unfold FnD;kernel_rfl)
def g241(p0:U5)(p1 p2 p3:Int):TT (za×U5×Int):=.call 1002 (s240 p0) [] [] λr125=>.br 0 (r125.2 != 0) (.done (zb,(U5.mk zb 0),r125.2)) (.cnd 4 [25] (.br 4005 (decide (p1 < p2)) (.done true) (.done (decide (p3 < p1)))) zg λc126=>.br 0 c126 (.done (zb,(U5.mk zb 0),2)) (.br 0 (decide ((Q7 ((r125.1.ge.fS.size:Int) - r125.1.ge.fF)) < p1)) (.done (zb,(U5.mk zb 0),7)) (.chk 8013 ((decide (0<=(Q7 (r125.1.ge.fF+p1)))&&decide ((Q7 (r125.1.ge.fF+p1))<=(r125.1.ge.fS.size:Int)))&&(decide (0<=r125.1.ge.fF)&&decide (r125.1.ge.fF<=((Q7 (r125.1.ge.fF+p1)).toNat:Int)))) (.call 8014 (s242 (r125.1.ge.fS.extract r125.1.ge.fF.toNat ((Q7 (r125.1.ge.fF+p1)).toNat))) [] [] λr127=>.done (r127,(U5.mk r125.1.ge.fS (Q7 (r125.1.ge.fF+p1))),0)))))
def s241(p0:U5)(p1 p2 p3:Int):Sp (za×U5×Int):=.ofFn 241 Q9 Tryz.func241 (show FnD Pg GG [0,1,2,3,4,5,10,11,12,13,19,25,36] Tryz.f241 [.agg [.str p0.fS,.i p0.fF],.i p1,.i p2,.i p3,.fn 242 [] []] (g241 p0 p1 p2 p3) (λr=>.tup [.str r.1,.agg [.str r.2.1.fS,.i r.2.1.fF],.i r.2.2]) by unfold FnD;kernel_rfl)
def g211(p0:U5)(p1:Int):TT (za×U5×Int):=.call 1005 (s241 p0 p1 0 (if (0:Int) > p1 then (0:Int) else p1)) [] [] λr128=>.done (r128.1,r128.2.1,r128.2.2)
def s211(p0:U5)(p1:Int):Sp (za×U5×Int):=.ofFn 211 Q9 Tryz.func211 (show FnD Pg GG [0,1,2,4,5,6] Tryz.f211 [.agg [.str p0.fS,.i p0.fF],.i p1] (g211 p0 p1) (λr=>.tup [.str r.1,.agg [.str r.2.1.fS,.i r.2.1.fF],.i r.2.2]) by unfold FnD;kernel_rfl)
def g244(p0:za)(p1:Int):TT (za):=.bind 1 (.lp (λ(l133:za)=>Ext.l .normal [(0,.str l133),(1,.int .u8 p1),(4,.str zb)] []) (λl133=>.cnd 1 [16] (.br 1005 (decide ((0:Int) < (l133.size:Int))) (.chk 1009 (decide (0<=(Q7 ((l133.size:Int) - 1))/\(Q7 ((l133.size:Int) - 1)) < (l133.size:Int))) (.done ((bAt l133 (Q7 ((l133.size:Int) - 1)))==p1))) (.done false)) zg λc134=>.br 0 c134 (.chk 2005 (decide (0<=(Q7 ((l133.size:Int) - 1)))&&decide ((Q7 ((l133.size:Int) - 1))<=(l133.size:Int))) (.done (.inl (l133.extract 0 ((Q7 ((l133.size:Int) - 1)).toNat))))) (.done (.inr l133))) p0) (λ(e135:za)=>Ext.l (.exit 0) [(0,.str e135),(4,.str zb)] []) (λe135=>.done e135)
def s244(p0:za)(p1:Int):Sp (za):=.ofFn 244 Q9 Tryz.func244 (show FnD Pg GG [0,1,4,16] Tryz.f244 [.str p0,.int .u8 p1] (g244 p0 p1) (λr=>.str r) by unfold FnD;kernel_rfl)
def g243(p0:za)(p1:Int):TT (za):=.bind 1 (.lp (λ(l139:za)=>Ext.l .normal [(0,.str l139),(1,.int .u8 p1),(4,.str zb)] []) (λl139=>.cnd 1 [13] (.br 1005 (decide ((0:Int) < (l139.size:Int))) (.chk 1006 (decide (0<=(0:Int)/\(0:Int) < (l139.size:Int))) (.done ((bAt l139 0)==p1))) (.done false)) zg λc140=>.br 0 c140 (.chk 2002 (decide (0<=(1:Int))&&decide ((1:Int)<=(l139.size:Int))) (.done (.inl (l139.extract 1 l139.size)))) (.done (.inr l139))) p0) (λ(e141:za)=>Ext.l (.exit 0) [(0,.str e141),(4,.str zb)] []) (λe141=>.done e141)
def s243(p0:za)(p1:Int):Sp (za):=.ofFn 243 Q9 Tryz.func243 (show FnD Pg GG [0,1,4,13] Tryz.f243 [.str p0,.int .u8 p1] (g243 p0 p1) (λr=>.str r) by unfold FnD;kernel_rfl)
def g118(p0:Z8):TT (Int):=.cnd 1 [34] (.br 1005 (decide (p0.fG < 0)) (.done true) (.br 1010 (decide ((3:Int) < p0.fG)) (.done true) (.br 1015 (decide (p0.fH < 0)) (.done true) (.br 1020 (decide ((4095:Int) < p0.fH)) (.done true) (.br 1026 ((p0.fj.size:Int) != 12) (.done true) (.done (decide ((30:Int) < (Y6 Q2 p0.fo))))))))) zg λc134=>.br 0 c134 (.done 80) (.bind2 1 (.lp (λ(l138:Int)=>Ext.l .normal [(1,.ptr 1 0 0),(2,.i 0),(36,Sl 2 Q2 p0.fo),(37,.i (Y6 Q2 p0.fo)),(38,.i l138)] [(1,⟨4,true,[[.i p0.fG,.i p0.fH,.str p0.fj,Sl 2 Q2 p0.fo]]⟩)]) (λl138=>.br 0 (decide (l138 < (Y6 Q2 p0.fo))) (.row 5001 Q2 p0.fo l138.toNat (decide (0<=l138)) λx139=>.cnd 6 [55] (.br 6005 (decide (x139.fm < 0)) (.done true) (.br 6010 (decide ((65535:Int) < x139.fm)) (.done true) (.done (decide ((763:Int) < (x139.fp.size:Int)))))) zg λc140=>.br 0 c140 (.done (.inr (.inl ()))) (.done (.inl (Q7 (l138+1))))) (.done (.inr (.inr ())))) 0) (λ(e141:Unit)=>Ext.l .ret [(1,.ptr 1 0 0),(2,.i 80)] [(1,⟨4,true,[[.i p0.fG,.i p0.fH,.str p0.fj,Sl 2 Q2 p0.fo]]⟩)]) (λ(e142:Unit)=>Ext.l (.exit 0) [(1,.ptr 1 0 0),(2,.i 0)] [(1,⟨4,true,[[.i p0.fG,.i p0.fH,.str p0.fj,Sl 2 Q2 p0.fo]]⟩)]) (λe141=>.done 80) (λe142=>.call 9003 (s193 p0.fo) [] [] λr143=>.br 0 (decide ((1200:Int) < (Q7 ((20:Int)+r143)))) (.done 80) (.done 0)))
def s118(p0:Z8):Sp (Int):=.ofFn 118 Q9 Tryz.func118 (show FnD Pg GG [0,1,2,4,34,36,37,38,39,55,61] Tryz.f118 [.agg [.i p0.fG,.i p0.fH,.str p0.fj,Sl 2 Q2 p0.fo]] (g118 p0) (λr=>.int .i64 r) by unfold FnD;kernel_rfl)
def cAt:Code:=Tryz.f210.body.getD .skip
def aL:Code:=cB (cB (cR cAt))
def aBk:Code:=cB (cL (cR aL))
def gAt0(l:Nat)(s:za)(out:List Q3):TT (Unit):=
 .done ()
def xsAt0(l:Nat)(s:za)(out:List Q3):Ext:=Ext.of .normal [(0,.yld l),(1,.ptr 2000000 0 0)] [(1000002,⟨1,true,[[.ref 1900070 0 out.length]]⟩),(2000000,⟨1,true,[[.str s]]⟩)] [BT.of 1900070 Q2 2 out true] (by rfl)
def xeAt0(l:Nat)(s:za)(out:List Q3):(Unit)->Ext:=λ(r:Unit)=>Ext.of .normal [(0,.yld l),(1,.ptr 2000000 0 0),(3,.ptr 3 0 0)] [(3,⟨2,true,[[.str s,.i 0]]⟩),(1000002,⟨1,true,[[.ref 1900070 0 out.length]]⟩),(2000000,⟨1,true,[[.str s]]⟩)] [BT.of 1900070 Q2 2 out true] (by rfl)
theorem kAt0(l:Nat)(s:za)(out:List Q3):Y2 Tryz.prog GG [0,1,3] 70 (cL cAt) (xsAt0 l s out) (gAt0 l s out) (xeAt0 l s out):=by unfold Y2;kernel_rfl
def gAt1(l:Nat)(s:za)(out:List Q3)(S:za)(a:Int):TT (Unit):=
 .done ()
def xsAt1(l:Nat)(s:za)(out:List Q3)(S:za)(a:Int):Ext:=Ext.of .normal [(0,.yld l),(1,.ptr 2000000 0 0),(3,.ptr 3 0 0)] [(3,⟨2,true,[[.str S,.i a]]⟩),(1000002,⟨1,true,[[.ref 1900070 0 out.length]]⟩),(2000000,⟨1,true,[[.str s]]⟩)] [BT.of 1900070 Q2 2 out true] (by rfl)
def xeAt1(l:Nat)(s:za)(out:List Q3)(S:za)(a:Int):(Unit)->Ext:=λ(r:Unit)=>Ext.of .normal [(0,.yld l),(1,.ptr 2000000 0 0),(3,.ptr 3 0 0),(16,.bool (decide (a < (s.size:Int))))] [(3,⟨2,true,[[.str S,.i a]]⟩),(1000002,⟨1,true,[[.ref 1900070 0 out.length]]⟩),(2000000,⟨1,true,[[.str s]]⟩)] [BT.of 1900070 Q2 2 out true] (by rfl)
theorem kAt1(l:Nat)(s:za)(out:List Q3)(S:za)(a:Int):Y2 Tryz.prog GG [0,1,3,16] 70 (cL (cL aL)) (xsAt1 l s out S a) (gAt1 l s out S a) (xeAt1 l s out S a):=by unfold Y2;kernel_rfl
def gAt2(l:Nat)(s:za)(out:List Q3)(S:za)(a:Int):TT (za×Int×Int×Int):=
 .call 2002 (s129 (U5.mk S a) 2) [] [] λr144=>
 .done (r144.2.1.fS,r144.2.1.fF,r144.1,r144.2.2)
def xsAt2(l:Nat)(s:za)(out:List Q3)(S:za)(a:Int):Ext:=Ext.of .normal [(0,.yld l),(1,.ptr 2000000 0 0),(3,.ptr 3 0 0)] [(3,⟨2,true,[[.str S,.i a]]⟩),(1000002,⟨1,true,[[.ref 1900070 0 out.length]]⟩),(2000000,⟨1,true,[[.str s]]⟩)] [BT.of 1900070 Q2 2 out true] (by rfl)
def xeAt2(l:Nat)(s:za)(out:List Q3)(S:za)(a:Int):(za×Int×Int×Int)->Ext:=λ(r:za×Int×Int×Int)=>Ext.of .normal [(0,.yld l),(1,.ptr 2000000 0 0),(3,.ptr 3 0 0),(4,.i r.2.2.1),(5,.ptr 5 0 0),(6,.i r.2.2.2)] [(3,⟨2,true,[[.str S,.i a]]⟩),(5,⟨2,true,[[.str r.1,.i r.2.1]]⟩),(1000002,⟨1,true,[[.ref 1900070 0 out.length]]⟩),(2000000,⟨1,true,[[.str s]]⟩)] [BT.of 1900070 Q2 2 out true] (by rfl)
theorem kAt2(l:Nat)(s:za)(out:List Q3)(S:za)(a:Int):Y2 Tryz.prog GG [0,1,3,4,5,6] 70 (cL aBk) (xsAt2 l s out S a) (gAt2 l s out S a) (xeAt2 l s out S a):=by unfold Y2;kernel_rfl
def xsAt3(l:Nat)(s:za)(out:List Q3)(S:za)(a:Int)(u2:za×Int×Int×Int):Ext:=Ext.of .normal [(0,.yld l),(1,.ptr 2000000 0 0),(3,.ptr 3 0 0),(4,.i u2.2.2.1),(5,.ptr 5 0 0),(6,.i u2.2.2.2)] [(3,⟨2,true,[[.str S,.i a]]⟩),(5,⟨2,true,[[.str u2.1,.i u2.2.1]]⟩),(1000002,⟨1,true,[[.ref 1900070 0 out.length]]⟩),(2000000,⟨1,true,[[.str s]]⟩)] [BT.of 1900070 Q2 2 out true] (by rfl)
def xeAt3(l:Nat)(s:za)(out:List Q3)(S:za)(a:Int)(u2:za×Int×Int×Int):(Unit)->Ext:=λ(r:Unit)=>Ext.of .normal [(0,.yld l),(1,.ptr 2000000 0 0),(3,.ptr 3 0 0),(4,.i u2.2.2.1),(5,.ptr 5 0 0),(6,.i u2.2.2.2)] [(3,⟨2,true,[[.str S,.i a]]⟩),(5,⟨2,true,[[.str u2.1,.i u2.2.1]]⟩),(1000002,⟨1,true,[[.ref 1900070 0 out.length]]⟩),(2000000,⟨1,true,[[.str s]]⟩)] [BT.of 1900070 Q2 2 out true] (by rfl)
def gAt4(l:Nat)(s:za)(out:List Q3)(S:za)(a:Int)(u2:za×Int×Int×Int):TT (za×Int×Int×Int):=
 .call 4002 (s129 (U5.mk u2.1 u2.2.1) 2) [] [] λr146=>
 .done (r146.2.1.fS,r146.2.1.fF,r146.2.2,r146.1)
def xsAt4(l:Nat)(s:za)(out:List Q3)(S:za)(a:Int)(u2:za×Int×Int×Int):Ext:=Ext.of .normal [(0,.yld l),(1,.ptr 2000000 0 0),(3,.ptr 3 0 0),(4,.i u2.2.2.1),(5,.ptr 5 0 0),(6,.i u2.2.2.2)] [(3,⟨2,true,[[.str S,.i a]]⟩),(5,⟨2,true,[[.str u2.1,.i u2.2.1]]⟩),(1000002,⟨1,true,[[.ref 1900070 0 out.length]]⟩),(2000000,⟨1,true,[[.str s]]⟩)] [BT.of 1900070 Q2 2 out true] (by rfl)
def xeAt4(l:Nat)(s:za)(out:List Q3)(S:za)(a:Int)(u2:za×Int×Int×Int):(za×Int×Int×Int)->Ext:=λ(r:za×Int×Int×Int)=>Ext.of .normal [(0,.yld l),(1,.ptr 2000000 0 0),(3,.ptr 3 0 0),(4,.i u2.2.2.1),(5,.ptr 5 0 0),(6,.i r.2.2.1),(7,.i r.2.2.2)] [(3,⟨2,true,[[.str S,.i a]]⟩),(5,⟨2,true,[[.str r.1,.i r.2.1]]⟩),(1000002,⟨1,true,[[.ref 1900070 0 out.length]]⟩),(2000000,⟨1,true,[[.str s]]⟩)] [BT.of 1900070 Q2 2 out true] (by rfl)
theorem kAt4(l:Nat)(s:za)(out:List Q3)(S:za)(a:Int)(u2:za×Int×Int×Int):Y2 Tryz.prog GG [0,1,3,4,5,6,7] 70 (cL (cR (cR aBk))) (xsAt4 l s out S a u2) (gAt4 l s out S a u2) (xeAt4 l s out S a u2):=by unfold Y2;kernel_rfl
def xsAt5(l:Nat)(s:za)(out:List Q3)(S:za)(a:Int)(u2:za×Int×Int×Int)(u4:za×Int×Int×Int):Ext:=Ext.of .normal [(0,.yld l),(1,.ptr 2000000 0 0),(3,.ptr 3 0 0),(4,.i u2.2.2.1),(5,.ptr 5 0 0),(6,.i u4.2.2.1),(7,.i u4.2.2.2)] [(3,⟨2,true,[[.str S,.i a]]⟩),(5,⟨2,true,[[.str u4.1,.i u4.2.1]]⟩),(1000002,⟨1,true,[[.ref 1900070 0 out.length]]⟩),(2000000,⟨1,true,[[.str s]]⟩)] [BT.of 1900070 Q2 2 out true] (by rfl)
def xeAt5(l:Nat)(s:za)(out:List Q3)(S:za)(a:Int)(u2:za×Int×Int×Int)(u4:za×Int×Int×Int):(Unit)->Ext:=λ(r:Unit)=>Ext.of .normal [(0,.yld l),(1,.ptr 2000000 0 0),(3,.ptr 3 0 0),(4,.i u2.2.2.1),(5,.ptr 5 0 0),(6,.i u4.2.2.1),(7,.i u4.2.2.2)] [(3,⟨2,true,[[.str S,.i a]]⟩),(5,⟨2,true,[[.str u4.1,.i u4.2.1]]⟩),(1000002,⟨1,true,[[.ref 1900070 0 out.length]]⟩),(2000000,⟨1,true,[[.str s]]⟩)] [BT.of 1900070 Q2 2 out true] (by rfl)
def gAt6(l:Nat)(s:za)(out:List Q3)(S:za)(a:Int)(u2:za×Int×Int×Int)(u4:za×Int×Int×Int):TT (za×Int×Int×za):=
 .call 6003 (s211 (U5.mk u4.1 u4.2.1) u4.2.2.2) [] [] λr148=>
 .done (r148.2.1.fS,r148.2.1.fF,r148.2.2,r148.1)
def xsAt6(l:Nat)(s:za)(out:List Q3)(S:za)(a:Int)(u2:za×Int×Int×Int)(u4:za×Int×Int×Int):Ext:=Ext.of .normal [(0,.yld l),(1,.ptr 2000000 0 0),(3,.ptr 3 0 0),(4,.i u2.2.2.1),(5,.ptr 5 0 0),(6,.i u4.2.2.1),(7,.i u4.2.2.2)] [(3,⟨2,true,[[.str S,.i a]]⟩),(5,⟨2,true,[[.str u4.1,.i u4.2.1]]⟩),(1000002,⟨1,true,[[.ref 1900070 0 out.length]]⟩),(2000000,⟨1,true,[[.str s]]⟩)] [BT.of 1900070 Q2 2 out true] (by rfl)
def xeAt6(l:Nat)(s:za)(out:List Q3)(S:za)(a:Int)(u2:za×Int×Int×Int)(u4:za×Int×Int×Int):(za×Int×Int×za)->Ext:=λ(r:za×Int×Int×za)=>Ext.of .normal [(0,.yld l),(1,.ptr 2000000 0 0),(3,.ptr 3 0 0),(4,.i u2.2.2.1),(5,.ptr 5 0 0),(6,.i r.2.2.1),(7,.i u4.2.2.2),(8,.str r.2.2.2)] [(3,⟨2,true,[[.str S,.i a]]⟩),(5,⟨2,true,[[.str r.1,.i r.2.1]]⟩),(1000002,⟨1,true,[[.ref 1900070 0 out.length]]⟩),(2000000,⟨1,true,[[.str s]]⟩)] [BT.of 1900070 Q2 2 out true] (by rfl)
theorem kAt6(l:Nat)(s:za)(out:List Q3)(S:za)(a:Int)(u2:za×Int×Int×Int)(u4:za×Int×Int×Int):Y2 Tryz.prog GG [0,1,3,4,5,6,7,8] 70 (cL (cR (cR (cR (cR aBk))))) (xsAt6 l s out S a u2 u4) (gAt6 l s out S a u2 u4) (xeAt6 l s out S a u2 u4):=by unfold Y2;kernel_rfl
def xsAt7(l:Nat)(s:za)(out:List Q3)(S:za)(a:Int)(u2:za×Int×Int×Int)(u4:za×Int×Int×Int)(u6:za×Int×Int×za):Ext:=Ext.of .normal [(0,.yld l),(1,.ptr 2000000 0 0),(3,.ptr 3 0 0),(4,.i u2.2.2.1),(5,.ptr 5 0 0),(6,.i u6.2.2.1),(7,.i u4.2.2.2),(8,.str u6.2.2.2)] [(3,⟨2,true,[[.str S,.i a]]⟩),(5,⟨2,true,[[.str u6.1,.i u6.2.1]]⟩),(1000002,⟨1,true,[[.ref 1900070 0 out.length]]⟩),(2000000,⟨1,true,[[.str s]]⟩)] [BT.of 1900070 Q2 2 out true] (by rfl)
def xeAt7(l:Nat)(s:za)(out:List Q3)(S:za)(a:Int)(u2:za×Int×Int×Int)(u4:za×Int×Int×Int)(u6:za×Int×Int×za):(Unit)->Ext:=λ(r:Unit)=>Ext.of .normal [(0,.yld l),(1,.ptr 2000000 0 0),(3,.ptr 3 0 0),(4,.i u2.2.2.1),(5,.ptr 5 0 0),(6,.i u6.2.2.1),(7,.i u4.2.2.2),(8,.str u6.2.2.2)] [(3,⟨2,true,[[.str S,.i a]]⟩),(5,⟨2,true,[[.str u6.1,.i u6.2.1]]⟩),(1000002,⟨1,true,[[.ref 1900070 0 out.length]]⟩),(2000000,⟨1,true,[[.str s]]⟩)] [BT.of 1900070 Q2 2 out true] (by rfl)
def gAt8(l:Nat)(s:za)(out:List Q3)(S:za)(a:Int)(u2:za×Int×Int×Int)(u4:za×Int×Int×Int)(u6:za×Int×Int×za):TT (za×Int×Int×za):=
 .call 8005 (s211 (U5.mk u6.1 u6.2.1) (Y1 .i64 (Q7 (0 - u4.2.2.2)) 3)) [] [] λr150=>
 .done (r150.2.1.fS,r150.2.1.fF,r150.2.2,r150.1)
def xsAt8(l:Nat)(s:za)(out:List Q3)(S:za)(a:Int)(u2:za×Int×Int×Int)(u4:za×Int×Int×Int)(u6:za×Int×Int×za):Ext:=Ext.of .normal [(0,.yld l),(1,.ptr 2000000 0 0),(3,.ptr 3 0 0),(4,.i u2.2.2.1),(5,.ptr 5 0 0),(6,.i u6.2.2.1),(7,.i u4.2.2.2),(8,.str u6.2.2.2)] [(3,⟨2,true,[[.str S,.i a]]⟩),(5,⟨2,true,[[.str u6.1,.i u6.2.1]]⟩),(1000002,⟨1,true,[[.ref 1900070 0 out.length]]⟩),(2000000,⟨1,true,[[.str s]]⟩)] [BT.of 1900070 Q2 2 out true] (by rfl)
def xeAt8(l:Nat)(s:za)(out:List Q3)(S:za)(a:Int)(u2:za×Int×Int×Int)(u4:za×Int×Int×Int)(u6:za×Int×Int×za):(za×Int×Int×za)->Ext:=λ(r:za×Int×Int×za)=>Ext.of .normal [(0,.yld l),(1,.ptr 2000000 0 0),(3,.ptr 3 0 0),(4,.i u2.2.2.1),(5,.ptr 5 0 0),(6,.i r.2.2.1),(8,.str u6.2.2.2),(9,.str r.2.2.2)] [(3,⟨2,true,[[.str S,.i a]]⟩),(5,⟨2,true,[[.str r.1,.i r.2.1]]⟩),(1000002,⟨1,true,[[.ref 1900070 0 out.length]]⟩),(2000000,⟨1,true,[[.str s]]⟩)] [BT.of 1900070 Q2 2 out true] (by rfl)
theorem kAt8(l:Nat)(s:za)(out:List Q3)(S:za)(a:Int)(u2:za×Int×Int×Int)(u4:za×Int×Int×Int)(u6:za×Int×Int×za):Y2 Tryz.prog GG [0,1,3,4,5,6,7,8,9] 70 (cL (cR (cR (cR (cR (cR (cR aBk))))))) (xsAt8 l s out S a u2 u4 u6) (gAt8 l s out S a u2 u4 u6) (xeAt8 l s out S a u2 u4 u6):=by unfold Y2;kernel_rfl
def g212(p0:za):TT (za):=.cnd 1 [12] (.br 1004 (decide (p0=zb)) (.done true) (.done false)) zg λc151=>.br 0 c151 (.done p0) (.tt (.call 4004 (s244 p0 0) [] [] λr152=>.call 4007 (s243 r152 0) [] [] λr153=>.done r153))
def s212(p0:za):Sp (za):=.ofFn 212 Q9 Tryz.func212 (show FnD Pg GG [0,1,4,5,6,12,21,34] Tryz.f212 [.str p0,.str (bs [0])] (g212 p0) (λr=>.str r) by unfold FnD;kernel_rfl)
def xsAt9(l:Nat)(s:za)(out:List Q3)(S:za)(a:Int)(u2:za×Int×Int×Int)(u4:za×Int×Int×Int)(u6:za×Int×Int×za)(u8:za×Int×Int×za):Ext:=Ext.of .normal [(0,.yld l),(1,.ptr 2000000 0 0),(3,.ptr 3 0 0),(4,.i u2.2.2.1),(5,.ptr 5 0 0),(6,.i u8.2.2.1),(8,.str u6.2.2.2),(9,.str u8.2.2.2)] [(3,⟨2,true,[[.str S,.i a]]⟩),(5,⟨2,true,[[.str u8.1,.i u8.2.1]]⟩),(1000002,⟨1,true,[[.ref 1900070 0 out.length]]⟩),(2000000,⟨1,true,[[.str s]]⟩)] [BT.of 1900070 Q2 2 out true] (by rfl)
def xeAt9(l:Nat)(s:za)(out:List Q3)(S:za)(a:Int)(u2:za×Int×Int×Int)(u4:za×Int×Int×Int)(u6:za×Int×Int×za)(u8:za×Int×Int×za):(Unit)->Ext:=λ(r:Unit)=>Ext.of .normal [(0,.yld l),(1,.ptr 2000000 0 0),(3,.ptr 3 0 0),(4,.i u2.2.2.1),(5,.ptr 5 0 0),(8,.str u6.2.2.2)] [(3,⟨2,true,[[.str S,.i a]]⟩),(5,⟨2,true,[[.str u8.1,.i u8.2.1]]⟩),(1000002,⟨1,true,[[.ref 1900070 0 out.length]]⟩),(2000000,⟨1,true,[[.str s]]⟩)] [BT.of 1900070 Q2 2 out true] (by rfl)
def gAt11(l:Nat)(s:za)(out:List Q3)(S:za)(a:Int)(S2:za)(a2:Int):TT (Unit):=
 .done ()
def xsAt11(l:Nat)(s:za)(out:List Q3)(S:za)(a:Int)(S2:za)(a2:Int):Ext:=Ext.of .normal [(0,.yld l),(1,.ptr 2000000 0 0),(3,.ptr 3 0 0),(5,.snap [.str S2,.i a2])] [(3,⟨2,true,[[.str S,.i a]]⟩),(1000002,⟨1,true,[[.ref 1900070 0 out.length]]⟩),(2000000,⟨1,true,[[.str s]]⟩)] [BT.of 1900070 Q2 2 out true] (by rfl)
def xeAt11(l:Nat)(s:za)(out:List Q3)(S:za)(a:Int)(S2:za)(a2:Int):(Unit)->Ext:=λ(r:Unit)=>Ext.of .normal [(0,.yld l),(1,.ptr 2000000 0 0),(3,.ptr 3 0 0)] [(3,⟨2,true,[[.str S2,.i a2]]⟩),(1000002,⟨1,true,[[.ref 1900070 0 out.length]]⟩),(2000000,⟨1,true,[[.str s]]⟩)] [BT.of 1900070 Q2 2 out true] (by rfl)
theorem kAt11(l:Nat)(s:za)(out:List Q3)(S:za)(a:Int)(S2:za)(a2:Int):Y2 Tryz.prog GG [0,1,3,5] 70 (cR (cR (cR (cR (cR (cR (cR (cR (cR aBk))))))))) (xsAt11 l s out S a S2 a2) (gAt11 l s out S a S2 a2) (xeAt11 l s out S a S2 a2):=by unfold Y2;kernel_rfl
def gAt12(l:Nat)(s:za)(out:List Q3)(S:za)(a:Int):TT (Unit):=
 .gh 15 (.drop [3]) (.done ())
def xsAt12(l:Nat)(s:za)(out:List Q3)(S:za)(a:Int):Ext:=Ext.of .normal [(0,.yld l),(1,.ptr 2000000 0 0),(3,.ptr 3 0 0)] [(3,⟨2,true,[[.str S,.i a]]⟩),(1000002,⟨1,true,[[.ref 1900070 0 out.length]]⟩),(2000000,⟨1,true,[[.str s]]⟩)] [BT.of 1900070 Q2 2 out true] (by rfl)
def xeAt12(l:Nat)(s:za)(out:List Q3)(S:za)(a:Int):(Unit)->Ext:=λ(r:Unit)=>Ext.of .normal [(0,.yld l),(1,.ptr 2000000 0 0),(3,.ptr 3 0 0)] [(3,⟨2,true,[[.str S,.i a]]⟩),(1000002,⟨1,true,[[.ref 1900070 0 out.length]]⟩),(2000000,⟨1,true,[[.str s]]⟩)] [BT.of 1900070 Q2 2 out true] (by rfl)
theorem kAt12(l:Nat)(s:za)(out:List Q3)(S:za)(a:Int):Y2 Tryz.prog GG [0,1,3,69] 70 (cR (cR aL)) (xsAt12 l s out S a) (gAt12 l s out S a) (xeAt12 l s out S a):=by unfold Y2;kernel_rfl
end Go.Proofs.YtjpahkpfkohfkaaGreatDoor
