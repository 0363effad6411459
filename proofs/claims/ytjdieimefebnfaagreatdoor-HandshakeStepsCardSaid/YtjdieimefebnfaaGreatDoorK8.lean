/- Guides and contracts, printed by a program. Guides and contracts, printed by a program. strings.Clone: the kit's contract taken G2. The blocks of oct ..; no conditions. -/
import Derived.Test.YtjdieimefebnfaaGreatDoorK7
import Derived.Test.YtjdieimefebnfaaGreatDoorK5
import Derived.Test.YtjdieimefebnfaaGreatDoorProg
import Derived.Test.YtjdieimefebnfaaGreatDoorK6
import Derived.KernelRfl
import Derived.Shelf.Strconv.Clone
set_option linter.unusedVariables false
set_option linter.unusedSimpArgs false
set_option maxRecDepth 100000
noncomputable section
abbrev Prod.q{A B C D E:Type}(x:A×B×C×D×E):E:=x.2.2.2.2
theorem And.q{a b c d e:Prop}(h:a/\b/\c/\d/\e):e:=h.2.2.2.2
namespace Go.EV
open Go
abbrev Sl{α:Type}(n:Nat)(t:Ty α)(l:List α):V:=.sl false n (l.map t.c)
abbrev Rf{α:Type}(b:Nat)(l:List α):V:=.ref b 0 l.length
abbrev Bt{α:Type}(b:Nat)(t:Ty α)(n:Nat)(l:List α):BT:=BT.of b t n l true
abbrev bD(a b:Int):Bool:=decide (0<=a)&&decide (a < b)
abbrev V.i(n:Int):V:=.int .i64 n
end Go.EV
namespace Go.Proofs.YtjdieimefebnfaaGreatDoor
open Go Go.EV
def GG:ze:=λ_=>none
abbrev TT:=T Tryz.prog GG
abbrev Sp:=EV.Spec Tryz.prog GG
abbrev Pg:=Tryz.prog
abbrev zA:=1000000
abbrev zY:=600008
def H0(a b:List V):List V:=a++b
def Ei(w:Int×Int×Int×Int×Int×Int×Int×Int):List V:=[.int .u32 w.1,.int .u32 w.2.1,.int .u32 w.2.2.1,.int .u32 w.2.2.2.1,.int .u32 w.q.1,.int .u32 w.q.2.1,.int .u32 w.q.2.2.1,.int .u32 w.q.2.2.2]
def GF{α:Type}(w:Int×Int×Int×Int×Int×Int×Int×Int×α):List V:=[.int .u32 w.1,.int .u32 w.2.1,.int .u32 w.2.2.1,.int .u32 w.2.2.2.1,.int .u32 w.q.1,.int .u32 w.q.2.1,.int .u32 w.q.2.2.1,.int .u32 w.q.2.2.2.1]
def M5(n:Nat)(v:V)(l:List V):List V:=List.replicate n v++l
theorem Q8:Tryz.prog.follows .mixedOrders=true:=by kernel_rfl
def oF(kp:List Nat){f:FuncId}{fn:Func}(hf:Pg.funcs[f]?=some fn)(a:List V){ρ:Type}(g:T Pg GG ρ)(r:ρ->V)(k:mR Pg GG kp fn a g r:=by unfold mR;kernel_rfl):EV.Spec Pg GG ρ:=.ofFn f Q8 hf k
abbrev _root_.Go.EV.T.cl{P:Program}{G:Nat->Option (List V)}{ρ α:Type}(a:Nat)(s:EV.Spec P G α)(k:α->T P G ρ):T P G ρ:=.call a s [] [] k
abbrev _root_.Go.EV.T.an{P:Program}{G:Nat->Option (List V)}(a:Nat)(c:Bool)(x:T P G Bool):T P G Bool:=.br a c x (.done false)
abbrev _root_.Go.EV.T.oR{P:Program}{G:Nat->Option (List V)}(a:Nat)(c:Bool)(x:T P G Bool):T P G Bool:=.br a c (.done true) x
def J0:List Int:=[1116352408,1899447441,3049323471,3921009573,961987163,1508970993,2453635748,2870763221,3624381080,310598401,607225278,1426881987,1925078388,2162078206,2614888103,3248222580,3835390401,4022224774,264347078,604807628,770255983,1249150122,1555081692,1996064986,2554220882,2821834349,2952996808,3210313671,3336571891,3584528711,113926993,338241895,666307205,773529912,1294757372,1396182291,1695183700,1986661051,2177026350,2456956037,2730485921,2820302411,3259730800,3345764771,3516065817,3600352804,4094571909,275423344,430227734,506948616,659060556,883997877,958139571,1322822218,1537002063,1747873779,1955562222,2024104815,2227730452,2361852424,2428436474,2756734187,3204031479,3329325298]
def M2:List V:=[.int .u32 1116352408,.int .u32 1899447441,.int .u32 3049323471,.int .u32 3921009573,.int .u32 961987163,.int .u32 1508970993,.int .u32 2453635748,.int .u32 2870763221,.int .u32 3624381080,.int .u32 310598401,.int .u32 607225278,.int .u32 1426881987,.int .u32 1925078388,.int .u32 2162078206,.int .u32 2614888103,.int .u32 3248222580,.int .u32 3835390401,.int .u32 4022224774,.int .u32 264347078,.int .u32 604807628,.int .u32 770255983,.int .u32 1249150122,.int .u32 1555081692,.int .u32 1996064986,.int .u32 2554220882,.int .u32 2821834349,.int .u32 2952996808,.int .u32 3210313671,.int .u32 3336571891,.int .u32 3584528711,.int .u32 113926993,.int .u32 338241895,.int .u32 666307205,.int .u32 773529912,.int .u32 1294757372,.int .u32 1396182291,.int .u32 1695183700,.int .u32 1986661051,.int .u32 2177026350,.int .u32 2456956037,.int .u32 2730485921,.int .u32 2820302411,.int .u32 3259730800,.int .u32 3345764771,.int .u32 3516065817,.int .u32 3600352804,.int .u32 4094571909,.int .u32 275423344,.int .u32 430227734,.int .u32 506948616,.int .u32 659060556,.int .u32 883997877,.int .u32 958139571,.int .u32 1322822218,.int .u32 1537002063,.int .u32 1747873779,.int .u32 1955562222,.int .u32 2024104815,.int .u32 2227730452,.int .u32 2361852424,.int .u32 2428436474,.int .u32 2756734187,.int .u32 3204031479,.int .u32 3329325298]
def adc(ox oy oc:Operand)(d:Nat)(x y c:Int):Qw Tryz.prog GG (Int×Int):=.Qk1 134 ox oy oc #[137,137,137] d x y c Tryz.func134 (by kernel_rfl) (by kernel_rfl) (by kernel_rfl) (by kernel_rfl)
def Y9:Ty Int:=⟨λx=>[.int .u32 x],λx=>[.int .u32 x],λ_=>rfl,λ_=>rfl,λ_ _=>rfl,λ_=>rfl⟩
def g98(p0 p1:Int):TT (Int×Int):=.done ((Z1 ((Z1 ((Z1 ((Z4 .u64 p0 32) * (Z4 .u64 p1 32)))+(Z4 .u64 (Z1 ((Z1 ((Z4 .u64 p0 32) * (U0 .u64 p1 4294967295)))+(Z4 .u64 (Z1 ((U0 .u64 p0 4294967295) * (U0 .u64 p1 4294967295))) 32))) 32)))+(Z4 .u64 (Z1 ((U0 .u64 (Z1 ((Z1 ((Z4 .u64 p0 32) * (U0 .u64 p1 4294967295)))+(Z4 .u64 (Z1 ((U0 .u64 p0 4294967295) * (U0 .u64 p1 4294967295))) 32))) 4294967295)+(Z1 ((U0 .u64 p0 4294967295) * (Z4 .u64 p1 32))))) 32))),(Z1 (p0 * p1)))
def Hf(p0 p1:Int):Sp (Int×Int):=oF [0,1,4,5,6,7,8,9,10,11,12,13] Tryz.func98 [.int .u64 p0,.int .u64 p1] (g98 p0 p1) (λr=>.Qt [.int .u64 r.1,.int .u64 r.2])
def Qk5(p0 p1:Int):Sp (Bool):=oF [0,1,3,4,5,6,7,8] Tryz.func248 [.int .u64 p0,.snap [.int .u64 p1]] (.cl 1003 (Hf p0 p0) λr1=>.cl 2003 (Hf r1.2 p0) λr2=>.QD 4 [3] (.oR 4006 (decide ((Z1 ((Z1 (r1.1 * p0))+r2.1)) < (M3 .u64 p1 32))) (.an 4011 ((Z1 ((Z1 (r1.1 * p0))+r2.1))==(M3 .u64 p1 32)) (.done (r2.2==0)))) zi λc3=>.done c3:TT (Bool)) (λr=>.bool r)
def Qk6(p0:Int):Sp (Int):=oF [0,2,3,4,6,13] Tryz.func247 [.fn 248 [] [.snap [.int .u64 p0]]] (.bind 1 (.lp (λ(l3:Int×Int)=>Ext.l .normal [(0,.fn 248 [] [.snap [.int .u64 p0]]),(2,.int .u32 0),(3,.int .u64 l3.1),(4,.int .u64 l3.2)] []) (λl3=>.br 0 (decide ((0:Int) < l3.2)) (.cl 5005 (Qk5 (Zn .u64 l3.1 l3.2) p0) λr4=>.br 0 r4 (.done (.inl ((Zn .u64 l3.1 l3.2),(Z4 .u64 l3.2 1)))) (.done (.inl (l3.1,(Z4 .u64 l3.2 1))))) (.done (.inr l3.1))) (0,68719476736)) (λ(e5:Int)=>Ext.l (.exit 0) [(2,.int .u32 0),(3,.int .u64 e5)] []) (λe5=>.done (I6 (U0 .u64 e5 4294967295))):TT (Int)) (λr=>.int .u32 r)
def Qk4(p0 p1:Int):Sp (Bool):=oF [0,1,3,4,5] Tryz.func249 [.int .u64 p0,.snap [.int .u64 p1]] (.cl 1003 (Hf p0 p0) λr8=>.QD 2 [3] (.oR 2005 (decide (r8.1 < p1)) (.an 2009 (r8.1==p1) (.done (r8.2==0)))) zi λc9=>.done c9:TT (Bool)) (λr=>.bool r)
def nO(p0:Int):Sp (Int):=oF [0,2,3,4,6,13] Tryz.func247 [.fn 249 [] [.snap [.int .u64 p0]]] (.bind 1 (.lp (λ(l10:Int×Int)=>Ext.l .normal [(0,.fn 249 [] [.snap [.int .u64 p0]]),(2,.int .u32 0),(3,.int .u64 l10.1),(4,.int .u64 l10.2)] []) (λl10=>.br 0 (decide ((0:Int) < l10.2)) (.cl 5005 (Qk4 (Zn .u64 l10.1 l10.2) p0) λr11=>.br 0 r11 (.done (.inl ((Zn .u64 l10.1 l10.2),(Z4 .u64 l10.2 1)))) (.done (.inl (l10.1,(Z4 .u64 l10.2 1))))) (.done (.inr l10.1))) (0,68719476736)) (λ(e12:Int)=>Ext.l (.exit 0) [(2,.int .u32 0),(3,.int .u64 e12)] []) (λe12=>.done (I6 (U0 .u64 e12 4294967295))):TT (Int)) (λr=>.int .u32 r)
def Qj7 :TT (Int×Int×Int×Int×Int×Int×Int×Int):=.Qy 2 (Qw.KX (ty:=Y9) 213 1 (List.replicate 64 (0:Int))) λ_=>.bind 1 (.lp (λ(l14:Int×Int×Int×Int×Int×Int×Int×Int×(List Int)×Int×Int)=>Ext.of .normal [(0,.ptr 0 0 0),(1,.ptr 1 0 0),(2,.i l14.q.q.2.2),(3,.ptr 3 0 0)] [(0,⟨8,true,[(GF l14)]⟩),(3,⟨1,true,[[.int .u64 l14.q.q.2.1]]⟩)] [Bt 1 Y9 1 l14.q.q.1] (by rfl)) (λl14=>.br 0 (decide (l14.q.q.2.2 < 64)) (.bind 0 (.bind 2 (.lp (λ(l16:Bool×Int)=>Ext.of .normal [(0,.ptr 0 0 0),(1,.ptr 1 0 0),(2,.i l14.q.q.2.2),(3,.ptr 3 0 0),(4,.bool l16.1),(5,.int .u64 l16.2)] [(0,⟨8,true,[(GF l14)]⟩),(3,⟨1,true,[[.int .u64 l14.q.q.2.1]]⟩)] [Bt 1 Y9 1 l14.q.q.1] (by rfl)) (λl16=>.br 0 (decide ((Z1 (l16.2 * l16.2))<=l14.q.q.2.1)) (.QD 9 [4] (.an 9003 l16.1 (.Qd 9005 (!(l16.2==0)) (.done ((Int.tmod l14.q.q.2.1 l16.2) != 0)))) zi λc17=>.done (.inl (c17,(Z1 (l16.2+1))))) (.done (.inr l16.1))) (true,2)) (λ(e18:Bool)=>Ext.of (.exit 2) [(0,.ptr 0 0 0),(1,.ptr 1 0 0),(2,.i l14.q.q.2.2),(3,.ptr 3 0 0),(4,.bool e18)] [(0,⟨8,true,[(GF l14)]⟩),(3,⟨1,true,[[.int .u64 l14.q.q.2.1]]⟩)] [Bt 1 Y9 1 l14.q.q.1] (by rfl)) (λe18=>.br 0 (!e18) (.done (l14.1,l14.2.1,l14.2.2.1,l14.2.2.2.1,l14.q.1,l14.q.2.1,l14.q.2.2.1,l14.q.2.2.2.1,l14.q.q.1,l14.q.q.2.2)) (.view 11003 (Qk6 l14.q.q.2.1) [] λr19=>.Qy 11004 (Qw.ZD (e:=163) 213 (.tmp 1) (.tmp 26) 29 1 ⟨1,true,(List.map Y9.c l14.q.q.1)⟩ 0 .i64 l14.q.q.2.2 64) λ_=>.row 11005 Y9 l14.q.q.1 (0+l14.q.q.2.2.toNat) true λx20=>.re 11005 (Yo.put 1 1 Y9 l14.q.q.1 (0+l14.q.q.2.2.toNat) r19) (.br 0 (decide (l14.q.q.2.2 < 8)) (.view 13003 (nO l14.q.q.2.1) [] λr21=>.Yi 13004 l14.q.q.2.2 [0,1,2,3,4,5,6,7] (λv=>bif v==0 then .done (r21,l14.2.1,l14.2.2.1,l14.2.2.2.1,l14.q.1,l14.q.2.1,l14.q.2.2.1,l14.q.2.2.2.1,(l14.q.q.1.set (0+l14.q.q.2.2.toNat) r19),(Q0 (l14.q.q.2.2+1))) else bif v==1 then .done (l14.1,r21,l14.2.2.1,l14.2.2.2.1,l14.q.1,l14.q.2.1,l14.q.2.2.1,l14.q.2.2.2.1,(l14.q.q.1.set (0+l14.q.q.2.2.toNat) r19),(Q0 (l14.q.q.2.2+1))) else bif v==2 then .done (l14.1,l14.2.1,r21,l14.2.2.2.1,l14.q.1,l14.q.2.1,l14.q.2.2.1,l14.q.2.2.2.1,(l14.q.q.1.set (0+l14.q.q.2.2.toNat) r19),(Q0 (l14.q.q.2.2+1))) else bif v==3 then .done (l14.1,l14.2.1,l14.2.2.1,r21,l14.q.1,l14.q.2.1,l14.q.2.2.1,l14.q.2.2.2.1,(l14.q.q.1.set (0+l14.q.q.2.2.toNat) r19),(Q0 (l14.q.q.2.2+1))) else bif v==4 then .done (l14.1,l14.2.1,l14.2.2.1,l14.2.2.2.1,r21,l14.q.2.1,l14.q.2.2.1,l14.q.2.2.2.1,(l14.q.q.1.set (0+l14.q.q.2.2.toNat) r19),(Q0 (l14.q.q.2.2+1))) else bif v==5 then .done (l14.1,l14.2.1,l14.2.2.1,l14.2.2.2.1,l14.q.1,r21,l14.q.2.2.1,l14.q.2.2.2.1,(l14.q.q.1.set (0+l14.q.q.2.2.toNat) r19),(Q0 (l14.q.q.2.2+1))) else bif v==6 then .done (l14.1,l14.2.1,l14.2.2.1,l14.2.2.2.1,l14.q.1,l14.q.2.1,r21,l14.q.2.2.2.1,(l14.q.q.1.set (0+l14.q.q.2.2.toNat) r19),(Q0 (l14.q.q.2.2+1))) else bif v==7 then .done (l14.1,l14.2.1,l14.2.2.1,l14.2.2.2.1,l14.q.1,l14.q.2.1,l14.q.2.2.1,r21,(l14.q.q.1.set (0+l14.q.q.2.2.toNat) r19),(Q0 (l14.q.q.2.2+1))) else .fail)) (.done (l14.1,l14.2.1,l14.2.2.1,l14.2.2.2.1,l14.q.1,l14.q.2.1,l14.q.2.2.1,l14.q.2.2.2.1,(l14.q.q.1.set (0+l14.q.q.2.2.toNat) r19),(Q0 (l14.q.q.2.2+1)))))))) (λ(e22:Int×Int×Int×Int×Int×Int×Int×Int×(List Int)×Int)=>Ext.of .normal [(0,.ptr 0 0 0),(1,.ptr 1 0 0),(2,.i e22.q.q.2),(3,.ptr 3 0 0)] [(0,⟨8,true,[(GF e22)]⟩),(3,⟨1,true,[[.int .u64 l14.q.q.2.1]]⟩)] [Bt 1 Y9 1 e22.q.q.1] (by rfl)) (λe22=>.gh 18 (.drop [3]) (.done (.inl (e22.1,e22.2.1,e22.2.2.1,e22.2.2.2.1,e22.q.1,e22.q.2.1,e22.q.2.2.1,e22.q.2.2.2.1,e22.q.q.1,(Z1 (l14.q.q.2.1+1)),e22.q.q.2))))) (.done (.inr (l14.q.q.1,l14.1,l14.2.1,l14.2.2.1,l14.2.2.2.1,l14.q.1,l14.q.2.1,l14.q.2.2.1,l14.q.2.2.2.1)))) (0,0,0,0,0,0,0,0,(List.replicate 64 (0:Int)),2,0)) (λ(e23:(List Int)×Int×Int×Int×Int×Int×Int×Int×Int)=>Ext.of (.exit 0) [(0,.ptr 0 0 0),(1,.ptr 1 0 0)] [(0,⟨8,true,[(Ei e23.2)]⟩)] [Bt 1 Y9 1 e23.1] (by rfl)) (λe23=>.fact (e23.1=J0) inferInstance λh24=>.Qy 17002 (Qw.EB 213 (.tmp 1) 40 1 ⟨1,true,(List.map Y9.c e23.1)⟩ (.agg M2) (show 1 < Y8 by decide) (by rw[h24];kernel_rfl)) λ_=>.Qy 17004 (Qw.Km (ty:=Y9) 213 (.tmp 1) (.tmp 40) 1 ⟨1,true,(List.map Y9.c e23.1)⟩ (.agg M2) J0 (λ_=>rfl) (show 1 < Y8 by decide) rfl rfl (by rw[wq,h24]) (by kernel_rfl) (by kernel_rfl)) λ_=>.done (e23.2.1,e23.2.2.1,e23.2.2.2.1,e23.q.1,e23.q.2.1,e23.q.2.2.1,e23.q.2.2.2.1,e23.q.q))
theorem Qy3 :WE Tryz.prog GG [0,1,2,3,4,5,7,14,25,31,38] Tryz.f207 [] (Ext.of .normal (H3 []) [] [] (by rfl)) (Qj7) (λ(r:Int×Int×Int×Int×Int×Int×Int×Int)=>.Qt [.agg (Ei r),.agg M2]) (λ(r:Int×Int×Int×Int×Int×Int×Int×Int)=>Ext.of .normal [] [] [] (by rfl)):=by unfold WE;kernel_rfl
def Qz0 :Sp (Int×Int×Int×Int×Int×Int×Int×Int):=.ZR 207 [] Q8 Tryz.func207 rfl (λ_=>rfl) (Qy3)
def Qu2 :TT (Int×Int×Int×Int×Int×Int×Int×Int):=.cl 1001 Qz0 λr25=>.Qy 1006 (Qw.KX (ty:=Y9) 213 2 (List.replicate 64 (0:Int))) λ_=>.Qy 1008 (Qw.Km (ty:=Y9) 213 (.tmp 2) (.tmp 6) 2 ⟨1,true,(List.map Y9.c (List.replicate 64 (0:Int)))⟩ (.agg M2) J0 (λ_=>rfl) (show 1 < Y8 by decide) rfl rfl (by kernel_rfl) (by kernel_rfl) (by kernel_rfl)) λ_=>.Qy 2002 (Qw.EB 213 (.tmp 2) 8 2 ⟨1,true,(List.map Y9.c J0)⟩ (.agg M2)) λ_=>.done (r25.1,r25.2.1,r25.2.2.1,r25.2.2.2.1,r25.q.1,r25.q.2.1,r25.q.2.2.1,r25.q.2.2.2)
theorem Qy4 :WE Tryz.prog GG [0,1,2] Tryz.f154 [] (Ext.of .normal (H3 []) [] [] (by rfl)) (Qu2) (λ(r:Int×Int×Int×Int×Int×Int×Int×Int)=>.agg ((Ei r)++M2)) (λ(r:Int×Int×Int×Int×Int×Int×Int×Int)=>Ext.of .normal [] [] [] (by rfl)):=by unfold WE;kernel_rfl
def dE :Sp (Int×Int×Int×Int×Int×Int×Int×Int):=.ZR 154 [] Q8 Tryz.func154 rfl (λ_=>rfl) (Qy4)
def Xb(p0 p1:Int):Sp (Int):=oF [0,1,4,5] Tryz.func261 [.int .u32 p0,.i p1] (.Qd 2003 (decide ((0:Int)<=(U0 .u64 (Z1 p1) 31))) (.Qd 2007 (decide ((0:Int)<=(Z1 ((32:Int) - (U0 .u64 (Z1 p1) 31))))) (.done (Zn .u32 (M3 .u32 p0 (U0 .u64 (Z1 p1) 31)) (Z4 .u32 p0 (Z1 ((32:Int) - (U0 .u64 (Z1 p1) 31))))))):TT (Int)) (λr=>.int .u32 r)
abbrev W8:=Int×Int×Int×Int×Int×Int×Int×Int
def PU(w:W8)(tl:za)(ct:Int)(s:za)(rest:za):TT (Int×Int×Int×Int×Int×Int×Int×Int):=
 .Qy 3001 (Qw.KX (ty:=Y9) 213 7 (List.replicate 64 (0:Int))) λ_=>
 .bind 1
 (.lp (λ(l28:(List Int)×Int)=>Ext.of .normal [(3,.ptr 1000003 0 0),(5,.ptr 1000005 0 0),(6,.str s),(7,.ptr 7 0 0),(22,.i l28.2)] [(1000003,⟨1,true,[[.ptr 2000000 0 0]]⟩),(1700070,⟨1,true,[[.str rest]]⟩),(2000000,⟨10,true,[(H0 (Ei w) [.str tl,.i ct])]⟩)] [BT.of 7 Y9 1 l28.1 true,BT.of 1000005 Y9 1 J0 true] (by rfl))
  (λl28=>
   .br 0 (decide (l28.2 < 64))
   (.br 0 (decide (l28.2 < 16))
    (.Qd 8007 ((decide (0<=(Q0 ((Q0 ((4:Int) * l28.2))+4)))&&decide ((Q0 ((Q0 ((4:Int) * l28.2))+4))<=(s.size:Int)))&&(decide (0<=(Q0 ((4:Int) * l28.2)))&&decide ((Q0 ((4:Int) * l28.2))<=((Q0 ((Q0 ((4:Int) * l28.2))+4)).toNat:Int)))) (.Qd 9003 (decide (0<=(0:Int)/\(0:Int) < ((s.extract ((Q0 ((4:Int) * l28.2)).toNat) ((Q0 ((Q0 ((4:Int) * l28.2))+4)).toNat)).size:Int))) (.Qd 9007 (decide (0<=(1:Int)/\(1:Int) < ((s.extract ((Q0 ((4:Int) * l28.2)).toNat) ((Q0 ((Q0 ((4:Int) * l28.2))+4)).toNat)).size:Int))) (.Qd 9012 (decide (0<=(2:Int)/\(2:Int) < ((s.extract ((Q0 ((4:Int) * l28.2)).toNat) ((Q0 ((Q0 ((4:Int) * l28.2))+4)).toNat)).size:Int))) (.Qd 9017 (decide (0<=(3:Int)/\(3:Int) < ((s.extract ((Q0 ((4:Int) * l28.2)).toNat) ((Q0 ((Q0 ((4:Int) * l28.2))+4)).toNat)).size:Int))) (.Qy 9020 (Qw.ZD (e:=163) 213 (.tmp 7) (.tmp 34) 53 7 ⟨1,true,(List.map Y9.c l28.1)⟩ 0 .i64 l28.2 64) λ_=>
     .row 9021 Y9 l28.1 (0+l28.2.toNat) true λx29=>
     .re 9021 (Yo.put 7 1 Y9 l28.1 (0+l28.2.toNat) (Zn .u32 (Zn .u32 (Zn .u32 (M3 .u32 (I6 (QZ (s.extract ((Q0 ((4:Int) * l28.2)).toNat) ((Q0 ((Q0 ((4:Int) * l28.2))+4)).toNat)) 0)) 24) (M3 .u32 (I6 (QZ (s.extract ((Q0 ((4:Int) * l28.2)).toNat) ((Q0 ((Q0 ((4:Int) * l28.2))+4)).toNat)) 1)) 16)) (M3 .u32 (I6 (QZ (s.extract ((Q0 ((4:Int) * l28.2)).toNat) ((Q0 ((Q0 ((4:Int) * l28.2))+4)).toNat)) 2)) 8)) (I6 (QZ (s.extract ((Q0 ((4:Int) * l28.2)).toNat) ((Q0 ((Q0 ((4:Int) * l28.2))+4)).toNat)) 3)))) (.done (.inl ((l28.1.set (0+l28.2.toNat) (Zn .u32 (Zn .u32 (Zn .u32 (M3 .u32 (I6 (QZ (s.extract ((Q0 ((4:Int) * l28.2)).toNat) ((Q0 ((Q0 ((4:Int) * l28.2))+4)).toNat)) 0)) 24) (M3 .u32 (I6 (QZ (s.extract ((Q0 ((4:Int) * l28.2)).toNat) ((Q0 ((Q0 ((4:Int) * l28.2))+4)).toNat)) 1)) 16)) (M3 .u32 (I6 (QZ (s.extract ((Q0 ((4:Int) * l28.2)).toNat) ((Q0 ((Q0 ((4:Int) * l28.2))+4)).toNat)) 2)) 8)) (I6 (QZ (s.extract ((Q0 ((4:Int) * l28.2)).toNat) ((Q0 ((Q0 ((4:Int) * l28.2))+4)).toNat)) 3)))),(Q0 (l28.2+1)))))))))))
    (.Qy 10003 (Qw.ZD (e:=163) 213 (.tmp 7) (.tmp 55) 56 7 ⟨1,true,(List.map Y9.c l28.1)⟩ 0 .i64 (Q0 (l28.2 - 15)) 64) λ_=>
     .row 10004 Y9 l28.1 (0+(Q0 (l28.2 - 15)).toNat) true λx30=>
     .Qy 10007 (Qw.ZD (e:=163) 213 (.tmp 7) (.tmp 59) 60 7 ⟨1,true,(List.map Y9.c l28.1)⟩ 0 .i64 (Q0 (l28.2 - 2)) 64) λ_=>
     .row 10008 Y9 l28.1 (0+(Q0 (l28.2 - 2)).toNat) true λx31=>
     .Qy 11004 (Qw.ZD (e:=163) 213 (.tmp 7) (.tmp 64) 65 7 ⟨1,true,(List.map Y9.c l28.1)⟩ 0 .i64 (Q0 (l28.2 - 16)) 64) λ_=>
     .row 11005 Y9 l28.1 (0+(Q0 (l28.2 - 16)).toNat) true λx32=>
     .Qy 11008 (Qw.ZD (e:=163) 213 (.tmp 7) (.tmp 68) 69 7 ⟨1,true,(List.map Y9.c l28.1)⟩ 0 .i64 (Q0 (l28.2 - 7)) 64) λ_=>
     .row 11009 Y9 l28.1 (0+(Q0 (l28.2 - 7)).toNat) true λx33=>
     .cl 11012 (Xb x30 (-7)) λr34=>
     .cl 11014 (Xb x30 (-18)) λr35=>
     .cl 11021 (Xb x31 (-17)) λr36=>
     .cl 11023 (Xb x31 (-19)) λr37=>
     .Qy 11029 (Qw.ZD (e:=163) 213 (.tmp 7) (.tmp 62) 90 7 ⟨1,true,(List.map Y9.c l28.1)⟩ 0 .i64 l28.2 64) λ_=>
     .row 11030 Y9 l28.1 (0+l28.2.toNat) true λx38=>
     .re 11030 (Yo.put 7 1 Y9 l28.1 (0+l28.2.toNat) (I6 ((I6 ((I6 (x32+x33))+(O2 .u32 (O2 .u32 r34 r35) (Z4 .u32 x30 3))))+(O2 .u32 (O2 .u32 r36 r37) (Z4 .u32 x31 10))))) (.done (.inl ((l28.1.set (0+l28.2.toNat) (I6 ((I6 ((I6 (x32+x33))+(O2 .u32 (O2 .u32 r34 r35) (Z4 .u32 x30 3))))+(O2 .u32 (O2 .u32 r36 r37) (Z4 .u32 x31 10))))),(Q0 (l28.2+1)))))))
   (.done (.inr l28.1)))
  ((List.replicate 64 (0:Int)),0))
 (λ(e39:(List Int))=>Ext.of (.exit 2) [(3,.ptr 1000003 0 0),(5,.ptr 1000005 0 0),(7,.ptr 7 0 0)] [(1000003,⟨1,true,[[.ptr 2000000 0 0]]⟩),(1700070,⟨1,true,[[.str rest]]⟩),(2000000,⟨10,true,[(H0 (Ei w) [.str tl,.i ct])]⟩)] [BT.of 7 Y9 1 e39 true,BT.of 1000005 Y9 1 J0 true] (by rfl))
 (λe39=>
  .bind 1
  (.lp (λ(l49:Int×Int×Int×Int×Int×Int×Int×Int×Int)=>Ext.of .normal [(3,.ptr 1000003 0 0),(5,.ptr 1000005 0 0),(7,.ptr 7 0 0),(12,.ptr 12 0 0),(97,.i l49.q.q)] [(12,⟨8,true,[(GF l49)]⟩),(1000003,⟨1,true,[[.ptr 2000000 0 0]]⟩),(1700070,⟨1,true,[[.str rest]]⟩),(2000000,⟨10,true,[(H0 (Ei w) [.str tl,.i ct])]⟩)] [BT.of 7 Y9 1 e39 true,BT.of 1000005 Y9 1 J0 true] (by rfl))
   (λl49=>
    .br 0 (decide (l49.q.q < 64))
    (.cl 18004 (Xb l49.q.1 (-6)) λr50=>
     .cl 18006 (Xb l49.q.1 (-11)) λr51=>
     .cl 18009 (Xb l49.q.1 (-25)) λr52=>
     .Qy 18024 (Qw.ZD (e:=163) 213 (.tmp 5) (.tmp 126) 127 1000005 ⟨1,true,(List.map Y9.c J0)⟩ 0 .i64 l49.q.q 64) λ_=>
     .row 18025 Y9 J0 (0+l49.q.q.toNat) true λx53=>
     .Qy 18028 (Qw.ZD (e:=163) 213 (.tmp 7) (.tmp 130) 131 7 ⟨1,true,(List.map Y9.c e39)⟩ 0 .i64 l49.q.q 64) λ_=>
     .row 18029 Y9 e39 (0+l49.q.q.toNat) true λx54=>
     .cl 19002 (Xb l49.1 (-2)) λr55=>
     .cl 19004 (Xb l49.1 (-13)) λr56=>
     .cl 19007 (Xb l49.1 (-22)) λr57=>
     .done (.inl ((I6 ((I6 ((I6 ((I6 ((I6 (l49.q.2.2.2.1+(O2 .u32 (O2 .u32 r50 r51) r52)))+(O2 .u32 (U0 .u32 l49.q.1 l49.q.2.1) (U0 .u32 (O2 .u32 4294967295 l49.q.1) l49.q.2.2.1))))+x53))+x54))+(I6 ((O2 .u32 (O2 .u32 r55 r56) r57)+(O2 .u32 (O2 .u32 (U0 .u32 l49.1 l49.2.1) (U0 .u32 l49.1 l49.2.2.1)) (U0 .u32 l49.2.1 l49.2.2.1)))))),l49.1,l49.2.1,l49.2.2.1,(I6 (l49.2.2.2.1+(I6 ((I6 ((I6 ((I6 (l49.q.2.2.2.1+(O2 .u32 (O2 .u32 r50 r51) r52)))+(O2 .u32 (U0 .u32 l49.q.1 l49.q.2.1) (U0 .u32 (O2 .u32 4294967295 l49.q.1) l49.q.2.2.1))))+x53))+x54)))),l49.q.1,l49.q.2.1,l49.q.2.2.1,(Q0 (l49.q.q+1)))))
    (.done (.inr (l49.1,l49.2.1,l49.2.2.1,l49.2.2.2.1,l49.q.1,l49.q.2.1,l49.q.2.2.1,l49.q.2.2.2.1))))
   (w.1,w.2.1,w.2.2.1,w.2.2.2.1,w.q.1,w.q.2.1,w.q.2.2.1,w.q.2.2.2,0))
  (λ(e58:Int×Int×Int×Int×Int×Int×Int×Int)=>Ext.of (.exit 4) [(3,.ptr 1000003 0 0),(12,.ptr 12 0 0)] [(12,⟨8,true,[(Ei e58)]⟩),(1000003,⟨1,true,[[.ptr 2000000 0 0]]⟩),(1700070,⟨1,true,[[.str rest]]⟩),(2000000,⟨10,true,[(H0 (Ei w) [.str tl,.i ct])]⟩)] [BT.of 1000005 Y9 1 J0 true] (by rfl))
  (λe58=>
   .tt (.tt (.tt (.tt (.tt (.tt (.tt (.tt (.ff (.done ((I6 (w.1+e58.1)),(I6 (w.2.1+e58.2.1)),(I6 (w.2.2.1+e58.2.2.1)),(I6 (w.2.2.2.1+e58.2.2.2.1)),(I6 (w.q.1+e58.q.1)),(I6 (w.q.2.1+e58.q.2.1)),(I6 (w.q.2.2.1+e58.q.2.2.1)),(I6 (w.q.2.2.2+e58.q.2.2.2))))))))))))))
def TE(w:W8)(tl:za)(ct:Int)(s:za)(rest:za):Ext:=Ext.of .normal [(3,.ptr 1000003 0 0),(5,.ptr 1000005 0 0),(6,.str s)] [(1000003,⟨1,true,[[.ptr 2000000 0 0]]⟩),(1700070,⟨1,true,[[.str rest]]⟩),(2000000,⟨10,true,[(H0 (Ei w) [.str tl,.i ct])]⟩)] [BT.of 1000005 Y9 1 J0 true] (by rfl)
def oD(w:W8)(tl:za)(ct:Int)(s:za)(rest:za):(Int×Int×Int×Int×Int×Int×Int×Int)->Ext:=λ(r:Int×Int×Int×Int×Int×Int×Int×Int)=>Ext.of .normal [] [(1000003,⟨1,true,[[.ptr 2000000 0 0]]⟩),(1700070,⟨1,true,[[.str rest]]⟩),(2000000,⟨10,true,[(H0 (Ei r) [.str tl,.i ct])]⟩)] [BT.of 1000005 Y9 1 J0 true] (by rfl)
theorem Qmw(w:W8)(tl:za)(ct:Int)(s:za)(rest:za):Y1 Tryz.prog GG [3,5,6,7,8,9,10,11,12,13,14,15,16,17,18,22,23,26,97,98,179,180] 198 (A6 (cB (cR (cR (Tryz.f250.body.getD .skip))))) (TE w tl ct s rest) (PU w tl ct s rest) (oD w tl ct s rest):=by unfold Y1;kernel_rfl
end Go.Proofs.YtjdieimefebnfaaGreatDoor
namespace Go.Proofs
open Go.Shelf
def Tryz.GP:Go.Shelf.Ren:=⟨fun|316=>103|n=>n,fun|9=>9|3=>3|4=>4|37=>57|0=>0|127=>168|5=>5|n=>n,fun|n=>n⟩
theorem Tryz.iQ:LaysM.n316 Tryz.prog Tryz.GP where
 mixed:=by kernel_rfl
 f316:=Tryz.func103.trans (congrArg some (by kernel_rfl))
 t0:=Tryz.underlying0
 a0:=Tryz.isAgg0
 z0:=Tryz.sizeOf0
 v0:=Tryz.zeroValue0
 t3:=Tryz.underlying3
 a3:=Tryz.isAgg3
 z3:=Tryz.sizeOf3
 v3:=Tryz.zeroValue3
 t4:=Tryz.underlying4
 a4:=Tryz.isAgg4
 z4:=Tryz.sizeOf4
 v4:=Tryz.zeroValue4
 t9:=Tryz.underlying9
 a9:=Tryz.isAgg9
 z9:=Tryz.sizeOf9
 v9:=Tryz.zeroValue9
 t37:=Tryz.underlying57
 a37:=Tryz.isAgg57
 z37:=Tryz.sizeOf57
 v37:=Tryz.zeroValue57
 t127:=Tryz.underlying168
 a127:=Tryz.isAgg168
 z127:=Tryz.sizeOf168
 v127:=Tryz.zeroValue168
 t5:=Tryz.underlying5
 a5:=Tryz.isAgg5
 z5:=Tryz.sizeOf5
 v5:=Tryz.zeroValue5
 i0:=by kernel_rfl
 i3:=by kernel_rfl
 i4:=by kernel_rfl
 i5:=by kernel_rfl
 i9:=by kernel_rfl
 i37:=by kernel_rfl
 i127:=by kernel_rfl
end Go.Proofs
namespace Go.Proofs.YtjdieimefebnfaaGreatDoor
open Go Go.EV
def jC(p0:za):TT Unit:=.Qd 0 (decide (p0.size<=281474976710656)) (.done ())
theorem Qey(p0:za)(r:Unit)(h:(jC p0).run=some r):QR Tryz.prog GG 103 [.str p0] (Qe []) (.str p0) (Qe []):=by
 have h1:p0.size<=281474976710656:=by
  cases hd:decide (p0.size<=281474976710656) with
  | true=>simpa using hd
  | false=>
   unfold jC at h
   rw[hd] at h
   cases h
 exact Nv kK (λw=>Any.stringslite_Clone Tryz.iQ p0 w h1) (λ_ _ _ _=>.data (.str _))
def Qkz(p0:za):Sp Unit:=⟨103,[.str p0],[],(jC p0).run,λ_=>.str p0,λ_=>[],[],λ_ _ h=>by simp at h,λr h=>Qey p0 r h⟩
def LH:List (Nat×V):=[(3,.ptr 1000003 0 0),(5,.ptr 1000005 0 0),(20,.fn 267 [] [.ptr 1700070 0 0])]
def mxR(w:W8)(tl:za)(ct:Int):List V:=[.int .u32 w.1,.int .u32 w.2.1,.int .u32 w.2.2.1,.int .u32 w.2.2.2.1,.int .u32 w.q.1,.int .u32 w.q.2.1,.int .u32 w.q.2.2.1,.int .u32 w.q.2.2.2,.str tl,.int .i64 ct]
def mxL(w:W8)(tl:za)(ct:Int)(rest:za):List (Nat×Qi):=
 [(1000003,⟨1,true,[[.ptr 2000000 0 0]]⟩),(1700070,⟨1,true,[[.str rest]]⟩),(2000000,⟨10,true,[mxR w tl ct]⟩)]
def mxT:List BT:=[BT.of 1000005 Y9 1 J0 true]
def lE(ts:List (Nat×V))(w:W8)(tl:za)(ct:Int)(rest:za):Ext:=Ext.of .normal ts (mxL w tl ct rest) mxT (by rfl)
def Tc(w:W8)(tl:za)(ct:Int)(rest:za):List (Nat×Qi):=(lE [] w tl ct rest).bs
theorem W0{st:St}(x:Ext){n:Nat}(hok:x.ok=true)(hn:st.n=n)(h:WS x st=x.ts/\WB x st=x.bs.map λp=>(p.1,some p.2)):QH GG st (x.D n).st:=by
 grind [T4]
noncomputable def yL:Code:=cB (cR (cR (Tryz.f250.body.getD .skip)))
def yF:Code:=Mk yL
section
variable (w:W8) (tl:za) (ct:Int) (s rest:za)
theorem kMa:Y1 Tryz.prog GG [3,5,6,20,21] 198 yF (lE ((21,.str s) :: LH) w tl ct rest) (.done ():TT Unit) (λ_=>TE w tl ct s rest):=by unfold Y1;kernel_rfl
end
theorem VN(w:W8)(tl:za)(ct:Int)(s rest:za){r:W8}(hb:(PU w tl ct s rest).run=some r) :
  Jr Tryz.prog GG 198 (Zm LH) [21] yF (A6 yL) (Qe (Tc w tl ct rest)) [.str s] (λe b'=>e=.normal/\b'=Qe (Tc r tl ct rest)):=by
 refine⟨((TE w tl ct s rest).D 198).st,?_,?_⟩
 ·have h:=(kMa w tl ct s rest).tv Q8 (r:=()) rfl (by rfl)
  have e:((lE ((21,.str s) :: LH) w tl ct rest).D 198).st=WH (M8 198 (Zm LH) (Qe (Tc w tl ct rest))) ([21].zip [.str s]):=by
   rw[H6 (by rfl)]
   exact(JY 198 LH _ 21 (.str s)).symm
  rw[e] at h
  exact h
 ·refine((Qmw w tl ct s rest).tv Q8 hb (by rfl)).mono λe s' hg=>?_
  obtain⟨rfl,g⟩:=hg
  refine⟨_,198,⟨rfl,rfl⟩,?_⟩
  have e:((oD w tl ct s rest r).D 198).st=M8 198 (λ_=>.undef) (Qe (Tc r tl ct rest)):=by
   rw[H6 (by rfl)];rfl
  grind
def Fk(l:Nat):List V:=[.QP l,.ptr 1700070 0 0]
noncomputable def cBk:Code:=Tryz.f267.body.getD .skip
def cBL:Code:=cB (cB cBk)
def bR0:Code:=cL (cL cBL)
def Qzw:Array Oper:=Ik (cL (cB (cL (cR cBL))))
def bR1:Code:=cR (cR cBL)
theorem eBk:cBk=.block 0 (.loop cBL):=by kernel_rfl
theorem eBL:cBL=.seq (.seq bR0 (.cond (.tmp 5) .skip (.exit 0))) (.seq (.block 1 (.seq (.region 2 Qzw false) (.cond (.tmp 12) .ret .skip))) bR1):=by kernel_rfl
section
variable (l:Nat) (w:W8) (tl:za) (ct:Int) (rest:za)
def tBk:List (Nat×V):=[(0,.QP l),(1,.ptr 1700070 0 0)]
def mH:Ext:=lE (tBk l) w tl ct rest
def gM:Ext:=lE (tBk l++[(5,.bool (decide ((64:Int)<=(rest.size:Int))))]) w tl ct rest
def Qq5:Ext:=lE (tBk l++[(8,.QP l),(10,.str (rest.extract 0 64))]) w tl ct rest
theorem kB0:Y1 Tryz.prog GG [0,1,5] 13 bR0 (mH l w tl ct rest) (.done ():TT Unit) (λ_=>gM l w tl ct rest):=by unfold Y1;kernel_rfl
def gB2:TT Unit:=.Qd 2003 (decide (0<=(64:Int))&&decide ((64:Int)<=(rest.size:Int))) (.done ())
theorem kB2:W5 Tryz.prog GG [0,1,8,10] 13 2 Qzw 3 (mH l w tl ct rest) (gB2 rest) (λ_=>Qq5 l w tl ct rest):=by unfold W5;kernel_rfl
def gB1:TT Unit:=.Qd 1002 (decide (0<=(64:Int))&&decide ((64:Int)<=(rest.size:Int))) (.done ())
theorem kB1:Y1 Tryz.prog GG [0,1] 13 bR1 (mH l w tl ct rest) (gB1 rest) (λ_=>mH l w tl ct (rest.extract 64 rest.size)):=by unfold Y1;kernel_rfl
end
def C8(tl:za)(ct:Int)(x:W8×za):Option ((W8×za)⊕W8):=
 bif decide ((64:Int)<=(x.2.size:Int)) then
  (match (PU x.1 tl ct (x.2.extract 0 64) x.2).run with
  | none=>none
  | some w=>some (.inl (w,x.2.extract 64 x.2.size)))
 else some (.inr x.1)
def CH(w:W8)(tl:za)(ct:Int)(s:za):Option W8:=X7 (C8 tl ct) ZN (w,s)
def Qkp:YL:=⟨198,Zm LH,#[21],yF,A6 yL⟩
theorem iH(w:W8)(tl:za)(ct:Int)(s:za){r:W8}(h:CH w tl ct s=some r) :
  Uj Tryz.prog GG cBk 13 Fk (Qe (Tc w tl ct s)) Qkp (λe b=>e=.normal/\∃rest,b=Qe (Tc r tl ct rest)):=by
 refine Uj.of λl=>?_
 have e0:U3 13 (Fk l) (Qe (Tc w tl ct s))=((lE (H3 (Fk l)) w tl ct s).D 13).st:=(R8 (x:=lE (H3 (Fk l)) w tl ct s) (by rfl) (by rfl) 13).symm
 rw[e0,eBk]
 show YT _ _ _ _ _ ⟨.normal,((mH l w tl ct s).D 13).st⟩ _
 refine YT.block ?_
 refine YT.loop (λm s=>s.x=.normal/\∃y:W8×za,QH GG s.st ((mH l y.1 tl ct y.2).D 13).st/\X7 (C8 tl ct) m y=some r) (λm s hI=>?_) (n:=ZN) ⟨rfl,(w,s),QH.same _,h⟩
 obtain⟨x,st⟩:=s
 obtain⟨rfl,⟨v,o⟩,g,hit⟩:=hI
 refine YT.DB g ?_
 cases m with
 | zero=>simp[X7] at hit
 | succ m=>
  rw[T0] at hit
  rw[eBL]
  refine YT.seq (YT.seq (YT.piece (kB0 l v tl ct o) Q8 rfl (by rfl) λs g=>?_))
  show YT _ _ _ _ _ _ _
  refine YT.DB g ?_
  cases hc:decide ((64:Int)<=(o.size:Int)) with
  | false=>
   have hs0:C8 tl ct (v,o)=some (.inr v):=by grind [C8]
   rw[hs0] at hit
   obtain rfl:v=r:=zW hit
   refine YT.cond (b:=false) (by show some (V.bool (decide ((64:Int)<=(o.size:Int))))=_;rw[hc]) (YT.exit ?_)
   refine⟨.inl rfl,13,Zm (gM l v tl ct o).ts,Qe (Tc v tl ct o),?_,rfl,o,rfl⟩
   show QH GG ((gM l v tl ct o).D 13).st _
   rw[H6 (by rfl) 13]
   exact QH.same _
  | true=>
   have hrun:∀a:Nat,(T.Qd a (decide (0<=(64:Int))&&decide ((64:Int)<=(o.size:Int))) (.done ()):TT Unit).run=some ():=λa=>by
    rw[hc];rfl
   refine YT.cond (b:=true) (by show some (V.bool (decide ((64:Int)<=(o.size:Int))))=_;rw[hc]) (YT.skip ?_)
   show YT _ _ _ _ _ _ _
   refine YT.DB (st':=((mH l v tl ct o).D 13).st) (W0 (mH l v tl ct o) (by rfl) rfl ⟨by rfl,by rfl⟩) ?_
   cases h5:(PU v tl ct (o.extract 0 64) o).run with
   | none=>grind [C8]
   | some v2=>
   have hs0:C8 tl ct (v,o)=some (.inl (v2,o.extract 64 o.size)):=by grind [C8]
   rw[hs0] at hit
   refine YT.seq (YT.block (YT.seq (YT.region ?_)))
   show J2 _ _ _ _ _ ([0,1,2]++[3,4]) _ _
   refine J2.tv ((kB2 l v tl ct o).tv Q8 (hrun _) (by rfl)) λe st hq'=>⟨hq'.1,J2.DB hq'.2 ?_⟩
   rw[H6 (x:=Qq5 l v tl ct o) (by rfl) 13]
   refine J2.Ku (hi:=rfl) rfl rfl rfl rfl rfl rfl rfl ?_ ?_ ?_ rfl (VN v tl ct (o.extract 0 64) o h5) ?_ ?_
   ·exact λi=>O8 (by rfl) i
   ·exact λi=>O8 (by rfl) i
   ·intro p hp
    have:p∈[21]:=hp
    simp at this
    subst this
    exact(by decide:21 < 198)
   ·grind
   ·intro e b' h
    obtain⟨rfl,rfl⟩:=h
    refine J2.step rfl (J2.nil ?_)
    show YT _ _ _ _ _ _ _
    refine YT.cond (b:=false) rfl (YT.skip ?_)
    show YT _ _ _ _ _ _ _
    refine YT.DB (st':=((mH l v2 tl ct o).D 13).st) (W0 (mH l v2 tl ct o) (by rfl) rfl ⟨by rfl,by rfl⟩) ?_
    refine YT.piece (kB1 l v2 tl ct o) Q8 (hrun _) (by rfl) λs g=>?_
    exact⟨m,Nat.lt_succ_self m,rfl,(v2,o.extract 64 o.size),g,hit⟩
def Qzs:List (Nat×V):=[(3,.ptr 3 0 0),(5,.ptr 5 0 0)]
def mfL(w:W8)(tl:za)(ct:Int):List (Nat×Qi):=[(3,⟨1,true,[[.ptr 1000000 0 0]]⟩),(1000000,⟨10,true,[mxR w tl ct]⟩)]
def aN(w:W8)(tl:za)(ct:Int)(s:za):List (Nat×Qi):=[(3,⟨1,true,[[.ptr 1000000 0 0]]⟩),(700070,⟨1,true,[[.str s]]⟩),(1000000,⟨10,true,[mxR w tl ct]⟩)]
def mfT:List BT:=[BT.of 5 Y9 1 J0 true]
def WD(w:W8)(tl:za)(ct:Int)(s:za):Ext:=Ext.of .normal (Qzs++[(20,.fn 267 [] [.ptr 700070 0 0])]) (aN w tl ct s) mfT (by rfl)
def eMf(w:W8)(tl:za)(ct:Int):Ext:=Ext.of .normal Qzs (mfL w tl ct) mfT (by rfl)
theorem Sb{α:Type}(ty:Ty α)(l:List α):(List.map ty.c l).map (N4 sh)=List.map ty.c l:=by
 have h:J8 (l.map ty.c):=ty.data l
 have:(⟨0,true,List.map ty.c l⟩:Qi).Qc sh=⟨0,true,List.map ty.c l⟩:=(by grind [J8.Qc,List.map,sh])
 have:=congrArg Qi.rows this
 exact this
theorem lC(w:W8)(tl:za)(ct:Int)(s:za):Zz (Qe (WD w tl ct s).bs)=Qe (Tc w tl ct s):=by
 rw[Ue]
 have:((WD w tl ct s).bs.map λp=>(sh p.1,p.2.Qc sh))=Tc w tl ct s:=by
  simp only[WD,Ext.of,aN,mfT,List.cons_append,List.nil_append,wj,List.map_nil,BT.of,Qi.Qc,Sb]
  kernel_rfl
 rw[this]
theorem aT(w:W8)(tl:za)(ct:Int)(s:za){r:W8}(h:CH w tl ct s=some r) :
  TV Tryz.prog GG (.rangeFunc (.tmp 20) #[21] yF (A6 yL)) ((WD w tl ct s).D 198).st (λe st=>e=.normal/\QH GG st ((eMf r tl ct).D 198).st):=by
 have ht:(λi=>H8 sh (((WD w tl ct s).D 198).st.t i))=Zm LH:=by
  have:((WD w tl ct s).D 198).st.t=Zm (WD w tl ct s).ts:=rfl
  rw[this,C4]
  have:((WD w tl ct s).ts.map λp=>(p.1,H8 sh p.2))=LH:=by kernel_rfl
  rw[this]
 have hb:Tryz.f267.body=some cBk:=by kernel_rfl
 refine TV.XD (f:=267) (fi:=Tryz.f267) (c:=cBk) (first:=[]) (caps:=[.ptr 1700070 0 0]) (R:=λe b=>e=.normal/\∃rest,b=Qe (Tc r tl ct rest)) ?_ Tryz.func267 hb (by kernel_rfl) (by kernel_rfl) ?_ (λi=>?_) ?_ ?_
 ·show some ((λi=>H8 sh (((WD w tl ct s).D 198).st.t i)) 20)=_
  rw[ht];rfl
 ·intro b k hk
  obtain⟨q,h1,rfl,_⟩:=ZL (show Qe (WD w tl ct s).bs b=some k from hk)
  show (((WD w tl ct s).us).contains q.1 || Qk q.1)=true
  simp only[Ext.us,zU,zZ,zC]
  grind
 ·have:=congrFun ht i
  rw[show H8 sh (((WD w tl ct s).D 198).st.t i)=Zm LH i from this]
  exact O8 (by rfl) i
 ·have hbb:Zz ((WD w tl ct s).D 198).st.b=Qe (Tc w tl ct s):=lC w tl ct s
  rw[ht,hbb]
  have e:max Tryz.f267.ntmps (([]:List V).length+1+[V.ptr 1700070 0 0].length)=13:=by kernel_rfl
  rw[e]
  exact iH w tl ct s h
 ·intro e b' ho
  obtain⟨rfl,rest,rfl⟩:=ho
  refine⟨.inl rfl,Qe (WD r tl ct rest).bs,(lC r tl ct rest).symm,?_,rfl,?_⟩
  ·show (E6 198 (WD w tl ct s).ts (WD r tl ct rest).bs (WD w tl ct s).us).known
   refine⟨λi b hm=>?_,λi k hk=>?_⟩
   ·have hm':b∈W2 (Zm (WD w tl ct s).ts i):=hm
    unfold Zm at hm'
    cases hf:(WD w tl ct s).ts.find? (λp=>p.1==i) with
    | none=>grind [W2]
    | some p=>
     rw[hf] at hm'
     have all:((WD w tl ct s).ts.all λp=>(W2 p.2).all λb=>(WD w tl ct s).us.contains b)=true:=by rfl
     have:=zG.1 (zG.1 all p (wW hf)) b hm'
     show ((WD w tl ct s).us.contains b || Qk b)=true
     rw[this];rfl
   ·obtain⟨q,h1,rfl,rfl⟩:=ZL (show Qe (WD r tl ct rest).bs i=some k from hk)
    have husl:(WD r tl ct rest).us=(WD w tl ct s).us:=rfl
    refine⟨?_,λb hm=>?_⟩
    ·show ((WD w tl ct s).us.contains q.1 || Qk q.1)=true
     rw[<-husl]
     simp only[Ext.us,zU,zZ,zC]
     grind
    ·have:q∈aN r tl ct rest++mfT.map λx=>(x.id,x.k):=h1
     rcases wa.1 this with h2|h2
     ·have all:((aN r tl ct rest).all λq=>(E5 q.2.rows.flatten).all λb=>(WD w tl ct s).us.contains b)=true:=by rfl
      have:=zG.1 (zG.1 all q h2) b hm
      show ((WD w tl ct s).us.contains b || Qk b)=true
      rw[this];rfl
     ·have hdat:=Fw _ h2
      rw[hdat.refs] at hm;simp at hm
  ·show QH GG (E6 198 (WD w tl ct s).ts (WD r tl ct rest).bs (WD w tl ct s).us) _
   exact W0 (eMf r tl ct) (by rfl) rfl ⟨by rfl,by rfl⟩
def gG(w:W8)(tl:za)(ct:Int)(s:za):Sub Tryz.prog GG W8:=
 ⟨.rangeFunc (.tmp 20) #[21] yF (A6 yL),198,WD w tl ct s,CH w tl ct s,λr=>eMf r tl ct,λ_ h=>aT w tl ct s h⟩
structure MN where
 a0:Int
 a1:Int
 a2:Int
 a3:Int
 a4:Int
 a5:Int
 a6:Int
 a7:Int
structure BU where
 fY:MN
 gb:za
 fU:Int
structure Jn where
 fD:BU
structure J9 where
 fS:za
 fq:Int
structure MG where
 gj:J9
def Z2:Ty za:=⟨λx=>[.str x],λx=>[.str x],λ_=>rfl,λ_=>rfl,λ_ _=>rfl,λ_=>rfl⟩
def Z9:Ty Int:=⟨λx=>[.int .u8 x],λx=>[.int .u8 x],λ_=>rfl,λ_=>rfl,λ_ _=>rfl,λ_=>rfl⟩
def Qu3(p0:List za):TT (Bool):=.QM 1 (.lp (λ(l61:Int)=>Ext.l .normal [(2,.bool false),(5,Sl 1 Z2 p0),(6,.i (M9 Z2 p0)),(7,.i l61)] []) (λl61=>.br 0 (decide (l61 < (M9 Z2 p0))) (.row 3001 Z2 p0 l61.toNat (decide (0<=l61)) λx62=>.br 0 (decide ((4096:Int) < (x62.size:Int))) (.done (.inr (.inl ()))) (.done (.inl (Q0 (l61+1))))) (.done (.inr (.inr ())))) 0) (λ(e63:Unit)=>Ext.l .ret [(2,.bool true)] []) (λ(e64:Unit)=>Ext.l (.exit 0) [(2,.bool false)] []) (λe63=>.done true) (λe64=>.done false)
def Ck(p0:List za):Sp (Bool):=oF [0,2,4,5,6,7,8,13] Tryz.func153 [Sl 1 Z2 p0] (Qu3 p0) (λr=>.bool r)
def Qk3(p0:za):Sp (Unit):=.ZR 260 [] Q8 Tryz.func260 rfl (λ_=>rfl) (show WE Pg GG [0,1,2] Tryz.f260 [.str p0] (Ext.of .normal (H3 [.str p0]) [] [] (by rfl)) (.done ():TT (Unit)) (λ(r:Unit)=>.fn 267 [] [.ptr 1 0 0]) (λ(r:Unit)=>Ext.of .normal [] [(1,⟨1,true,[[.str p0]]⟩)] [] (by rfl)) by unfold WE;kernel_rfl)
def jF(p0:za)(p1:Jn):TT (Int×Int×Int×Int×Int×Int×Int×Int):=.Qy 2 (Qw.EW (ty:=Y9) 213 (.tmp 2) 5 J0) λ_=>.call 1002 (Qk3 p0) [] [(1,500003)] λr66=>.gh 1 (.Qc 500003 700070) (.sub (gG (p1.fD.fY.a0,p1.fD.fY.a1,p1.fD.fY.a2,p1.fD.fY.a3,p1.fD.fY.a4,p1.fD.fY.a5,p1.fD.fY.a6,p1.fD.fY.a7) p1.fD.gb p1.fD.fU p0) λr67=>.done (r67.1,r67.2.1,r67.2.2.1,r67.2.2.2.1,r67.q.1,r67.q.2.1,r67.q.2.2.1,r67.q.2.2.2))
def OT(p0:za)(p1:Jn):Sp (Int×Int×Int×Int×Int×Int×Int×Int):=.ZR 250 [] Q8 Tryz.func250 rfl (λ_=>rfl) (show WE Pg GG [0,1,2,3,5,6,7,8,9,10,11,12,13,14,15,16,17,18,20,21,22,23,26,97,98,179,180] Tryz.f250 [.ptr zA 0 0,.str p0,.agg M2] (Ext.of .normal (H3 [.ptr zA 0 0,.str p0,.agg M2]) [(zA,⟨10,true,[[.int .u32 p1.fD.fY.a0,.int .u32 p1.fD.fY.a1,.int .u32 p1.fD.fY.a2,.int .u32 p1.fD.fY.a3,.int .u32 p1.fD.fY.a4,.int .u32 p1.fD.fY.a5,.int .u32 p1.fD.fY.a6,.int .u32 p1.fD.fY.a7,.str p1.fD.gb,.i p1.fD.fU]]⟩)] [] (by rfl)) (jF p0 p1) (λ(r:Int×Int×Int×Int×Int×Int×Int×Int)=>.Qt []) (λ(r:Int×Int×Int×Int×Int×Int×Int×Int)=>Ext.of .normal [] [(zA,⟨10,true,[(H0 (Ei r) [.str p1.fD.gb,.i p1.fD.fU])]⟩)] [] (by rfl)) by unfold WE;kernel_rfl)
def g59(p0:za):TT (za):=.cl 1002 (Qkz p0) λr69=>.done p0
def s59(p0:za):Sp (za):=oF [0,2] Tryz.func59 [.str p0] (g59 p0) (λr=>.str r)
def tK(p0:za)(p1:Jn):TT (Int×Int×Int×Int×Int×Int×Int×Int×za×Int):=.Qy 1 (Qw.EW (ty:=Y9) 213 (.tmp 2) 5 J0) λ_=>.Qd 1007 (decide (p1.fD.gb.size+p0.size<=9223372036854775807)) (.Qy 2003 (Qw.EB 213 (.tmp 5) 16 5 ⟨1,true,(List.map Y9.c J0)⟩ (.agg M2)) λ_=>.call 2004 (OT (p1.fD.gb++p0) (Jn.mk (BU.mk (MN.mk p1.fD.fY.a0 p1.fD.fY.a1 p1.fD.fY.a2 p1.fD.fY.a3 p1.fD.fY.a4 p1.fD.fY.a5 p1.fD.fY.a6 p1.fD.fY.a7) p1.fD.gb p1.fD.fU))) [(zA,zA)] [] λr68=>.Qd 3007 (decide (0<=(Q0 ((Q0 (Int.tdiv ((p1.fD.gb++p0).size:Int) 64)) * 64)))&&decide ((Q0 ((Q0 (Int.tdiv ((p1.fD.gb++p0).size:Int) 64)) * 64))<=((p1.fD.gb++p0).size:Int))) (.cl 3008 (s59 ((p1.fD.gb++p0).extract ((Q0 ((Q0 (Int.tdiv ((p1.fD.gb++p0).size:Int) 64)) * 64)).toNat) ((p1.fD.gb++p0).size))) λr70=>.done (r68.1,r68.2.1,r68.2.2.1,r68.2.2.2.1,r68.q.1,r68.q.2.1,r68.q.2.2.1,r68.q.2.2.2,r70,(Q0 (p1.fD.fU+(p0.size:Int))))))
def rZ(p0:za)(p1:Jn):Sp (Int×Int×Int×Int×Int×Int×Int×Int×za×Int):=.ZR 209 [] Q8 Tryz.func209 rfl (λ_=>rfl) (show WE Pg GG [0,1,2,5,6] Tryz.f209 [.ptr zA 0 0,.str p0,.agg M2] (Ext.of .normal (H3 [.ptr zA 0 0,.str p0,.agg M2]) [(zA,⟨10,true,[[.int .u32 p1.fD.fY.a0,.int .u32 p1.fD.fY.a1,.int .u32 p1.fD.fY.a2,.int .u32 p1.fD.fY.a3,.int .u32 p1.fD.fY.a4,.int .u32 p1.fD.fY.a5,.int .u32 p1.fD.fY.a6,.int .u32 p1.fD.fY.a7,.str p1.fD.gb,.i p1.fD.fU]]⟩)] [] (by rfl)) (tK p0 p1) (λ(r:Int×Int×Int×Int×Int×Int×Int×Int×za×Int)=>.Qt []) (λ(r:Int×Int×Int×Int×Int×Int×Int×Int×za×Int)=>Ext.of .normal [] [(zA,⟨10,true,[(H0 (GF r) [.str r.q.q.1,.i r.q.q.2])]⟩)] [] (by rfl)) by unfold WE;kernel_rfl)
def Qj5(p0:Jn):TT (za):=.Qy 2 (Qw.EW (ty:=Y9) 213 (.tmp 1) 3 J0) λ_=>.Qd 1004 (decide (p0.fD.gb.size+(bs [128]).size<=9223372036854775807)) (.Qy 1011 (Qw.Bk (ty:=Z9) (t:=57) (e:=5) (zv:=.int .u8 0) (zc:=.int .u8 0) (0:Int) (.tmp 20) (.tmp 20) 21 (Int.tmod (Q0 ((119:Int) - (p0.fD.gb.size:Int))) 64) (Int.tmod (Q0 ((119:Int) - (p0.fD.gb.size:Int))) 64) 1 (by kernel_rfl) (by kernel_rfl) (by kernel_rfl) rfl ⟨rfl,rfl,rfl⟩ (λ_ _=>by constructor)) λ_=>.Qy 1012 (Qw.Zi (ty:=Z9) (s:=57) (t:=9) (e:=5) (.tmp 21) 22 21 (List.replicate (Int.tmod (Q0 ((119:Int) - (p0.fD.gb.size:Int))) 64).toNat (0:Int)) ((Int.tmod (Q0 ((119:Int) - (p0.fD.gb.size:Int))) 64).toNat) (hn:=(by simp))) λ_=>.Qd 1013 (decide ((p0.fD.gb++(bs [128])).size+(strOfNums (List.replicate (Int.tmod (Q0 ((119:Int) - (p0.fD.gb.size:Int))) 64).toNat (0:Int))).size<=9223372036854775807)) (.tt (.Qd 6008 (decide (((p0.fD.gb++(bs [128]))++(strOfNums (List.replicate (Int.tmod (Q0 ((119:Int) - (p0.fD.gb.size:Int))) 64).toNat (0:Int)))).size+(strOfNums [(Qm (Z4 .u64 (Z1 ((Z1 p0.fD.fU) * 8)) 56))]).size<=9223372036854775807)) (.tt (.gh 8 (.drop [38]) (.Qd 6008 (decide ((((p0.fD.gb++(bs [128]))++(strOfNums (List.replicate (Int.tmod (Q0 ((119:Int) - (p0.fD.gb.size:Int))) 64).toNat (0:Int))))++(strOfNums [(Qm (Z4 .u64 (Z1 ((Z1 p0.fD.fU) * 8)) 56))])).size+(strOfNums [(Qm (Z4 .u64 (Z1 ((Z1 p0.fD.fU) * 8)) 48))]).size<=9223372036854775807)) (.tt (.gh 8 (.drop [38]) (.Qd 6008 (decide (((((p0.fD.gb++(bs [128]))++(strOfNums (List.replicate (Int.tmod (Q0 ((119:Int) - (p0.fD.gb.size:Int))) 64).toNat (0:Int))))++(strOfNums [(Qm (Z4 .u64 (Z1 ((Z1 p0.fD.fU) * 8)) 56))]))++(strOfNums [(Qm (Z4 .u64 (Z1 ((Z1 p0.fD.fU) * 8)) 48))])).size+(strOfNums [(Qm (Z4 .u64 (Z1 ((Z1 p0.fD.fU) * 8)) 40))]).size<=9223372036854775807)) (.tt (.gh 8 (.drop [38]) (.Qd 6008 (decide ((((((p0.fD.gb++(bs [128]))++(strOfNums (List.replicate (Int.tmod (Q0 ((119:Int) - (p0.fD.gb.size:Int))) 64).toNat (0:Int))))++(strOfNums [(Qm (Z4 .u64 (Z1 ((Z1 p0.fD.fU) * 8)) 56))]))++(strOfNums [(Qm (Z4 .u64 (Z1 ((Z1 p0.fD.fU) * 8)) 48))]))++(strOfNums [(Qm (Z4 .u64 (Z1 ((Z1 p0.fD.fU) * 8)) 40))])).size+(strOfNums [(Qm (Z4 .u64 (Z1 ((Z1 p0.fD.fU) * 8)) 32))]).size<=9223372036854775807)) (.tt (.gh 8 (.drop [38]) (.Qd 6008 (decide (((((((p0.fD.gb++(bs [128]))++(strOfNums (List.replicate (Int.tmod (Q0 ((119:Int) - (p0.fD.gb.size:Int))) 64).toNat (0:Int))))++(strOfNums [(Qm (Z4 .u64 (Z1 ((Z1 p0.fD.fU) * 8)) 56))]))++(strOfNums [(Qm (Z4 .u64 (Z1 ((Z1 p0.fD.fU) * 8)) 48))]))++(strOfNums [(Qm (Z4 .u64 (Z1 ((Z1 p0.fD.fU) * 8)) 40))]))++(strOfNums [(Qm (Z4 .u64 (Z1 ((Z1 p0.fD.fU) * 8)) 32))])).size+(strOfNums [(Qm (Z4 .u64 (Z1 ((Z1 p0.fD.fU) * 8)) 24))]).size<=9223372036854775807)) (.tt (.gh 8 (.drop [38]) (.Qd 6008 (decide ((((((((p0.fD.gb++(bs [128]))++(strOfNums (List.replicate (Int.tmod (Q0 ((119:Int) - (p0.fD.gb.size:Int))) 64).toNat (0:Int))))++(strOfNums [(Qm (Z4 .u64 (Z1 ((Z1 p0.fD.fU) * 8)) 56))]))++(strOfNums [(Qm (Z4 .u64 (Z1 ((Z1 p0.fD.fU) * 8)) 48))]))++(strOfNums [(Qm (Z4 .u64 (Z1 ((Z1 p0.fD.fU) * 8)) 40))]))++(strOfNums [(Qm (Z4 .u64 (Z1 ((Z1 p0.fD.fU) * 8)) 32))]))++(strOfNums [(Qm (Z4 .u64 (Z1 ((Z1 p0.fD.fU) * 8)) 24))])).size+(strOfNums [(Qm (Z4 .u64 (Z1 ((Z1 p0.fD.fU) * 8)) 16))]).size<=9223372036854775807)) (.tt (.gh 8 (.drop [38]) (.Qd 6008 (decide (((((((((p0.fD.gb++(bs [128]))++(strOfNums (List.replicate (Int.tmod (Q0 ((119:Int) - (p0.fD.gb.size:Int))) 64).toNat (0:Int))))++(strOfNums [(Qm (Z4 .u64 (Z1 ((Z1 p0.fD.fU) * 8)) 56))]))++(strOfNums [(Qm (Z4 .u64 (Z1 ((Z1 p0.fD.fU) * 8)) 48))]))++(strOfNums [(Qm (Z4 .u64 (Z1 ((Z1 p0.fD.fU) * 8)) 40))]))++(strOfNums [(Qm (Z4 .u64 (Z1 ((Z1 p0.fD.fU) * 8)) 32))]))++(strOfNums [(Qm (Z4 .u64 (Z1 ((Z1 p0.fD.fU) * 8)) 24))]))++(strOfNums [(Qm (Z4 .u64 (Z1 ((Z1 p0.fD.fU) * 8)) 16))])).size+(strOfNums [(Qm (Z4 .u64 (Z1 ((Z1 p0.fD.fU) * 8)) 8))]).size<=9223372036854775807)) (.tt (.gh 8 (.drop [38]) (.Qd 6008 (decide ((((((((((p0.fD.gb++(bs [128]))++(strOfNums (List.replicate (Int.tmod (Q0 ((119:Int) - (p0.fD.gb.size:Int))) 64).toNat (0:Int))))++(strOfNums [(Qm (Z4 .u64 (Z1 ((Z1 p0.fD.fU) * 8)) 56))]))++(strOfNums [(Qm (Z4 .u64 (Z1 ((Z1 p0.fD.fU) * 8)) 48))]))++(strOfNums [(Qm (Z4 .u64 (Z1 ((Z1 p0.fD.fU) * 8)) 40))]))++(strOfNums [(Qm (Z4 .u64 (Z1 ((Z1 p0.fD.fU) * 8)) 32))]))++(strOfNums [(Qm (Z4 .u64 (Z1 ((Z1 p0.fD.fU) * 8)) 24))]))++(strOfNums [(Qm (Z4 .u64 (Z1 ((Z1 p0.fD.fU) * 8)) 16))]))++(strOfNums [(Qm (Z4 .u64 (Z1 ((Z1 p0.fD.fU) * 8)) 8))])).size+(strOfNums [(Qm (Z4 .u64 (Z1 ((Z1 p0.fD.fU) * 8)) 0))]).size<=9223372036854775807)) (.ff (.Qy 7002 (Qw.EB 213 (.tmp 3) 42 3 ⟨1,true,(List.map Y9.c J0)⟩ (.agg M2)) λ_=>.call 7003 (OT ((((((((((p0.fD.gb++(bs [128]))++(strOfNums (List.replicate (Int.tmod (Q0 ((119:Int) - (p0.fD.gb.size:Int))) 64).toNat (0:Int))))++(strOfNums [(Qm (Z4 .u64 (Z1 ((Z1 p0.fD.fU) * 8)) 56))]))++(strOfNums [(Qm (Z4 .u64 (Z1 ((Z1 p0.fD.fU) * 8)) 48))]))++(strOfNums [(Qm (Z4 .u64 (Z1 ((Z1 p0.fD.fU) * 8)) 40))]))++(strOfNums [(Qm (Z4 .u64 (Z1 ((Z1 p0.fD.fU) * 8)) 32))]))++(strOfNums [(Qm (Z4 .u64 (Z1 ((Z1 p0.fD.fU) * 8)) 24))]))++(strOfNums [(Qm (Z4 .u64 (Z1 ((Z1 p0.fD.fU) * 8)) 16))]))++(strOfNums [(Qm (Z4 .u64 (Z1 ((Z1 p0.fD.fU) * 8)) 8))]))++(strOfNums [(Qm (Z4 .u64 (Z1 ((Z1 p0.fD.fU) * 8)) 0))])) p0) [(zA,2)] [] λr72=>.gh 1 (.Xk zY 8 1) (.bind 0 (.lp (λ(l74:(List Int)×Int)=>Ext.of .normal [(4,.str zd),(8,Rf zY l74.1),(46,.agg (Ei r72)),(47,.i l74.2)] [] [Bt zY Z9 1 l74.1] (by rfl)) (λl74=>.br 0 (decide (l74.2 < 8)) (.Yi 11001 l74.2 [0,1,2,3,4,5,6,7] (λv=>bif v==0 then .app 12014 Z9 l74.1 [(Qm (Z4 .u32 r72.1 24)),(Qm (Z4 .u32 r72.1 16)),(Qm (Z4 .u32 r72.1 8)),(Qm r72.1)] 1 false (by intro h;cases h) (.gh 0 (.drop [zY]) (.gh 0 (.Qc 63 zY) (.done (.inl ((l74.1++[(Qm (Z4 .u32 r72.1 24)),(Qm (Z4 .u32 r72.1 16)),(Qm (Z4 .u32 r72.1 8)),(Qm r72.1)]),(Q0 (l74.2+1))))))) else bif v==1 then .app 12014 Z9 l74.1 [(Qm (Z4 .u32 r72.2.1 24)),(Qm (Z4 .u32 r72.2.1 16)),(Qm (Z4 .u32 r72.2.1 8)),(Qm r72.2.1)] 1 false (by intro h;cases h) (.gh 0 (.drop [zY]) (.gh 0 (.Qc 63 zY) (.done (.inl ((l74.1++[(Qm (Z4 .u32 r72.2.1 24)),(Qm (Z4 .u32 r72.2.1 16)),(Qm (Z4 .u32 r72.2.1 8)),(Qm r72.2.1)]),(Q0 (l74.2+1))))))) else bif v==2 then .app 12014 Z9 l74.1 [(Qm (Z4 .u32 r72.2.2.1 24)),(Qm (Z4 .u32 r72.2.2.1 16)),(Qm (Z4 .u32 r72.2.2.1 8)),(Qm r72.2.2.1)] 1 false (by intro h;cases h) (.gh 0 (.drop [zY]) (.gh 0 (.Qc 63 zY) (.done (.inl ((l74.1++[(Qm (Z4 .u32 r72.2.2.1 24)),(Qm (Z4 .u32 r72.2.2.1 16)),(Qm (Z4 .u32 r72.2.2.1 8)),(Qm r72.2.2.1)]),(Q0 (l74.2+1))))))) else bif v==3 then .app 12014 Z9 l74.1 [(Qm (Z4 .u32 r72.2.2.2.1 24)),(Qm (Z4 .u32 r72.2.2.2.1 16)),(Qm (Z4 .u32 r72.2.2.2.1 8)),(Qm r72.2.2.2.1)] 1 false (by intro h;cases h) (.gh 0 (.drop [zY]) (.gh 0 (.Qc 63 zY) (.done (.inl ((l74.1++[(Qm (Z4 .u32 r72.2.2.2.1 24)),(Qm (Z4 .u32 r72.2.2.2.1 16)),(Qm (Z4 .u32 r72.2.2.2.1 8)),(Qm r72.2.2.2.1)]),(Q0 (l74.2+1))))))) else bif v==4 then .app 12014 Z9 l74.1 [(Qm (Z4 .u32 r72.q.1 24)),(Qm (Z4 .u32 r72.q.1 16)),(Qm (Z4 .u32 r72.q.1 8)),(Qm r72.q.1)] 1 false (by intro h;cases h) (.gh 0 (.drop [zY]) (.gh 0 (.Qc 63 zY) (.done (.inl ((l74.1++[(Qm (Z4 .u32 r72.q.1 24)),(Qm (Z4 .u32 r72.q.1 16)),(Qm (Z4 .u32 r72.q.1 8)),(Qm r72.q.1)]),(Q0 (l74.2+1))))))) else bif v==5 then .app 12014 Z9 l74.1 [(Qm (Z4 .u32 r72.q.2.1 24)),(Qm (Z4 .u32 r72.q.2.1 16)),(Qm (Z4 .u32 r72.q.2.1 8)),(Qm r72.q.2.1)] 1 false (by intro h;cases h) (.gh 0 (.drop [zY]) (.gh 0 (.Qc 63 zY) (.done (.inl ((l74.1++[(Qm (Z4 .u32 r72.q.2.1 24)),(Qm (Z4 .u32 r72.q.2.1 16)),(Qm (Z4 .u32 r72.q.2.1 8)),(Qm r72.q.2.1)]),(Q0 (l74.2+1))))))) else bif v==6 then .app 12014 Z9 l74.1 [(Qm (Z4 .u32 r72.q.2.2.1 24)),(Qm (Z4 .u32 r72.q.2.2.1 16)),(Qm (Z4 .u32 r72.q.2.2.1 8)),(Qm r72.q.2.2.1)] 1 false (by intro h;cases h) (.gh 0 (.drop [zY]) (.gh 0 (.Qc 63 zY) (.done (.inl ((l74.1++[(Qm (Z4 .u32 r72.q.2.2.1 24)),(Qm (Z4 .u32 r72.q.2.2.1 16)),(Qm (Z4 .u32 r72.q.2.2.1 8)),(Qm r72.q.2.2.1)]),(Q0 (l74.2+1))))))) else bif v==7 then .app 12014 Z9 l74.1 [(Qm (Z4 .u32 r72.q.2.2.2 24)),(Qm (Z4 .u32 r72.q.2.2.2 16)),(Qm (Z4 .u32 r72.q.2.2.2 8)),(Qm r72.q.2.2.2)] 1 false (by intro h;cases h) (.gh 0 (.drop [zY]) (.gh 0 (.Qc 63 zY) (.done (.inl ((l74.1++[(Qm (Z4 .u32 r72.q.2.2.2 24)),(Qm (Z4 .u32 r72.q.2.2.2 16)),(Qm (Z4 .u32 r72.q.2.2.2 8)),(Qm r72.q.2.2.2)]),(Q0 (l74.2+1))))))) else .fail)) (.done (.inr l74.1))) ([],0)) (λ(e75:(List Int))=>Ext.of (.exit 2) [(4,.str zd),(8,Rf zY e75)] [] [Bt zY Z9 1 e75] (by rfl)) (λe75=>.Qy 14002 (Qw.Zi (ty:=Z9) (s:=57) (t:=9) (e:=5) (.tmp 65) 66 zY e75 e75.length (hn:=(by simp))) λ_=>.done (strOfNums e75)))))))))))))))))))))))))))))
def rQ(p0:Jn):Sp (za):=oF [0,1,2,3,4,5,6,7,8,10,30,46,47,48] Tryz.func210 [.agg [.int .u32 p0.fD.fY.a0,.int .u32 p0.fD.fY.a1,.int .u32 p0.fD.fY.a2,.int .u32 p0.fD.fY.a3,.int .u32 p0.fD.fY.a4,.int .u32 p0.fD.fY.a5,.int .u32 p0.fD.fY.a6,.int .u32 p0.fD.fY.a7,.str p0.fD.gb,.i p0.fD.fU],.agg M2] (Qj5 p0) (λr=>.str r)
def Qu0(p0 p1 p2 p3 p4 p5 p6 p7:Int)(p8:List za):TT (za):=.bind 1 (.lp (λ(l66:Int×Int×Int×Int×Int×Int×Int×Int×za×Int×Int)=>Ext.l .normal [(2,.ptr 2 0 0),(4,.str zd),(5,.ptr 5 0 0),(12,Sl 1 Z2 p8),(13,.i (M9 Z2 p8)),(14,.i l66.q.q.2.2)] [(2,⟨72,true,[([.int .u32 p0,.int .u32 p1,.int .u32 p2,.int .u32 p3,.int .u32 p4,.int .u32 p5,.int .u32 p6,.int .u32 p7]++M2)]⟩),(5,⟨10,true,[(H0 (GF l66) [.str l66.q.q.1,.i l66.q.q.2.1])]⟩)]) (λl66=>.br 0 (decide (l66.q.q.2.2 < (M9 Z2 p8))) (.row 4001 Z2 p8 l66.q.q.2.2.toNat (decide (0<=l66.q.q.2.2)) λx67=>.call 5004 (rZ x67 (Jn.mk (BU.mk (MN.mk l66.1 l66.2.1 l66.2.2.1 l66.2.2.2.1 l66.q.1 l66.q.2.1 l66.q.2.2.1 l66.q.2.2.2.1) l66.q.q.1 l66.q.q.2.1))) [(zA,5)] [] λr69=>.done (.inl (r69.1,r69.2.1,r69.2.2.1,r69.2.2.2.1,r69.q.1,r69.q.2.1,r69.q.2.2.1,r69.q.2.2.2.1,r69.q.q.1,r69.q.q.2,(Q0 (l66.q.q.2.2+1))))) (.done (.inr (l66.1,l66.2.1,l66.2.2.1,l66.2.2.2.1,l66.q.1,l66.q.2.1,l66.q.2.2.1,l66.q.2.2.2.1,l66.q.q.1,l66.q.q.2.1)))) (p0,p1,p2,p3,p4,p5,p6,p7,zd,0,0)) (λ(e70:Int×Int×Int×Int×Int×Int×Int×Int×za×Int)=>Ext.l (.exit 0) [(2,.ptr 2 0 0),(4,.str zd),(5,.ptr 5 0 0)] [(2,⟨72,true,[([.int .u32 p0,.int .u32 p1,.int .u32 p2,.int .u32 p3,.int .u32 p4,.int .u32 p5,.int .u32 p6,.int .u32 p7]++M2)]⟩),(5,⟨10,true,[(H0 (GF e70) [.str e70.q.q.1,.i e70.q.q.2])]⟩)]) (λe70=>.cl 7004 (rQ (Jn.mk (BU.mk (MN.mk e70.1 e70.2.1 e70.2.2.1 e70.2.2.2.1 e70.q.1 e70.q.2.1 e70.q.2.2.1 e70.q.2.2.2.1) e70.q.q.1 e70.q.q.2))) λr76=>.done r76)
def Cw(p0 p1 p2 p3 p4 p5 p6 p7:Int)(p8:List za):Sp (za):=oF [0,1,2,4,5,7,12,13,14,15] Tryz.func156 [.agg ([.int .u32 p0,.int .u32 p1,.int .u32 p2,.int .u32 p3,.int .u32 p4,.int .u32 p5,.int .u32 p6,.int .u32 p7]++M2),Sl 1 Z2 p8] (Qu0 p0 p1 p2 p3 p4 p5 p6 p7 p8) (λr=>.str r)
def Qj6(p0:Int)(p1:za):TT (za):=.Qy 1001 (Qw.ZW (ty:=Z9) (t:=57) (e:=5) (k:=.u8) (.const (.int .i64 64)) (.const (.int .i64 64)) 6 64 1) λ_=>.Qy 2003 (Qw.Nl (ty:=Z9) (dT:=57) (sT:=9) (elem:=5) (.tmp 7) (.tmp 8) 9 6 64 (List.replicate 64 (0:Int)) p1) λ_=>.bind 1 (.lp (λ(l82:(List Int)×Int)=>Ext.of .normal [(0,.int .u8 p0),(3,.str zd),(4,.ref 6 0 64),(11,.i 64),(12,.i l82.2)] [] [Bt 6 Z9 1 l82.1] (by rfl)) (λl82=>.br 0 (decide (l82.2 < 64)) (.Qd 6003 (bD l82.2 64) (.row 6004 Z9 l82.1 (0+l82.2.toNat) true λx83=>.Qd 6007 (bD l82.2 64) (.row 6008 Z9 l82.1 (0+l82.2.toNat) true λx84=>.re 6008 (Yo.put 6 1 Z9 l82.1 (0+l82.2.toNat) (O2 .u8 x83 p0)) (.done (.inl ((l82.1.set (0+l82.2.toNat) (O2 .u8 x83 p0)),(Q0 (l82.2+1)))))))) (.done (.inr l82.1))) ((G2 (List.replicate 64 (0:Int)) 0 (Q3 p1)),0)) (λ(e85:(List Int))=>Ext.of (.exit 0) [(3,.str zd),(4,.ref 6 0 64)] [] [Bt 6 Z9 1 e85] (by rfl)) (λe85=>.fact (e85.length=64) inferInstance λh86=>.Qy 8002 (Qw.Zi (ty:=Z9) (s:=57) (t:=9) (e:=5) (.tmp 23) 24 6 e85 64 (hn:=h86)) λ_=>.done (strOfNums e85))
def dJ(p0:Int)(p1:za):Sp (za):=oF [0,1,3,4,5,11,12,13] Tryz.func208 [.int .u8 p0,.snap [.str p1]] (Qj6 p0 p1) (λr=>.str r)
def Qu1(p0 p1 p2 p3 p4 p5 p6 p7:Int)(p8:za)(p9:List za):TT (za):=.bind 0 (.br 0 (decide ((64:Int) < (p8.size:Int))) (.view 2004 (Cw p0 p1 p2 p3 p4 p5 p6 p7 [p8]) [] λr77=>.done r77) (.done p8)) (λ(e78:za)=>Ext.l .normal [(2,Sl 1 Z2 p9),(3,.ptr 3 0 0),(4,.ptr 4 0 0),(6,.str zd)] [(3,⟨72,true,[([.int .u32 p0,.int .u32 p1,.int .u32 p2,.int .u32 p3,.int .u32 p4,.int .u32 p5,.int .u32 p6,.int .u32 p7]++M2)]⟩),(4,⟨1,true,[[.str e78]]⟩)]) (λe78=>.view 4003 (dJ 92 e78) [] λr87=>.view 4006 (dJ 54 e78) [] λr88=>.app 4009 Z2 [r88] p9 16 true (by intros;rfl) (.view 4010 (Cw p0 p1 p2 p3 p4 p5 p6 p7 ([r88]++p9)) [(QE.o 24 Z2 ([r88]++p9))] λr89=>.view 4012 (Cw p0 p1 p2 p3 p4 p5 p6 p7 [r87,r89]) [] λr90=>.done r90))
def RX(p0 p1 p2 p3 p4 p5 p6 p7:Int)(p8:za)(p9:List za):Sp (za):=oF [0,1,2,3,4,6,7,10] Tryz.func155 [.agg ([.int .u32 p0,.int .u32 p1,.int .u32 p2,.int .u32 p3,.int .u32 p4,.int .u32 p5,.int .u32 p6,.int .u32 p7]++M2),.str p8,Sl 1 Z2 p9] (Qu1 p0 p1 p2 p3 p4 p5 p6 p7 p8 p9) (λr=>.str r)
def g94(p0 p1 p2:za)(p3:Int):TT (za×Int):=.view 1005 (Ck [p0,p1,p2]) [] λr59=>.br 0 r59 (.done (zd,3)) (.QD 3 [21] (.oR 3004 (decide (p3 < 0)) (.done (decide ((255:Int) < p3)))) zi λc60=>.br 0 c60 (.done (zd,2)) (.cl 5001 dE λr61=>.view 6005 (RX r61.1 r61.2.1 r61.2.2.1 r61.2.2.2.1 r61.q.1 r61.q.2.1 r61.q.2.2.1 r61.q.2.2.2 p1 [p0]) [] λr91=>.bind 1 (.lp (λ(l94:za×za×Int)=>Ext.l .normal [(2,.str p2),(3,.i p3),(8,.str zd),(9,.i 0),(10,.ptr 10 0 0),(11,.str r91),(12,.str l94.1),(13,.str l94.2.1),(14,.i l94.2.2)] [(10,⟨72,true,[((Ei r61)++M2)]⟩)]) (λl94=>.br 0 (decide ((l94.2.1.size:Int) < p3)) (.view 10010 (RX r61.1 r61.2.1 r61.2.2.1 r61.2.2.2.1 r61.q.1 r61.q.2.1 r61.q.2.2.1 r61.q.2.2.2 r91 [l94.1,p2,(strOfNums [(Qm l94.2.2)])]) [] λr95=>.Qd 11003 (decide (l94.2.1.size+r95.size<=9223372036854775807)) (.done (.inl (r95,(l94.2.1++r95),(Q0 (l94.2.2+1)))))) (.done (.inr l94.2.1))) (zd,zd,1)) (λ(e96:za)=>Ext.l (.exit 1) [(3,.i p3),(8,.str zd),(9,.i 0),(13,.str e96)] []) (λe96=>.Qd 12003 (decide (0<=p3)&&decide (p3<=(e96.size:Int))) (.done ((e96.extract 0 p3.toNat),0)))))
def s94(p0 p1 p2:za)(p3:Int):Sp (za×Int):=oF [0,1,2,3,8,9,10,11,12,13,14,15,21,37] Tryz.func94 [.str p0,.str p1,.str p2,.i p3] (g94 p0 p1 p2 p3) (λr=>.Qt [.str r.1,.i r.2])
def g95(p0:za):TT (za×Int):=.view 1003 (Ck [p0]) [] λr97=>.br 0 r97 (.done (zd,3)) (.cl 3001 dE λr98=>.view 3004 (Cw r98.1 r98.2.1 r98.2.2.1 r98.2.2.2.1 r98.q.1 r98.q.2.1 r98.q.2.2.1 r98.q.2.2.2 [p0]) [] λr99=>.done (r99,0))
def s95(p0:za):Sp (za×Int):=oF [0,2,3,6] Tryz.func95 [.str p0] (g95 p0) (λr=>.Qt [.str r.1,.i r.2])
def g96(p0 p1:za):TT (za×Int):=.view 1004 (Ck [p0,p1]) [] λr100=>.br 0 r100 (.done (zd,3)) (.cl 3001 dE λr101=>.view 3005 (RX r101.1 r101.2.1 r101.2.2.1 r101.2.2.2.1 r101.q.1 r101.q.2.1 r101.q.2.2.1 r101.q.2.2.2 p0 [p1]) [] λr102=>.done (r102,0))
def s96(p0 p1:za):Sp (za×Int):=oF [0,1,4,5,9] Tryz.func96 [.str p0,.str p1] (g96 p0 p1) (λr=>.Qt [.str r.1,.i r.2])
def tQ(p0 p1:Int):TT (za×Int):=.QD 1 [8] (.oR 1004 (decide (p0 < 1)) (.oR 1008 (decide ((7:Int) < p0)) (.done (decide (p1 < 0))))) zi λc103=>.br 0 c103 (.done (zd,2)) (.Qd 3004 (decide ((0:Int)<=(Q0 ((8:Int) * p0)))) (.br 0 ((Z4 .i64 p1 (Q0 ((8:Int) * p0))) != 0) (.done (zd,6)) (.Qy 5002 (Qw.Bk (ty:=Z9) (t:=57) (e:=5) (zv:=.int .u8 0) (zc:=.int .u8 0) (0:Int) (.tmp 25) (.tmp 25) 26 p0 p0 1 (by kernel_rfl) (by kernel_rfl) (by kernel_rfl) rfl ⟨rfl,rfl,rfl⟩ (λ_ _=>by constructor)) λ_=>.gh 8 (.len 26 ((List.replicate p0.toNat (0:Int)).length) [p0.toNat] (by simp)) (.bind 1 (.lp (λ(l106:(List Int)×Int)=>Ext.of .normal [(0,.i p0),(1,.i p1),(4,.str zd),(5,.i 0),(6,Rf 26 l106.1),(28,.i ((List.replicate p0.toNat (0:Int)).length:Int)),(29,.i l106.2)] [] [Bt 26 Z9 1 l106.1] (by rfl)) (λl106=>.br 0 (decide (l106.2 < ((List.replicate p0.toNat (0:Int)).length:Int))) (.Qd 9009 (decide ((0:Int)<=(Q0 ((8:Int) * (Q0 ((Q0 (p0 - 1)) - l106.2)))))) (.Qd 9011 (bD l106.2 l106.1.length) (.row 9012 Z9 l106.1 (0+l106.2.toNat) true λx107=>.re 9012 (Yo.put 26 1 Z9 l106.1 (0+l106.2.toNat) (Qm (Z4 .i64 p1 (Q0 ((8:Int) * (Q0 ((Q0 (p0 - 1)) - l106.2))))))) (.gh 12 (.len 26 ((l106.1.set (0+l106.2.toNat) (Qm (Z4 .i64 p1 (Q0 ((8:Int) * (Q0 ((Q0 (p0 - 1)) - l106.2))))))).length) [l106.1.length] (by simp)) (.done (.inl ((l106.1.set (0+l106.2.toNat) (Qm (Z4 .i64 p1 (Q0 ((8:Int) * (Q0 ((Q0 (p0 - 1)) - l106.2))))))),(Q0 (l106.2+1))))))))) (.done (.inr l106.1))) ((List.replicate p0.toNat (0:Int)),0)) (λ(e108:(List Int))=>Ext.of (.exit 1) [(4,.str zd),(5,.i 0),(6,Rf 26 e108)] [] [Bt 26 Z9 1 e108] (by rfl)) (λe108=>.Qy 11002 (Qw.Zi (ty:=Z9) (s:=57) (t:=9) (e:=5) (.tmp 44) 45 26 e108 e108.length (hn:=(by simp))) λ_=>.done ((strOfNums e108),0))))))
def nN(p0 p1:Int):Sp (za×Int):=oF [0,1,4,5,6,7,8,19,28,29,30] Tryz.func229 [.i p0,.i p1] (tQ p0 p1) (λr=>.Qt [.str r.1,.i r.2])
def Qyu(p0:J9):TT (MG×Int):=.QD 1 [14] (.oR 1005 (decide (p0.fq < 0)) (.done (decide ((p0.fS.size:Int) < p0.fq)))) zi λc109=>.br 0 c109 (.done ((MG.mk (J9.mk zd 0)),2)) (.done ((MG.mk p0),0))
def eR(p0:J9):Sp (MG×Int):=oF [0,1,2,3,14] Tryz.func256 [.agg [.str p0.fS,.i p0.fq]] (Qyu p0) (λr=>.Qt [.agg [.str r.1.gj.fS,.i r.1.gj.fq],.i r.2])
def Qqv(p0:za):Sp (za):=oF [0,2] Tryz.func240 [.str p0] (.done p0:TT (za)) (λr=>.str r)
def cV(p0:J9)(p1 p2 p3:Int):TT (za×J9×Int):=.cl 1002 (eR p0) λr110=>.br 0 (r110.2 != 0) (.done (zd,(J9.mk zd 0),r110.2)) (.QD 4 [25] (.oR 4005 (decide (p1 < p2)) (.done (decide (p3 < p1)))) zi λc111=>.br 0 c111 (.done (zd,(J9.mk zd 0),2)) (.br 0 (decide ((Q0 ((r110.1.gj.fS.size:Int) - r110.1.gj.fq)) < p1)) (.done (zd,(J9.mk zd 0),7)) (.Qd 8013 ((decide (0<=(Q0 (r110.1.gj.fq+p1)))&&decide ((Q0 (r110.1.gj.fq+p1))<=(r110.1.gj.fS.size:Int)))&&(decide (0<=r110.1.gj.fq)&&decide (r110.1.gj.fq<=((Q0 (r110.1.gj.fq+p1)).toNat:Int)))) (.cl 8014 (Qqv (r110.1.gj.fS.extract r110.1.gj.fq.toNat ((Q0 (r110.1.gj.fq+p1)).toNat))) λr112=>.done (r112,(J9.mk r110.1.gj.fS (Q0 (r110.1.gj.fq+p1))),0)))))
def nG(p0:J9)(p1 p2 p3:Int):Sp (za×J9×Int):=oF [0,1,2,3,4,5,10,11,12,13,19,25,36] Tryz.func239 [.agg [.str p0.fS,.i p0.fq],.i p1,.i p2,.i p3,.fn 240 [] []] (cV p0 p1 p2 p3) (λr=>.Qt [.str r.1,.agg [.str r.2.1.fS,.i r.2.1.fq],.i r.2.2])
def tE(p0:J9)(p1:Int):TT (za×J9×Int):=.cl 1005 (nG p0 p1 0 (if (0:Int) > p1 then (0:Int) else p1)) λr113=>.done (r113.1,r113.2.1,r113.2.2)
def VU(p0:J9)(p1:Int):Sp (za×J9×Int):=oF [0,1,2,4,5,6] Tryz.func196 [.agg [.str p0.fS,.i p0.fq],.i p1] (tE p0 p1) (λr=>.Qt [.str r.1,.agg [.str r.2.1.fS,.i r.2.1.fq],.i r.2.2])
def Qyx(p0:za):TT (Int):=.Qy 2002 (Qw.octets (ty:=Z9) (s:=9) (t:=57) (e:=5) (.tmp 6) 7 p0) λ_=>.bind 1 (.lp (λ(l118:Int×Int)=>Ext.of .normal [(2,.i 0),(3,.i l118.1),(7,.ref 7 0 ((Q3 p0).length)),(8,.i ((Q3 p0).length:Int)),(9,.i l118.2)] [] [BT.of 7 Z9 1 (Q3 p0) true] (by rfl)) (λl118=>.br 0 (decide (l118.2 < ((Q3 p0).length:Int))) (.Qd 4001 (decide (0<=l118.2)&&decide (l118.2 < ((Q3 p0).length:Int))) (.row 4002 Z9 (Q3 p0) (0+l118.2.toNat) true λx119=>.done (.inl ((Zn .i64 (M3 .i64 l118.1 8) (Q0 x119)),(Q0 (l118.2+1)))))) (.done (.inr l118.1))) (0,0)) (λ(e120:Int)=>Ext.l (.exit 0) [(2,.i 0),(3,.i e120)] []) (λe120=>.done e120)
def eV(p0:za):Sp (Int):=oF [0,2,3,5,7,8,9,10] Tryz.func242 [.str p0] (Qyx p0) (λr=>.int .i64 r)
def cT(p0:J9)(p1 p2 p3:Int):TT (Int×J9×Int):=.cl 1002 (eR p0) λr114=>.br 0 (r114.2 != 0) (.done (0,(J9.mk zd 0),r114.2)) (.QD 4 [25] (.oR 4005 (decide (p1 < p2)) (.done (decide (p3 < p1)))) zi λc115=>.br 0 c115 (.done (0,(J9.mk zd 0),2)) (.br 0 (decide ((Q0 ((r114.1.gj.fS.size:Int) - r114.1.gj.fq)) < p1)) (.done (0,(J9.mk zd 0),7)) (.Qd 8013 ((decide (0<=(Q0 (r114.1.gj.fq+p1)))&&decide ((Q0 (r114.1.gj.fq+p1))<=(r114.1.gj.fS.size:Int)))&&(decide (0<=r114.1.gj.fq)&&decide (r114.1.gj.fq<=((Q0 (r114.1.gj.fq+p1)).toNat:Int)))) (.cl 8014 (eV (r114.1.gj.fS.extract r114.1.gj.fq.toNat ((Q0 (r114.1.gj.fq+p1)).toNat))) λr121=>.done (r121,(J9.mk r114.1.gj.fS (Q0 (r114.1.gj.fq+p1))),0)))))
def nL(p0:J9)(p1 p2 p3:Int):Sp (Int×J9×Int):=oF [0,1,2,3,4,5,10,11,12,13,19,25,36] Tryz.func241 [.agg [.str p0.fS,.i p0.fq],.i p1,.i p2,.i p3,.fn 242 [] []] (cT p0 p1 p2 p3) (λr=>.Qt [.i r.1,.agg [.str r.2.1.fS,.i r.2.1.fq],.i r.2.2])
def Qjq(p0:J9)(p1:Int):TT (Int×J9×Int):=.cl 1003 (nL p0 p1 1 7) λr122=>.done (r122.1,r122.2.1,r122.2.2)
def VJ(p0:J9)(p1:Int):Sp (Int×J9×Int):=oF [0,1,2,4,5,6] Tryz.func198 [.agg [.str p0.fS,.i p0.fq],.i p1] (Qjq p0 p1) (λr=>.Qt [.i r.1,.agg [.str r.2.1.fS,.i r.2.1.fq],.i r.2.2])
structure Q6 where
 a0:Int
 a1:Int
 a2:Int
 a3:Int
 a4:Int
def I9(x:Q6):List V:=[.int .u64 x.a0,.int .u64 x.a1,.int .u64 x.a2,.int .u64 x.a3,.int .u64 x.a4]
structure Kj where
 ZC:Q6
 Qv:Q6
structure Y6 where
 fT:Kj
 Qr:Kj
 fu:Q6
def aB(x:Y6):List V:=[.int .u64 x.fT.ZC.a0,.int .u64 x.fT.ZC.a1,.int .u64 x.fT.ZC.a2,.int .u64 x.fT.ZC.a3,.int .u64 x.fT.ZC.a4,.int .u64 x.fT.Qv.a0,.int .u64 x.fT.Qv.a1,.int .u64 x.fT.Qv.a2,.int .u64 x.fT.Qv.a3,.int .u64 x.fT.Qv.a4,.int .u64 x.Qr.ZC.a0,.int .u64 x.Qr.ZC.a1,.int .u64 x.Qr.ZC.a2,.int .u64 x.Qr.ZC.a3,.int .u64 x.Qr.ZC.a4,.int .u64 x.Qr.Qv.a0,.int .u64 x.Qr.Qv.a1,.int .u64 x.Qr.Qv.a2,.int .u64 x.Qr.Qv.a3,.int .u64 x.Qr.Qv.a4,.int .u64 x.fu.a0,.int .u64 x.fu.a1,.int .u64 x.fu.a2,.int .u64 x.fu.a3,.int .u64 x.fu.a4]
def Qyc(p0:Q6):TT (Q6):=.tt (.tt (.tt (.tt (.tt (.ff (.done (Q6.mk (Z1 ((U0 .u64 (Z1 (p0.a0+0)) 2251799813685247)+(Z1 ((19:Int) * (Z4 .u64 (Z1 (p0.a4+(Z4 .u64 (Z1 (p0.a3+(Z4 .u64 (Z1 (p0.a2+(Z4 .u64 (Z1 (p0.a1+(Z4 .u64 (Z1 (p0.a0+0)) 51))) 51))) 51))) 51))) 51))))) (U0 .u64 (Z1 (p0.a1+(Z4 .u64 (Z1 (p0.a0+0)) 51))) 2251799813685247) (U0 .u64 (Z1 (p0.a2+(Z4 .u64 (Z1 (p0.a1+(Z4 .u64 (Z1 (p0.a0+0)) 51))) 51))) 2251799813685247) (U0 .u64 (Z1 (p0.a3+(Z4 .u64 (Z1 (p0.a2+(Z4 .u64 (Z1 (p0.a1+(Z4 .u64 (Z1 (p0.a0+0)) 51))) 51))) 51))) 2251799813685247) (U0 .u64 (Z1 (p0.a4+(Z4 .u64 (Z1 (p0.a3+(Z4 .u64 (Z1 (p0.a2+(Z4 .u64 (Z1 (p0.a1+(Z4 .u64 (Z1 (p0.a0+0)) 51))) 51))) 51))) 51))) 2251799813685247))))))))
def OV(p0:Q6):Sp (Q6):=oF [0,1,2,3,4,5,6] Tryz.func224 [.agg (I9 p0)] (Qyc p0) (λr=>.agg (I9 r))
def Qyv(p0 p1:Q6):TT (Q6):=.tt (.tt (.tt (.tt (.tt (.ff (.cl 6002 (OV (Q6.mk (Z1 (p0.a0+p1.a0)) (Z1 (p0.a1+p1.a1)) (Z1 (p0.a2+p1.a2)) (Z1 (p0.a3+p1.a3)) (Z1 (p0.a4+p1.a4)))) λr123=>.done r123))))))
def Cj(p0 p1:Q6):Sp (Q6):=oF [0,1,2,3,4,5,6,7] Tryz.func222 [.agg (I9 p0),.agg (I9 p1)] (Qyv p0 p1) (λr=>.agg (I9 r))
def Qyt(p0 p1:Q6):TT (Q6):=.tt (.tt (.tt (.tt (.tt (.ff (.cl 7002 (OV (Q6.mk (Z1 ((Z1 (p0.a0+(Z1 ((9007199254740988:Int) - p1.a0)))) - 72)) (Z1 (p0.a1+(Z1 ((9007199254740988:Int) - p1.a1)))) (Z1 (p0.a2+(Z1 ((9007199254740988:Int) - p1.a2)))) (Z1 (p0.a3+(Z1 ((9007199254740988:Int) - p1.a3)))) (Z1 (p0.a4+(Z1 ((9007199254740988:Int) - p1.a4)))))) λr124=>.done r124))))))
def Cy(p0 p1:Q6):Sp (Q6):=oF [0,1,2,3,4,5,6,7] Tryz.func223 [.agg (I9 p0),.agg (I9 p1)] (Qyt p0 p1) (λr=>.agg (I9 r))
def Qja(p0 p1:Q6):TT (Q6):=.tt (.tt (.ff (.cl 11003 (Hf p0.a0 p1.a0) λr125=>.Qy 13006 (adc (.tmp 50) (.tmp 51) (.const (.int .u64 0)) 52 0 r125.2 0) λr126=>.Qy 14007 (adc (.tmp 60) (.tmp 61) (.tmp 62) 63 0 r125.1 r126.2) λr127=>.tt (.ff (.cl 11003 (Hf p0.a0 p1.a1) λr128=>.Qy 13006 (adc (.tmp 50) (.tmp 51) (.const (.int .u64 0)) 52 0 r128.2 0) λr129=>.Qy 14007 (adc (.tmp 60) (.tmp 61) (.tmp 62) 63 0 r128.1 r129.2) λr130=>.tt (.ff (.cl 11003 (Hf p0.a0 p1.a2) λr131=>.Qy 13006 (adc (.tmp 50) (.tmp 51) (.const (.int .u64 0)) 52 0 r131.2 0) λr132=>.Qy 14007 (adc (.tmp 60) (.tmp 61) (.tmp 62) 63 0 r131.1 r132.2) λr133=>.tt (.ff (.cl 11003 (Hf p0.a0 p1.a3) λr134=>.Qy 13006 (adc (.tmp 50) (.tmp 51) (.const (.int .u64 0)) 52 0 r134.2 0) λr135=>.Qy 14007 (adc (.tmp 60) (.tmp 61) (.tmp 62) 63 0 r134.1 r135.2) λr136=>.tt (.ff (.cl 11003 (Hf p0.a0 p1.a4) λr137=>.Qy 13006 (adc (.tmp 50) (.tmp 51) (.const (.int .u64 0)) 52 0 r137.2 0) λr138=>.Qy 14007 (adc (.tmp 60) (.tmp 61) (.tmp 62) 63 0 r137.1 r138.2) λr139=>.ff (.tt (.tt (.ff (.cl 11003 (Hf p0.a1 p1.a0) λr140=>.Qy 13006 (adc (.tmp 50) (.tmp 51) (.const (.int .u64 0)) 52 r129.1 r140.2 0) λr141=>.Qy 14007 (adc (.tmp 60) (.tmp 61) (.tmp 62) 63 r130.1 r140.1 r141.2) λr142=>.tt (.ff (.cl 11003 (Hf p0.a1 p1.a1) λr143=>.Qy 13006 (adc (.tmp 50) (.tmp 51) (.const (.int .u64 0)) 52 r132.1 r143.2 0) λr144=>.Qy 14007 (adc (.tmp 60) (.tmp 61) (.tmp 62) 63 r133.1 r143.1 r144.2) λr145=>.tt (.ff (.cl 11003 (Hf p0.a1 p1.a2) λr146=>.Qy 13006 (adc (.tmp 50) (.tmp 51) (.const (.int .u64 0)) 52 r135.1 r146.2 0) λr147=>.Qy 14007 (adc (.tmp 60) (.tmp 61) (.tmp 62) 63 r136.1 r146.1 r147.2) λr148=>.tt (.ff (.cl 11003 (Hf p0.a1 p1.a3) λr149=>.Qy 13006 (adc (.tmp 50) (.tmp 51) (.const (.int .u64 0)) 52 r138.1 r149.2 0) λr150=>.Qy 14007 (adc (.tmp 60) (.tmp 61) (.tmp 62) 63 r139.1 r149.1 r150.2) λr151=>.tt (.tt (.cl 11003 (Hf p0.a1 (Z1 ((19:Int) * p1.a4))) λr152=>.Qy 13006 (adc (.tmp 50) (.tmp 51) (.const (.int .u64 0)) 52 r126.1 r152.2 0) λr153=>.Qy 14007 (adc (.tmp 60) (.tmp 61) (.tmp 62) 63 r127.1 r152.1 r153.2) λr154=>.ff (.tt (.tt (.ff (.cl 11003 (Hf p0.a2 p1.a0) λr155=>.Qy 13006 (adc (.tmp 50) (.tmp 51) (.const (.int .u64 0)) 52 r144.1 r155.2 0) λr156=>.Qy 14007 (adc (.tmp 60) (.tmp 61) (.tmp 62) 63 r145.1 r155.1 r156.2) λr157=>.tt (.ff (.cl 11003 (Hf p0.a2 p1.a1) λr158=>.Qy 13006 (adc (.tmp 50) (.tmp 51) (.const (.int .u64 0)) 52 r147.1 r158.2 0) λr159=>.Qy 14007 (adc (.tmp 60) (.tmp 61) (.tmp 62) 63 r148.1 r158.1 r159.2) λr160=>.tt (.ff (.cl 11003 (Hf p0.a2 p1.a2) λr161=>.Qy 13006 (adc (.tmp 50) (.tmp 51) (.const (.int .u64 0)) 52 r150.1 r161.2 0) λr162=>.Qy 14007 (adc (.tmp 60) (.tmp 61) (.tmp 62) 63 r151.1 r161.1 r162.2) λr163=>.tt (.tt (.cl 11003 (Hf p0.a2 (Z1 ((19:Int) * p1.a3))) λr164=>.Qy 13006 (adc (.tmp 50) (.tmp 51) (.const (.int .u64 0)) 52 r153.1 r164.2 0) λr165=>.Qy 14007 (adc (.tmp 60) (.tmp 61) (.tmp 62) 63 r154.1 r164.1 r165.2) λr166=>.tt (.tt (.cl 11003 (Hf p0.a2 (Z1 ((19:Int) * p1.a4))) λr167=>.Qy 13006 (adc (.tmp 50) (.tmp 51) (.const (.int .u64 0)) 52 r141.1 r167.2 0) λr168=>.Qy 14007 (adc (.tmp 60) (.tmp 61) (.tmp 62) 63 r142.1 r167.1 r168.2) λr169=>.ff (.tt (.tt (.ff (.cl 11003 (Hf p0.a3 p1.a0) λr170=>.Qy 13006 (adc (.tmp 50) (.tmp 51) (.const (.int .u64 0)) 52 r159.1 r170.2 0) λr171=>.Qy 14007 (adc (.tmp 60) (.tmp 61) (.tmp 62) 63 r160.1 r170.1 r171.2) λr172=>.tt (.ff (.cl 11003 (Hf p0.a3 p1.a1) λr173=>.Qy 13006 (adc (.tmp 50) (.tmp 51) (.const (.int .u64 0)) 52 r162.1 r173.2 0) λr174=>.Qy 14007 (adc (.tmp 60) (.tmp 61) (.tmp 62) 63 r163.1 r173.1 r174.2) λr175=>.tt (.tt (.cl 11003 (Hf p0.a3 (Z1 ((19:Int) * p1.a2))) λr176=>.Qy 13006 (adc (.tmp 50) (.tmp 51) (.const (.int .u64 0)) 52 r165.1 r176.2 0) λr177=>.Qy 14007 (adc (.tmp 60) (.tmp 61) (.tmp 62) 63 r166.1 r176.1 r177.2) λr178=>.tt (.tt (.cl 11003 (Hf p0.a3 (Z1 ((19:Int) * p1.a3))) λr179=>.Qy 13006 (adc (.tmp 50) (.tmp 51) (.const (.int .u64 0)) 52 r168.1 r179.2 0) λr180=>.Qy 14007 (adc (.tmp 60) (.tmp 61) (.tmp 62) 63 r169.1 r179.1 r180.2) λr181=>.tt (.tt (.cl 11003 (Hf p0.a3 (Z1 ((19:Int) * p1.a4))) λr182=>.Qy 13006 (adc (.tmp 50) (.tmp 51) (.const (.int .u64 0)) 52 r156.1 r182.2 0) λr183=>.Qy 14007 (adc (.tmp 60) (.tmp 61) (.tmp 62) 63 r157.1 r182.1 r183.2) λr184=>.ff (.tt (.tt (.ff (.cl 11003 (Hf p0.a4 p1.a0) λr185=>.Qy 13006 (adc (.tmp 50) (.tmp 51) (.const (.int .u64 0)) 52 r174.1 r185.2 0) λr186=>.Qy 14007 (adc (.tmp 60) (.tmp 61) (.tmp 62) 63 r175.1 r185.1 r186.2) λr187=>.tt (.tt (.cl 11003 (Hf p0.a4 (Z1 ((19:Int) * p1.a1))) λr188=>.Qy 13006 (adc (.tmp 50) (.tmp 51) (.const (.int .u64 0)) 52 r177.1 r188.2 0) λr189=>.Qy 14007 (adc (.tmp 60) (.tmp 61) (.tmp 62) 63 r178.1 r188.1 r189.2) λr190=>.tt (.tt (.cl 11003 (Hf p0.a4 (Z1 ((19:Int) * p1.a2))) λr191=>.Qy 13006 (adc (.tmp 50) (.tmp 51) (.const (.int .u64 0)) 52 r180.1 r191.2 0) λr192=>.Qy 14007 (adc (.tmp 60) (.tmp 61) (.tmp 62) 63 r181.1 r191.1 r192.2) λr193=>.tt (.tt (.cl 11003 (Hf p0.a4 (Z1 ((19:Int) * p1.a3))) λr194=>.Qy 13006 (adc (.tmp 50) (.tmp 51) (.const (.int .u64 0)) 52 r183.1 r194.2 0) λr195=>.Qy 14007 (adc (.tmp 60) (.tmp 61) (.tmp 62) 63 r184.1 r194.1 r195.2) λr196=>.tt (.tt (.cl 11003 (Hf p0.a4 (Z1 ((19:Int) * p1.a4))) λr197=>.Qy 13006 (adc (.tmp 50) (.tmp 51) (.const (.int .u64 0)) 52 r171.1 r197.2 0) λr198=>.Qy 14007 (adc (.tmp 60) (.tmp 61) (.tmp 62) 63 r172.1 r197.1 r198.2) λr199=>.ff (.ff (.tt (.Qy 22006 (adc (.tmp 76) (.tmp 77) (.const (.int .u64 0)) 78 r189.1 0 0) λr200=>.tt (.Qy 22006 (adc (.tmp 76) (.tmp 77) (.const (.int .u64 0)) 78 r192.1 (Zn .u64 (M3 .u64 (Z1 (r190.1+r200.2)) 13) (Z4 .u64 r200.1 51)) 0) λr201=>.tt (.Qy 22006 (adc (.tmp 76) (.tmp 77) (.const (.int .u64 0)) 78 r195.1 (Zn .u64 (M3 .u64 (Z1 (r193.1+r201.2)) 13) (Z4 .u64 r201.1 51)) 0) λr202=>.tt (.Qy 22006 (adc (.tmp 76) (.tmp 77) (.const (.int .u64 0)) 78 r198.1 (Zn .u64 (M3 .u64 (Z1 (r196.1+r202.2)) 13) (Z4 .u64 r202.1 51)) 0) λr203=>.tt (.Qy 22006 (adc (.tmp 76) (.tmp 77) (.const (.int .u64 0)) 78 r186.1 (Zn .u64 (M3 .u64 (Z1 (r199.1+r203.2)) 13) (Z4 .u64 r203.1 51)) 0) λr204=>.ff (.cl 27002 (Hf (Zn .u64 (M3 .u64 (Z1 (r187.1+r204.2)) 13) (Z4 .u64 r204.1 51)) 19) λr205=>.Qy 28004 (adc (.tmp 111) (.tmp 112) (.const (.int .u64 0)) 113 (U0 .u64 r200.1 2251799813685247) r205.2 0) λr206=>.cl 32002 (OV (Q6.mk (U0 .u64 r206.1 2251799813685247) (Z1 ((U0 .u64 r201.1 2251799813685247)+(Zn .u64 (M3 .u64 (Z1 (r205.1+r206.2)) 13) (Z4 .u64 r206.1 51)))) (U0 .u64 r202.1 2251799813685247) (U0 .u64 r203.1 2251799813685247) (U0 .u64 r204.1 2251799813685247))) λr207=>.done r207)))))))))))))))))))))))))))))))))))))))))))))))))))))))))))))))))))
def Kn(p0 p1:Q6):Sp (Q6):=oF [0,1,2,3,4,5,6,7,8,9,10,11,12,13,14,15,16,17,18,19,20,21,22,23,26,27,28,35,69,70] Tryz.func183 [.agg (I9 p0),.agg (I9 p1)] (Qja p0 p1) (λr=>.agg (I9 r))
def tZ(p0:Bool)(p1 p2:Q6):TT (Q6):=.cl 3 (Kn p1 p1) λr209=>.br 0 p0 (.cl 2003 (Kn r209 p2) λr210=>.done r210) (.done r209)
def RK(p0:Bool)(p1 p2:Q6):Sp (Q6):=.ZR 225 [] Q8 Tryz.func225 rfl (λ_=>rfl) (show WE Pg GG [0,1,2,7] Tryz.f225 [.bool p0,.ptr zA 0 0,.ptr 1000001 0 0] (Ext.of .normal (H3 [.bool p0,.ptr zA 0 0,.ptr 1000001 0 0]) [(zA,⟨5,true,[(I9 p1)]⟩),(1000001,⟨5,true,[(I9 p2)]⟩)] [] (by rfl)) (tZ p0 p1 p2) (λ(r:Q6)=>.Qt []) (λ(r:Q6)=>Ext.of .normal [] [(zA,⟨5,true,[(I9 r)]⟩),(1000001,⟨5,true,[(I9 p2)]⟩)] [] (by rfl)) by unfold WE;kernel_rfl)
def Qjx(p0:Q6):TT (Q6):=.bind 1 (.lp (λ(l211:Q6×Int)=>Ext.l .normal [(2,.ptr 2 0 0),(3,.ptr 3 0 0),(4,.fn 225 [] [.ptr 3 0 0,.ptr 1 0 0]),(9,.i l211.2)] [(1,⟨5,true,[(I9 p0)]⟩),(2,⟨5,true,[(M5 5 (.int .u64 0) [])]⟩),(3,⟨5,true,[(I9 l211.1)]⟩)]) (λl211=>.br 0 (decide (l211.2 < 250)) (.call 5002 (RK true l211.1 p0) [(zA,3),(1000001,1)] [] λr213=>.done (.inl (r213,(Q0 (l211.2+1))))) (.done (.inr l211.1))) ((Q6.mk 1 0 0 0 0),0)) (λ(e214:Q6)=>Ext.l (.exit 0) [(2,.ptr 2 0 0),(3,.ptr 3 0 0),(4,.fn 225 [] [.ptr 3 0 0,.ptr 1 0 0])] [(1,⟨5,true,[(I9 p0)]⟩),(2,⟨5,true,[(M5 5 (.int .u64 0) [])]⟩),(3,⟨5,true,[(I9 e214)]⟩)]) (λe214=>.tt (.call 10003 (RK false e214 p0) [(zA,3),(1000001,1)] [] λr216=>.tt (.call 10003 (RK true r216 p0) [(zA,3),(1000001,1)] [] λr218=>.tt (.call 10003 (RK false r218 p0) [(zA,3),(1000001,1)] [] λr220=>.tt (.call 10003 (RK true r220 p0) [(zA,3),(1000001,1)] [] λr222=>.tt (.call 10003 (RK true r222 p0) [(zA,3),(1000001,1)] [] λr224=>.ff (.done r224)))))))
def rE(p0:Q6):Sp (Q6):=oF [0,1,2,3,4,6,9,10,14,15,16] Tryz.func184 [.agg (I9 p0)] (Qjx p0) (λr=>.agg (I9 r))
def Qjo(p0:za):TT (Q6):=.bind 1 (.lp (λ(l226:Q6×Int)=>Ext.l .normal [(0,.str p0),(2,.ptr 2 0 0),(3,.ptr 3 0 0),(5,.i l226.2)] [(2,⟨5,true,[(M5 5 (.int .u64 0) [])]⟩),(3,⟨5,true,[(I9 l226.1)]⟩)]) (λl226=>.br 0 (decide (l226.2 < 255)) (.Qd 5004 (decide (0<=(Q0 (Int.tdiv l226.2 8))/\(Q0 (Int.tdiv l226.2 8)) < (p0.size:Int))) (.Qd 5007 (decide ((0:Int)<=(Int.tmod l226.2 8))) (.br 0 ((U0 .u8 (Z4 .u8 (QZ p0 (Q0 (Int.tdiv l226.2 8))) (Int.tmod l226.2 8)) 1)==1) (.Yi 6003 (Q0 (Int.tdiv l226.2 51)) [0,1,2,3,4] (λv=>bif v==0 then .Qd 6007 (decide ((0:Int)<=(Int.tmod l226.2 51))) (.done (.inl ((Q6.mk (Zn .u64 l226.1.a0 (M3 .u64 1 (Int.tmod l226.2 51))) l226.1.a1 l226.1.a2 l226.1.a3 l226.1.a4),(Q0 (l226.2+1))))) else bif v==1 then .Qd 6007 (decide ((0:Int)<=(Int.tmod l226.2 51))) (.done (.inl ((Q6.mk l226.1.a0 (Zn .u64 l226.1.a1 (M3 .u64 1 (Int.tmod l226.2 51))) l226.1.a2 l226.1.a3 l226.1.a4),(Q0 (l226.2+1))))) else bif v==2 then .Qd 6007 (decide ((0:Int)<=(Int.tmod l226.2 51))) (.done (.inl ((Q6.mk l226.1.a0 l226.1.a1 (Zn .u64 l226.1.a2 (M3 .u64 1 (Int.tmod l226.2 51))) l226.1.a3 l226.1.a4),(Q0 (l226.2+1))))) else bif v==3 then .Qd 6007 (decide ((0:Int)<=(Int.tmod l226.2 51))) (.done (.inl ((Q6.mk l226.1.a0 l226.1.a1 l226.1.a2 (Zn .u64 l226.1.a3 (M3 .u64 1 (Int.tmod l226.2 51))) l226.1.a4),(Q0 (l226.2+1))))) else bif v==4 then .Qd 6007 (decide ((0:Int)<=(Int.tmod l226.2 51))) (.done (.inl ((Q6.mk l226.1.a0 l226.1.a1 l226.1.a2 l226.1.a3 (Zn .u64 l226.1.a4 (M3 .u64 1 (Int.tmod l226.2 51)))),(Q0 (l226.2+1))))) else .fail)) (.done (.inl (l226.1,(Q0 (l226.2+1)))))))) (.done (.inr l226.1))) ((Q6.mk 0 0 0 0 0),0)) (λ(e227:Q6)=>Ext.l (.exit 0) [(2,.ptr 2 0 0),(3,.ptr 3 0 0)] [(2,⟨5,true,[(M5 5 (.int .u64 0) [])]⟩),(3,⟨5,true,[(I9 e227)]⟩)]) (λe227=>.done e227)
def dW(p0:za):Sp (Q6):=oF [0,2,3,4,5,6,16] Tryz.func179 [.str p0] (Qjo p0) (λr=>.agg (I9 r))
def Qjd(p0:Q6):TT (za):=.cl 1002 (OV p0) λr228=>.cl 1003 (OV r228) λr229=>.tt (.tt (.tt (.tt (.tt (.ff (.bind 0 (.br 0 (decide ((0:Int) < (Z4 .u64 (Z1 (r229.a4+(Z4 .u64 (Z1 (r229.a3+(Z4 .u64 (Z1 (r229.a2+(Z4 .u64 (Z1 (r229.a1+(Z4 .u64 (Z1 ((Z1 (r229.a0+19))+0)) 51))) 51))) 51))) 51))) 51))) (.done (Q6.mk (U0 .u64 (Z1 ((Z1 (r229.a0+19))+0)) 2251799813685247) (U0 .u64 (Z1 (r229.a1+(Z4 .u64 (Z1 ((Z1 (r229.a0+19))+0)) 51))) 2251799813685247) (U0 .u64 (Z1 (r229.a2+(Z4 .u64 (Z1 (r229.a1+(Z4 .u64 (Z1 ((Z1 (r229.a0+19))+0)) 51))) 51))) 2251799813685247) (U0 .u64 (Z1 (r229.a3+(Z4 .u64 (Z1 (r229.a2+(Z4 .u64 (Z1 (r229.a1+(Z4 .u64 (Z1 ((Z1 (r229.a0+19))+0)) 51))) 51))) 51))) 2251799813685247) (U0 .u64 (Z1 (r229.a4+(Z4 .u64 (Z1 (r229.a3+(Z4 .u64 (Z1 (r229.a2+(Z4 .u64 (Z1 (r229.a1+(Z4 .u64 (Z1 ((Z1 (r229.a0+19))+0)) 51))) 51))) 51))) 51))) 2251799813685247))) (.done r229)) (λ(e230:Q6)=>Ext.l .normal [(1,.ptr 1 0 0),(2,.str zd)] [(1,⟨5,true,[(I9 e230)]⟩)]) (λe230=>.Qy 14001 (Qw.ZW (ty:=Z9) (t:=57) (e:=5) (k:=.u8) (.const (.int .i64 32)) (.const (.int .i64 32)) 38 32 1) λ_=>.bind 1 (.lp (λ(l234:(List Int)×Int)=>Ext.of .normal [(1,.ptr 1 0 0),(2,.str zd),(6,.ref 38 0 32),(39,.i l234.2)] [(1,⟨5,true,[(I9 e230)]⟩)] [Bt 38 Z9 1 l234.1] (by rfl)) (λl234=>.br 0 (decide (l234.2 < 255)) (.Qd 18004 (decide (0<=(Q0 (Int.tdiv l234.2 8)))&&decide ((Q0 (Int.tdiv l234.2 8)) < (32:Int))) (.row 18005 Z9 l234.1 (0+(Q0 (Int.tdiv l234.2 8)).toNat) true λx235=>.Yi 18008 (Q0 (Int.tdiv l234.2 51)) [0,1,2,3,4] (λv=>bif v==0 then .Qd 18012 (decide ((0:Int)<=(Int.tmod l234.2 51))) (.Qd 18017 (decide ((0:Int)<=(Int.tmod l234.2 8))) (.Qd 18019 (decide (0<=(Q0 (Int.tdiv l234.2 8)))&&decide ((Q0 (Int.tdiv l234.2 8)) < (32:Int))) (.row 18020 Z9 l234.1 (0+(Q0 (Int.tdiv l234.2 8)).toNat) true λx236=>.re 18020 (Yo.put 38 1 Z9 l234.1 (0+(Q0 (Int.tdiv l234.2 8)).toNat) (Zn .u8 x235 (M3 .u8 (Qm (U0 .u64 (Z4 .u64 e230.a0 (Int.tmod l234.2 51)) 1)) (Int.tmod l234.2 8)))) (.done (.inl ((l234.1.set (0+(Q0 (Int.tdiv l234.2 8)).toNat) (Zn .u8 x235 (M3 .u8 (Qm (U0 .u64 (Z4 .u64 e230.a0 (Int.tmod l234.2 51)) 1)) (Int.tmod l234.2 8)))),(Q0 (l234.2+1)))))))) else bif v==1 then .Qd 18012 (decide ((0:Int)<=(Int.tmod l234.2 51))) (.Qd 18017 (decide ((0:Int)<=(Int.tmod l234.2 8))) (.Qd 18019 (decide (0<=(Q0 (Int.tdiv l234.2 8)))&&decide ((Q0 (Int.tdiv l234.2 8)) < (32:Int))) (.row 18020 Z9 l234.1 (0+(Q0 (Int.tdiv l234.2 8)).toNat) true λx237=>.re 18020 (Yo.put 38 1 Z9 l234.1 (0+(Q0 (Int.tdiv l234.2 8)).toNat) (Zn .u8 x235 (M3 .u8 (Qm (U0 .u64 (Z4 .u64 e230.a1 (Int.tmod l234.2 51)) 1)) (Int.tmod l234.2 8)))) (.done (.inl ((l234.1.set (0+(Q0 (Int.tdiv l234.2 8)).toNat) (Zn .u8 x235 (M3 .u8 (Qm (U0 .u64 (Z4 .u64 e230.a1 (Int.tmod l234.2 51)) 1)) (Int.tmod l234.2 8)))),(Q0 (l234.2+1)))))))) else bif v==2 then .Qd 18012 (decide ((0:Int)<=(Int.tmod l234.2 51))) (.Qd 18017 (decide ((0:Int)<=(Int.tmod l234.2 8))) (.Qd 18019 (decide (0<=(Q0 (Int.tdiv l234.2 8)))&&decide ((Q0 (Int.tdiv l234.2 8)) < (32:Int))) (.row 18020 Z9 l234.1 (0+(Q0 (Int.tdiv l234.2 8)).toNat) true λx238=>.re 18020 (Yo.put 38 1 Z9 l234.1 (0+(Q0 (Int.tdiv l234.2 8)).toNat) (Zn .u8 x235 (M3 .u8 (Qm (U0 .u64 (Z4 .u64 e230.a2 (Int.tmod l234.2 51)) 1)) (Int.tmod l234.2 8)))) (.done (.inl ((l234.1.set (0+(Q0 (Int.tdiv l234.2 8)).toNat) (Zn .u8 x235 (M3 .u8 (Qm (U0 .u64 (Z4 .u64 e230.a2 (Int.tmod l234.2 51)) 1)) (Int.tmod l234.2 8)))),(Q0 (l234.2+1)))))))) else bif v==3 then .Qd 18012 (decide ((0:Int)<=(Int.tmod l234.2 51))) (.Qd 18017 (decide ((0:Int)<=(Int.tmod l234.2 8))) (.Qd 18019 (decide (0<=(Q0 (Int.tdiv l234.2 8)))&&decide ((Q0 (Int.tdiv l234.2 8)) < (32:Int))) (.row 18020 Z9 l234.1 (0+(Q0 (Int.tdiv l234.2 8)).toNat) true λx239=>.re 18020 (Yo.put 38 1 Z9 l234.1 (0+(Q0 (Int.tdiv l234.2 8)).toNat) (Zn .u8 x235 (M3 .u8 (Qm (U0 .u64 (Z4 .u64 e230.a3 (Int.tmod l234.2 51)) 1)) (Int.tmod l234.2 8)))) (.done (.inl ((l234.1.set (0+(Q0 (Int.tdiv l234.2 8)).toNat) (Zn .u8 x235 (M3 .u8 (Qm (U0 .u64 (Z4 .u64 e230.a3 (Int.tmod l234.2 51)) 1)) (Int.tmod l234.2 8)))),(Q0 (l234.2+1)))))))) else bif v==4 then .Qd 18012 (decide ((0:Int)<=(Int.tmod l234.2 51))) (.Qd 18017 (decide ((0:Int)<=(Int.tmod l234.2 8))) (.Qd 18019 (decide (0<=(Q0 (Int.tdiv l234.2 8)))&&decide ((Q0 (Int.tdiv l234.2 8)) < (32:Int))) (.row 18020 Z9 l234.1 (0+(Q0 (Int.tdiv l234.2 8)).toNat) true λx240=>.re 18020 (Yo.put 38 1 Z9 l234.1 (0+(Q0 (Int.tdiv l234.2 8)).toNat) (Zn .u8 x235 (M3 .u8 (Qm (U0 .u64 (Z4 .u64 e230.a4 (Int.tmod l234.2 51)) 1)) (Int.tmod l234.2 8)))) (.done (.inl ((l234.1.set (0+(Q0 (Int.tdiv l234.2 8)).toNat) (Zn .u8 x235 (M3 .u8 (Qm (U0 .u64 (Z4 .u64 e230.a4 (Int.tmod l234.2 51)) 1)) (Int.tmod l234.2 8)))),(Q0 (l234.2+1)))))))) else .fail))) (.done (.inr l234.1))) ((List.replicate 32 (0:Int)),0)) (λ(e241:(List Int))=>Ext.of (.exit 2) [(2,.str zd),(6,.ref 38 0 32)] [] [Bt 38 Z9 1 e241] (by rfl)) (λe241=>.fact (e241.length=32) inferInstance λh242=>.Qy 20002 (Qw.Zi (ty:=Z9) (s:=57) (t:=9) (e:=5) (.tmp 62) 63 38 e241 32 (hn:=h242)) λ_=>.done (strOfNums e241)))))))))
def rM(p0:Q6):Sp (za):=oF [0,1,2,3,4,5,6,7,16,17,36,39,40] Tryz.func185 [.agg (I9 p0)] (Qjd p0) (λr=>.str r)
def Qji(p0:za):TT (za):=.fact ((Q3 p0)=X9 (Ze p0)) inferInstance λh243=>.Qy 1002 (Qw.octets (ty:=Z9) (s:=9) (t:=57) (e:=5) (.tmp 4) 5 p0) λ_=>.Qy 1003 (Qw.gY (e:=5) 188 (.tmp 5) 6 5 ⟨1,true,(List.map Z9.c (Q3 p0))⟩ 32 ((Q3 p0).length)) λ_=>.Qy 1004 (Qw.EB 188 (.tmp 6) 7 5 ⟨1,true,(List.map Z9.c (Q3 p0))⟩ (.agg (TN (Ze p0))) (show 1 < Y8 by decide) (by rw[h243];kernel_rfl)) λ_=>.Qy 1005 (Qw.KX (ty:=Z9) 188 3 (X9 (λ_=>0))) λ_=>.Qy 1006 (Qw.Km (ty:=Z9) 188 (.tmp 3) (.tmp 7) 3 ⟨1,true,(List.map Z9.c (X9 (λ_=>0)))⟩ (.agg (TN (Ze p0))) (X9 (Ze p0))) λ_=>.Qy 2001 (Qw.ZD (e:=5) 188 (.tmp 3) (.const (.int .i64 0)) 8 3 ⟨1,true,(List.map Z9.c (X9 (Ze p0)))⟩ 0 .i64 0 32) λ_=>.row 2002 Z9 (X9 (Ze p0)) 0 true λx244=>.Qy 2004 (Qw.ZD (e:=5) 188 (.tmp 3) (.const (.int .i64 0)) 11 3 ⟨1,true,(List.map Z9.c (X9 (Ze p0)))⟩ 0 .i64 0 32) λ_=>.row 2005 Z9 (X9 (Ze p0)) 0 true λx245=>.re 2005 (Yo.Qzq 3 Z9 (Ze p0) 0 (U0 .u8 x244 248)) (.Qy 3001 (Qw.ZD (e:=5) 188 (.tmp 3) (.const (.int .i64 31)) 12 3 ⟨1,true,(List.map Z9.c (X9 (U5 (Ze p0) 0 (U0 .u8 x244 248))))⟩ 0 .i64 31 32) λ_=>.row 3002 Z9 (X9 (U5 (Ze p0) 0 (U0 .u8 x244 248))) 31 true λx246=>.Qy 3005 (Qw.ZD (e:=5) 188 (.tmp 3) (.const (.int .i64 31)) 16 3 ⟨1,true,(List.map Z9.c (X9 (U5 (Ze p0) 0 (U0 .u8 x244 248))))⟩ 0 .i64 31 32) λ_=>.row 3006 Z9 (X9 (U5 (Ze p0) 0 (U0 .u8 x244 248))) 31 true λx247=>.re 3006 (Yo.Qzq 3 Z9 (U5 (Ze p0) 0 (U0 .u8 x244 248)) 31 (Zn .u8 (U0 .u8 x246 127) 64)) (.Qy 4001 (Qw.Qhx (e:=5) 188 (.tmp 3) 17 3 ⟨1,true,(List.map Z9.c (X9 (U5 (U5 (Ze p0) 0 (U0 .u8 x244 248)) 31 (Zn .u8 (U0 .u8 x246 127) 64))))⟩ 32) λ_=>.Qy 4002 (Qw.Zi (ty:=Z9) (s:=57) (t:=9) (e:=5) (.tmp 17) 18 3 (X9 (U5 (U5 (Ze p0) 0 (U0 .u8 x244 248)) 31 (Zn .u8 (U0 .u8 x246 127) 64))) 32 (hn:=(by rfl))) λ_=>.done (strOfNums (X9 (U5 (U5 (Ze p0) 0 (U0 .u8 x244 248)) 31 (Zn .u8 (U0 .u8 x246 127) 64))))))
def rD(p0:za):Sp (za):=oF [0,2,3] Tryz.func181 [.str p0] (Qji p0) (λr=>.str r)
noncomputable def Tn:Code:=(cB (cR (cL (cR (cR (cR (Tryz.f123.body.getD .skip)))))))
def kB:Code:=Mk Tn
def Ff:List (Nat×V):=[(5,.ptr 1000005 0 0),(6,.ptr 1000006 0 0),(19,.fn 221 [] [.ptr 1700070 0 0])]
def ReL(u:Q6)(y:Y6)(s:za):List (Nat×Qi):=[(1000005,⟨5,true,[(I9 u)]⟩),(1000006,⟨25,true,[(aB y)]⟩),(1700070,⟨1,true,[[.str s]]⟩)]
def Rz(ts:List (Nat×V))(u:Q6)(y:Y6)(s:za):Ext:=Ext.of .normal ts (ReL u y s) [] (by rfl)
def tX(p0:Y6):TT (Q6×Q6×Q6×Q6):=.cl 11 (Cj p0.fT.ZC p0.fT.Qv) λr262=>.cl 22 (Cy p0.fT.ZC p0.fT.Qv) λr263=>.cl 1003 (Kn r262 r262) λr264=>.cl 1006 (Kn r263 r263) λr265=>.cl 2003 (Cy r264 r265) λr266=>.cl 3011 (Cy p0.Qr.ZC p0.Qr.Qv) λr267=>.cl 3013 (Kn r267 r262) λr268=>.cl 3024 (Cj p0.Qr.ZC p0.Qr.Qv) λr269=>.cl 3026 (Kn r269 r263) λr270=>.cl 4005 (Kn r264 r265) λr271=>.cl 4010 (Kn r266 (Q6.mk 121665 0 0 0 0)) λr272=>.cl 4011 (Cj r264 r272) λr273=>.cl 4012 (Kn r266 r273) λr274=>.cl 5003 (Cj r268 r270) λr275=>.cl 5006 (Cy r268 r270) λr276=>.cl 6005 (Kn r275 r275) λr277=>.cl 6012 (Kn r276 r276) λr278=>.cl 6013 (Kn p0.fu r278) λr279=>.done (r271,r274,r277,r279)
def Qz1(p0:Y6):Sp (Q6×Q6×Q6×Q6):=.ZR 182 [] Q8 Tryz.func182 rfl (λ_=>rfl) (show WE Pg GG [0,2,3,4,5,6,7,8,9,10] Tryz.f182 [.ptr zA 0 0] (Ext.of .normal (H3 [.ptr zA 0 0]) [(zA,⟨25,true,[(aB p0)]⟩)] [] (by rfl)) (tX p0) (λ(r:Q6×Q6×Q6×Q6)=>.Qt []) (λ(r:Q6×Q6×Q6×Q6)=>Ext.of .normal [] [(zA,⟨25,true,[(H0 (I9 r.1) (H0 (I9 r.2.1) (H0 (I9 r.2.2.1) (H0 (I9 r.2.2.2) (I9 p0.fu)))))]⟩)] [] (by rfl)) by unfold WE;kernel_rfl)
def Nu(u:Q6)(y:Y6)(s:za)(v:Bool):TT (Y6):=
 .bind 1
 (.br 0 v
  (.done (y.Qr.ZC,y.Qr.Qv,y.fT.ZC,y.fT.Qv))
  (.done (y.fT.ZC,y.fT.Qv,y.Qr.ZC,y.Qr.Qv)))
 (λ(e248:Q6×Q6×Q6×Q6)=>Ext.l .normal [(6,.ptr 1000006 0 0),(7,.bool v)] [(1000005,⟨5,true,[(I9 u)]⟩),(1000006,⟨25,true,[(H0 (I9 e248.1) (H0 (I9 e248.2.1) (H0 (I9 e248.2.2.1) (H0 (I9 e248.2.2.2) (I9 y.fu)))))]⟩),(1700070,⟨1,true,[[.str s]]⟩)])
 (λe248=>
  .call 7001 (Qz1 (Y6.mk (Kj.mk e248.1 e248.2.1) (Kj.mk e248.2.2.1 e248.2.2.2) y.fu)) [(1000000,1000006)] [] λr280=>
  .br 0 v
  (.done (Y6.mk (Kj.mk r280.2.2.1 r280.2.2.2) (Kj.mk r280.1 r280.2.1) y.fu))
  (.done (Y6.mk (Kj.mk r280.1 r280.2.1) (Kj.mk r280.2.2.1 r280.2.2.2) y.fu)))
theorem Qm6(u:Q6)(y:Y6)(s:za)(v:Bool):Y1 Tryz.prog GG [5,6,7,21,29] 45 (A6 Tn) (Rz [(5,.ptr 1000005 0 0),(6,.ptr 1000006 0 0),(7,.bool v)] u y s) (Nu u y s v) (λ(r:Y6)=>Rz [] u r s):=by unfold Y1;kernel_rfl
theorem V3{n:Nat}{ts:List (Nat×V)}{bs:List (Nat×Qi)}{us:List Nat}(ht:(ts.all λp=>(W2 p.2).all (E6 n ts bs us).u)=true)(hb:(bs.all λp=>(E6 n ts bs us).u p.1&&(E5 p.2.rows.flatten).all (E6 n ts bs us).u)=true):(E6 n ts bs us).known where
 t:=λi b hm=>by
  have hm':b∈W2 (Zm ts i):=hm
  unfold Zm at hm'
  cases hf:ts.find? (λp=>p.1==i) with
  | none=>rw[hf] at hm';simp[W2] at hm'
  | some p=>rw[hf] at hm';exact zG.1 (zG.1 ht p (wW hf)) b hm'
 b:=λi k hk=>by
  obtain⟨q,h1,rfl,rfl⟩:=ZL (show Qe bs i=some k from hk)
  have:=zG.1 hb q h1
  simp only[zD] at this
  exact⟨this.1,λb hm=>zG.1 this.2 b hm⟩
theorem Oj{n:Nat}{ts:List (Nat×V)}{bs:List (Nat×Qi)}{tb:List BT}{us:List Nat}(ht:(ts.all λp=>(W2 p.2).all (E6 n ts (bs++tb.map λx=>(x.id,x.k)) us).u)=true)
  (hb:(bs.all λp=>(E6 n ts (bs++tb.map λx=>(x.id,x.k)) us).u p.1&&(E5 p.2.rows.flatten).all (E6 n ts (bs++tb.map λx=>(x.id,x.k)) us).u)=true) (hc:(tb.all λx=>(E6 n ts (bs++tb.map λx=>(x.id,x.k)) us).u x.id)=true) :
  (E6 n ts (bs++tb.map λx=>(x.id,x.k)) us).known where
 t:=(V3 (n:=n) (ts:=ts) (bs:=[]) (us:=us) ht rfl).t
 b:=λi k hk=>by
  obtain⟨q,h1,rfl,rfl⟩:=ZL (show Qe (bs++tb.map λx=>(x.id,x.k)) i=some k from hk)
  rcases wa.1 h1 with h2|h2
  ·have:=zG.1 hb q h2
   simp only[zD] at this
   exact⟨this.1,λb hm=>zG.1 this.2 b hm⟩
  ·have hd:=Fw _ h2
   obtain⟨x,hx,rfl⟩:=zH.1 h2
   exact⟨zG.1 hc x hx,λb hm=>by rw[hd.refs] at hm;simp at hm⟩
noncomputable def PB:Code:=Tryz.f206.body.getD .skip
def aL:Code:=cB (cB (cR PB))
def oY:Array Oper:=Ik (cL (cL aL))
def aR1:Code:=cR (cR aL)
theorem eAl:PB=.seq (cL PB) (.block 0 (.loop aL)):=by kernel_rfl
theorem eAL:aL=.seq (.seq (.region 1 oY false) (.cond (.tmp 14) .skip (.exit 0))) (.seq (.block 1 .skip) aR1):=by kernel_rfl
def CP(s:za)(i:Int):TT (Option Int):=
 .br 1006 (decide (i < (s.size:Int))) (.Qd 1009 (decide (0<=i/\i < (s.size:Int))) (.done (some (QZ s i)))) (.done none)
noncomputable def vG:Code:=Tryz.f221.body.getD .skip
def dL:Code:=cB (cB (cR vG))
def dR0:Code:=cL (cL dL)
def Qhd:Array Oper:=Ik (cL (cB (cL (cR dL))))
def dR1:Code:=cR (cR dL)
theorem eDg:vG=.seq (cL vG) (.block 0 (.loop dL)):=by kernel_rfl
theorem eDL:dL=.seq (.seq dR0 (.cond (.tmp 5) .skip (.exit 0))) (.seq (.block 1 (.seq (.region 3 Qhd false) (.cond (.tmp 19) .ret .skip))) dR1):=by kernel_rfl
def cC(s:za)(i:Int):TT Bool:=
 .Qd 3005 (decide (0<=(Q0 (Int.tdiv i 8))/\(Q0 (Int.tdiv i 8)) < (s.size:Int))) (.Qd 3008 (decide ((0:Int)<=(Int.tmod i 8))) (.done ((U0 .u8 (Z4 .u8 (QZ s (Q0 (Int.tdiv i 8))) (Int.tmod i 8)) 1)==1)))
def kS(u:Q6)(y:Y6)(s:za):List (Nat×Qi):=(Rz [] u y s).bs
theorem Qm5(u:Q6)(y:Y6)(s:za)(v:Bool):Y1 Tryz.prog GG [5,6,7,19,20] 45 kB (Rz ((20,.bool v) :: Ff) u y s) (.done ():TT Unit) (λ_=>Rz [(5,.ptr 1000005 0 0),(6,.ptr 1000006 0 0),(7,.bool v)] u y s):=by unfold Y1;kernel_rfl
theorem Qec(u:Q6)(y:Y6)(s:za)(v:Bool):(Rz ((20,.bool v) :: Ff) u y s |>.D 45).st=WH (M8 45 (Zm Ff) (Qe (kS u y s))) ([20].zip [.bool v]):=by
 rw[H6 (by rfl)]
 exact(JY 45 Ff _ 20 (.bool v)).symm
theorem Qko(u:Q6)(y:Y6)(s:za)(v:Bool){r:Y6}(hb:(Nu u y s v).run=some r) :
  Jr Tryz.prog GG 45 (Zm Ff) [20] kB (A6 Tn) (Qe (kS u y s)) [.bool v] (λe b'=>e=.normal/\b'=Qe (kS u r s)):=by
 refine⟨((Rz [(5,.ptr 1000005 0 0),(6,.ptr 1000006 0 0),(7,.bool v)] u y s).D 45).st,?_,?_⟩
 ·have h:=(Qm5 u y s v).tv Q8 (r:=()) rfl (by rfl)
  rw[Qec] at h
  exact h
 ·refine((Qm6 u y s v).tv Q8 hb (by rfl)).mono λe s' hg=>?_
  obtain⟨rfl,g⟩:=hg
  refine⟨_,45,⟨rfl,rfl⟩,?_⟩
  rw[H6 (by rfl)] at g
  exact g
section
variable (u:Q6) (l:Nat) (y:Y6) (s:za) (i:Int)
def Ret:List (Nat×V):=[(0,.QP l),(1,.ptr 1700070 0 0),(3,.int .i64 i)]
def mN:Ext:=Rz (Ret l i) u y s
theorem Qmq:Y1 Tryz.prog GG [0,1,3] 20 (cL vG) (Rz [(0,.QP l),(1,.ptr 1700070 0 0)] u y s) (.done ():TT Unit) (λ_=>mN u l y s 254):=by unfold Y1;kernel_rfl
theorem Qm9:Y1 Tryz.prog GG [0,1,3,5] 20 dR0 (mN u l y s i) (.done ():TT Unit) (λ_=>Rz (Ret l i++[(5,.bool (decide ((0:Int)<=i)))]) u y s):=by unfold Y1;kernel_rfl
theorem Qm8:W5 Tryz.prog GG [0,1,3,8,17] 20 3 Qhd 10 (mN u l y s i) (cC s i) (λr=>Rz (Ret l i++[(8,.QP l),(17,.bool r)]) u y s):=by unfold W5;kernel_rfl
theorem Qm7:Y1 Tryz.prog GG [0,1,3] 20 dR1 (mN u l y s i) (.done ():TT Unit) (λ_=>mN u l y s (Q0 (i - 1))):=by unfold Y1;kernel_rfl
end
def Kd(u:Q6)(s:za)(x:Y6×Int):Option ((Y6×Int)⊕Y6):=
 bif decide ((0:Int)<=x.2) then
  (match (cC s x.2).run with
  | none=>none
  | some b=>match (Nu u x.1 s b).run with
   | none=>none
   | some y=>some (.inl (y,Q0 (x.2 - 1))))
 else some (.inr x.1)
def mRe(u:Q6)(y:Y6)(s:za):Option Y6:=X7 (Kd u s) ZN (y,254)
def yRe:YL:=⟨45,Zm Ff,#[20],kB,A6 Tn⟩
theorem cM(u:Q6)(y:Y6)(s:za){r:Y6}(h:mRe u y s=some r) :
    Uj Tryz.prog GG vG 20 (λl=>[.QP l,.ptr 1700070 0 0]) (Qe (kS u y s)) yRe (λe b=>e=.normal/\b=Qe (kS u r s)):=by
  refine Uj.of λl=>?_
  have e0:U3 20 [.QP l,.ptr 1700070 0 0] (Qe (kS u y s))=((Rz (H3 [.QP l,.ptr 1700070 0 0]) u y s).D 20).st:=(R8 (x:=Rz (H3 [.QP l,.ptr 1700070 0 0]) u y s) (by rfl) (by rfl) 20).symm
  rw[e0,eDg]
  show YT _ _ _ _ _ ⟨.normal,((Rz [(0,.QP l),(1,.ptr 1700070 0 0)] u y s).D 20).st⟩ _
  refine YT.seq (YT.piece (Qmq u l y s) Q8 rfl (by rfl) λq g=>?_)
  show YT _ _ _ _ _ _ _
  refine YT.DB g (YT.block ?_)
  refine YT.loop (λm st=>st.x=.normal/\∃z:Y6×Int,QH GG st.st ((mN u l z.1 s z.2).D 20).st/\X7 (Kd u s) m z=some r) (λm st hI=>?_) (n:=ZN) ⟨rfl,(y,254),QH.same _,h⟩
  obtain⟨x,st⟩:=st
  obtain⟨rfl,⟨v,i⟩,g,hit⟩:=hI
  refine YT.DB g ?_
  cases m with
  | zero=>simp[X7] at hit
  | succ m=>
    rw[T0] at hit
    rw[eDL]
    refine YT.seq (YT.seq (YT.piece (Qm9 u l v s i) Q8 rfl (by rfl) λst g=>?_))
    show YT _ _ _ _ _ _ _
    refine YT.DB g ?_
    cases hc:decide ((0:Int)<=i) with
    | false=>
      have hs0:Kd u s (v,i)=some (.inr v):=by unfold Kd;simp only[hc];rfl
      rw[hs0] at hit
      obtain rfl:v=r:=zW hit
      refine YT.cond (b:=false) rfl (YT.exit ?_)
      refine⟨.inl rfl,20,Zm (Ret l i++[(5,.bool false)]),Qe (kS u v s),?_,rfl,rfl⟩
      show QH GG ((Rz (Ret l i++[(5,.bool false)]) u v s).D 20).st _
      rw[H6 (by rfl) 20]
      exact QH.same _
    | true=>
      refine YT.cond (b:=true) rfl (YT.skip ?_)
      show YT _ _ _ _ _ _ _
      refine YT.DB (st':=((mN u l v s i).D 20).st) (W0 (mN u l v s i) (by rfl) rfl ⟨by rfl,by rfl⟩) ?_
      cases h4:(cC s i).run with
      | none => have hs0 : Kd u s (v, i) = none := by unfold Kd; simp only [hc, h4]; rfl
                rw[hs0] at hit;simp at hit
      | some b=>
      cases h5:(Nu u v s b).run with
      | none => have hs0 : Kd u s (v, i) = none := by unfold Kd; simp only [hc, h4, h5]; rfl
                rw[hs0] at hit;simp at hit
      | some v2=>
      have hs0:Kd u s (v,i)=some (.inl (v2,Q0 (i - 1))):=by unfold Kd;simp only[hc,h4,h5];rfl
      rw[hs0] at hit
      refine YT.seq (YT.block (YT.seq (YT.region ?_)))
      show J2 _ _ _ _ _ ([0,1,2,3,4,5,6,7,8,9]++[10,11]) _ _
      refine J2.tv ((Qm8 u l v s i).tv Q8 h4 (by rfl)) λe st hq'=>⟨hq'.1,J2.DB hq'.2 ?_⟩
      have es:=H6 (x:=Rz (Ret l i++[(8,V.QP l),(17,V.bool b)]) u v s) (by rfl) 20
      rw[es]
      refine J2.Ku (hi:=rfl) rfl rfl rfl rfl rfl rfl rfl ?_ ?_ ?_ rfl (Qko u v s b h5) ?_ ?_
      · exact λi=>O8 (by rfl) i
      · exact λi=>O8 (by rfl) i
      · intro p hp
        have:p∈[20]:=hp
        simp at this
        subst this
        exact(by decide:20 < 45)
      · exact λe b' h=>.inl h.1
      · intro e b' h
        obtain⟨rfl,rfl⟩:=h
        refine J2.step rfl (J2.nil ?_)
        show YT _ _ _ _ _ _ _
        refine YT.cond (b:=false) rfl (YT.skip ?_)
        show YT _ _ _ _ _ _ _
        refine YT.DB (st':=((mN u l v2 s i).D 20).st) (W0 (mN u l v2 s i) (by rfl) rfl ⟨by rfl,by rfl⟩) ?_
        refine YT.piece (Qm7 u l v2 s i) Q8 rfl (by rfl) λq g=>?_
        exact⟨m,Nat.lt_succ_self m,rfl,(v2,Q0 (i - 1)),g,hit⟩
def NF(u:Q6)(y:Y6)(s:za):Ext:=Ext.of .normal [(5,.ptr 5 0 0),(6,.ptr 6 0 0),(19,.fn 221 [] [.ptr 700070 0 0])] [(5,⟨5,true,[(I9 u)]⟩),(6,⟨25,true,[(aB y)]⟩),(700070,⟨1,true,[[.str s]]⟩)] [] (by rfl)
def ReE(u:Q6):(Y6)->Ext
 | r=>Ext.of .normal [(5,.ptr 5 0 0),(6,.ptr 6 0 0)] [(5,⟨5,true,[(I9 u)]⟩),(6,⟨25,true,[(aB r)]⟩)] [] (by rfl)
theorem bRe(u:Q6)(y:Y6)(s:za):Zz (Qe (NF u y s).bs)=Qe (kS u y s):=by
 rw[Ue]
 have:((NF u y s).bs.map λp=>(sh p.1,p.2.Qc sh))=kS u y s:=by kernel_rfl
 rw[this]
theorem cQ(u:Q6)(y:Y6)(s:za){r:Y6}(h:mRe u y s=some r) :
  TV Tryz.prog GG (.rangeFunc (.tmp 19) #[20] kB (A6 Tn)) ((NF u y s).D 45).st (λe st=>e=(ReE u r).ex/\QH GG st ((ReE u r).D 45).st):=by
 have ht:(λi=>H8 sh (((NF u y s).D 45).st.t i))=Zm Ff:=by
  have:((NF u y s).D 45).st.t=Zm (NF u y s).ts:=rfl
  rw[this,C4]
  have:((NF u y s).ts.map λp=>(p.1,H8 sh p.2))=Ff:=by kernel_rfl
  rw[this]
 have hb:Tryz.f221.body=some vG:=by kernel_rfl
 refine TV.XD (f:=221) (fi:=Tryz.f221) (c:=vG) (first:=[]) (caps:=[.ptr 1700070 0 0]) (R:=λe bw=>e=.normal/\bw=Qe (kS u r s)) ?_ Tryz.func221 hb (by kernel_rfl) (by kernel_rfl) ?_ (λi=>?_) ?_ ?_
 ·show some ((λi=>H8 sh (((NF u y s).D 45).st.t i)) 19)=_
  rw[ht];rfl
 ·intro bq k hk
  obtain⟨q,h1,rfl,_⟩:=ZL (show Qe (NF u y s).bs bq=some k from hk)
  show ((((NF u y s).us).contains q.1 || Qk q.1))=true
  simp only[Ext.us,zU,zZ,zC]
  exact .inl (zH.2 ⟨q,h1,rfl⟩)
 ·have:=congrFun ht i
  rw[show H8 sh (((NF u y s).D 45).st.t i)=Zm Ff i from this]
  exact O8 (by rfl) i
 ·have hbb:Zz ((NF u y s).D 45).st.b=Qe (kS u y s):=bRe u y s
  rw[ht,hbb]
  have e:max Tryz.f221.ntmps (([]:List V).length+1+[V.ptr 1700070 0 0].length)=20:=by kernel_rfl
  rw[e]
  exact cM u y s h
 ·intro e b' ho
  obtain⟨rfl,rfl⟩:=ho
  refine⟨.inl rfl,Qe (NF u r s).bs,(bRe u r s).symm,?_,rfl,?_⟩
  ·exact V3 (ts:=(NF u y s).ts) (bs:=(NF u r s).bs) (us:=(NF u y s).us) (by rfl) (by rfl)
  ·exact W0 (ReE u r) (by rfl) rfl ⟨by rfl,by rfl⟩
def Qqi(u:Q6)(y:Y6)(s:za):Sub Tryz.prog GG (Y6):=
 ⟨.rangeFunc (.tmp 19) #[20] kB (A6 Tn),45,NF u y s,mRe u y s,ReE u ,λ_ h=>cQ u y s h⟩
def Qk8(p0:za):Sp (Unit):=.ZR 180 [] Q8 Tryz.func180 rfl (λ_=>rfl) (show WE Pg GG [0,1,2] Tryz.f180 [.str p0] (Ext.of .normal (H3 [.str p0]) [] [] (by rfl)) (.done ():TT (Unit)) (λ(r:Unit)=>.fn 221 [] [.ptr 1 0 0]) (λ(r:Unit)=>Ext.of .normal [] [(1,⟨1,true,[[.str p0]]⟩)] [] (by rfl)) by unfold WE;kernel_rfl)
def jP(p0 p1:za):TT (za):=.cl 1002 (dW p1) λr281=>.cl 3002 (rD p0) λr282=>.call 3003 (Qk8 r282) [] [(1,500009)] λr283=>.gh 1 (.Qc 500009 700070) (.sub (Qqi r281 (Y6.mk (Kj.mk (Q6.mk 1 0 0 0 0) (Q6.mk 0 0 0 0 0)) (Kj.mk r281 (Q6.mk 1 0 0 0 0)) r281) r282) λr284=>.cl 10007 (rE r284.fT.Qv) λr285=>.cl 10008 (Kn r284.fT.ZC r285) λr286=>.cl 10009 (rM r286) λr287=>.done r287)
def Lj(p0 p1:za):Sp (za):=oF [0,1,4,5,6,7,19,20,21,29] Tryz.func123 [.str p0,.str p1] (jP p0 p1) (λr=>.str r)
def g67(p0:za):TT (za×Int):=.br 0 ((p0.size:Int) != 32) (.done (zd,2)) (.Qy 3002 (Qw.KX (ty:=Z9) 188 4 (X9 (λ_=>0))) λ_=>.Qy 3003 (Qw.Km (ty:=Z9) 188 (.tmp 4) (.tmp 8) 4 ⟨1,true,(List.map Z9.c (X9 (λ_=>0)))⟩ (.agg (H0 [.int .u8 9] (M5 31 (.int .u8 0) []))) (X9 (U5 (λ_=>0) 0 9))) λ_=>.Qy 4002 (Qw.Qhx (e:=5) 188 (.tmp 4) 10 4 ⟨1,true,(List.map Z9.c (X9 (U5 (λ_=>0) 0 9)))⟩ 32) λ_=>.Qy 4003 (Qw.Zi (ty:=Z9) (s:=57) (t:=9) (e:=5) (.tmp 10) 11 4 (X9 (U5 (λ_=>0) 0 9)) 32 (hn:=(by rfl))) λ_=>.cl 4004 (Lj p0 (strOfNums (X9 (U5 (λ_=>0) 0 9)))) λr288=>.done (r288,0))
def s67(p0:za):Sp (za×Int):=oF [0,2,3,4,7] Tryz.func67 [.str p0] (g67 p0) (λr=>.Qt [.str r.1,.i r.2])
def Qym(p0 p1:za):TT (za×Int):=.QD 1 [14] (.oR 1005 ((p0.size:Int) != 32) (.done ((p1.size:Int) != 32))) zi λc289=>.br 0 c289 (.done (zd,2)) (.cl 3003 (Lj p0 p1) λr290=>.fact ((Q3 r290)=X9 (Ze r290)) inferInstance λh291=>.Qy 4002 (Qw.octets (ty:=Z9) (s:=9) (t:=57) (e:=5) (.tmp 18) 19 r290) λ_=>.Qy 4003 (Qw.gY (e:=5) 188 (.tmp 19) 20 19 ⟨1,true,(List.map Z9.c (Q3 r290))⟩ 32 ((Q3 r290).length)) λ_=>.Qy 4004 (Qw.EB 188 (.tmp 20) 21 19 ⟨1,true,(List.map Z9.c (Q3 r290))⟩ (.agg (TN (Ze r290))) (show 1 < Y8 by decide) (by rw[h291];kernel_rfl)) λ_=>.br 0 ((((Ze r290) 0)==0)&&((((Ze r290) 1)==0)&&((((Ze r290) 2)==0)&&((((Ze r290) 3)==0)&&((((Ze r290) 4)==0)&&((((Ze r290) 5)==0)&&((((Ze r290) 6)==0)&&((((Ze r290) 7)==0)&&((((Ze r290) 8)==0)&&((((Ze r290) 9)==0)&&((((Ze r290) 10)==0)&&((((Ze r290) 11)==0)&&((((Ze r290) 12)==0)&&((((Ze r290) 13)==0)&&((((Ze r290) 14)==0)&&((((Ze r290) 15)==0)&&((((Ze r290) 16)==0)&&((((Ze r290) 17)==0)&&((((Ze r290) 18)==0)&&((((Ze r290) 19)==0)&&((((Ze r290) 20)==0)&&((((Ze r290) 21)==0)&&((((Ze r290) 22)==0)&&((((Ze r290) 23)==0)&&((((Ze r290) 24)==0)&&((((Ze r290) 25)==0)&&((((Ze r290) 26)==0)&&((((Ze r290) 27)==0)&&((((Ze r290) 28)==0)&&((((Ze r290) 29)==0)&&((((Ze r290) 30)==0)&&((((Ze r290) 31)==0)&&true)))))))))))))))))))))))))))))))) (.done (zd,2)) (.done (r290,0)))
def nA(p0 p1:za):Sp (za×Int):=oF [0,1,4,5,6,14,23] Tryz.func252 [.str p0,.str p1] (Qym p0 p1) (λr=>.Qt [.str r.1,.i r.2])
end Go.Proofs.YtjdieimefebnfaaGreatDoor
