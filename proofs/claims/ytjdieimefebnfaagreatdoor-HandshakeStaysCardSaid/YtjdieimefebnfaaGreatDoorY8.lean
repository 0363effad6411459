/- Part Y8. -/
import Derived.Test.YtjdieimefebnfaaGreatDoorY7
import Derived.Test.YtjdieimefebnfaaGreatDoorProg
import Derived.Shelf.Strconv.Clone
set_option linter.unusedVariables false
set_option linter.unusedSimpArgs false
set_option maxRecDepth 100000
noncomputable section
abbrev Prod.q{A B C D E:Type}(x:A×B×C×D×E):E:=x.2.2.2.2
theorem And.q{a b c d e:Prop}(h:a/\b/\c/\d/\e):e:=h.2.2.2.2
namespace Go.EV
open Go
abbrev Sl{α:Type}(n:Nat)(t:Ty α)(l:List α):V:=.sl false n (l.map t.c)
abbrev Rf{α:Type}(b:Nat)(l:List α):V:=.ref b 0 l.length
abbrev Bt{α:Type}(b:Nat)(t:Ty α)(n:Nat)(l:List α):BT:=BT.of b t n l true
abbrev bD(a b:Int):Bool:=decide (0<=a)&&decide (a < b)
abbrev V.i(n:Int):V:=.int .i64 n
end Go.EV
namespace Go.Proofs.YtjdieimefebnfaaGreatDoor
open Go Go.EV
def GG:zi:=λ_=>none
abbrev TT:=T Tryz.prog GG
abbrev Sp:=EV.Spec Tryz.prog GG
abbrev Pg:=Tryz.prog
abbrev zE:=1000000
abbrev zU:=1000001
abbrev zX:=660000
abbrev wg:=1000002
abbrev wi:=600008
def H4(a b:List V):List V:=a++b
def Du(w:Int×Int×Int×Int×Int×Int×Int×Int):List V:=[.int .u32 w.1,.int .u32 w.2.1,.int .u32 w.2.2.1,.int .u32 w.2.2.2.1,.int .u32 w.q.1,.int .u32 w.q.2.1,.int .u32 w.q.2.2.1,.int .u32 w.q.2.2.2]
def Ra{α:Type}(w:Int×Int×Int×Int×Int×Int×Int×Int×α):List V:=[.int .u32 w.1,.int .u32 w.2.1,.int .u32 w.2.2.1,.int .u32 w.2.2.2.1,.int .u32 w.q.1,.int .u32 w.q.2.1,.int .u32 w.q.2.2.1,.int .u32 w.q.2.2.2.1]
def X9(n:Nat)(v:V)(l:List V):List V:=List.replicate n v++l
theorem Q9:Tryz.prog.follows .mixedOrders=true:=by kernel_rfl
def oF(kp:List Nat){f:FuncId}{fn:Func}(hf:Pg.funcs[f]?=some fn)(a:List V){ρ:Type}(g:T Pg GG ρ)(r:ρ->V)(k:oW Pg GG kp fn a g r:=by unfold oW;kernel_rfl):EV.Spec Pg GG ρ:=.ofFn f Q9 hf k
abbrev _root_.Go.EV.T.cl{P:Program}{G:Nat->Option (List V)}{ρ α:Type}(a:Nat)(s:EV.Spec P G α)(k:α->T P G ρ):T P G ρ:=.call a s [] [] k
abbrev _root_.Go.EV.T.an{P:Program}{G:Nat->Option (List V)}(a:Nat)(c:Bool)(x:T P G Bool):T P G Bool:=.br a c x (.done false)
abbrev _root_.Go.EV.T.oR{P:Program}{G:Nat->Option (List V)}(a:Nat)(c:Bool)(x:T P G Bool):T P G Bool:=.br a c (.done true) x
def J0:List Int:=[1116352408,1899447441,3049323471,3921009573,961987163,1508970993,2453635748,2870763221,3624381080,310598401,607225278,1426881987,1925078388,2162078206,2614888103,3248222580,3835390401,4022224774,264347078,604807628,770255983,1249150122,1555081692,1996064986,2554220882,2821834349,2952996808,3210313671,3336571891,3584528711,113926993,338241895,666307205,773529912,1294757372,1396182291,1695183700,1986661051,2177026350,2456956037,2730485921,2820302411,3259730800,3345764771,3516065817,3600352804,4094571909,275423344,430227734,506948616,659060556,883997877,958139571,1322822218,1537002063,1747873779,1955562222,2024104815,2227730452,2361852424,2428436474,2756734187,3204031479,3329325298]
def M5:List V:=[.int .u32 1116352408,.int .u32 1899447441,.int .u32 3049323471,.int .u32 3921009573,.int .u32 961987163,.int .u32 1508970993,.int .u32 2453635748,.int .u32 2870763221,.int .u32 3624381080,.int .u32 310598401,.int .u32 607225278,.int .u32 1426881987,.int .u32 1925078388,.int .u32 2162078206,.int .u32 2614888103,.int .u32 3248222580,.int .u32 3835390401,.int .u32 4022224774,.int .u32 264347078,.int .u32 604807628,.int .u32 770255983,.int .u32 1249150122,.int .u32 1555081692,.int .u32 1996064986,.int .u32 2554220882,.int .u32 2821834349,.int .u32 2952996808,.int .u32 3210313671,.int .u32 3336571891,.int .u32 3584528711,.int .u32 113926993,.int .u32 338241895,.int .u32 666307205,.int .u32 773529912,.int .u32 1294757372,.int .u32 1396182291,.int .u32 1695183700,.int .u32 1986661051,.int .u32 2177026350,.int .u32 2456956037,.int .u32 2730485921,.int .u32 2820302411,.int .u32 3259730800,.int .u32 3345764771,.int .u32 3516065817,.int .u32 3600352804,.int .u32 4094571909,.int .u32 275423344,.int .u32 430227734,.int .u32 506948616,.int .u32 659060556,.int .u32 883997877,.int .u32 958139571,.int .u32 1322822218,.int .u32 1537002063,.int .u32 1747873779,.int .u32 1955562222,.int .u32 2024104815,.int .u32 2227730452,.int .u32 2361852424,.int .u32 2428436474,.int .u32 2756734187,.int .u32 3204031479,.int .u32 3329325298]
def adc(ox oy oc:Operand)(d:Nat)(x y c:Int):Qw Tryz.prog GG (Int×Int):=.Qxa 134 ox oy oc #[137,137,137] d x y c Tryz.func134 (by kernel_rfl) (by kernel_rfl) (by kernel_rfl) (by kernel_rfl)
def Y9:Ty Int:=⟨λx=>[.int .u32 x],λx=>[.int .u32 x],λ_=>rfl,λ_=>rfl,λ_ _=>rfl,λ_=>rfl⟩
def g98(p0 p1:Int):TT (Int×Int):=.done ((Z1 ((Z1 ((Z1 ((Z3 .u64 p0 32) * (Z3 .u64 p1 32)))+(Z3 .u64 (Z1 ((Z1 ((Z3 .u64 p0 32) * (U0 .u64 p1 4294967295)))+(Z3 .u64 (Z1 ((U0 .u64 p0 4294967295) * (U0 .u64 p1 4294967295))) 32))) 32)))+(Z3 .u64 (Z1 ((U0 .u64 (Z1 ((Z1 ((Z3 .u64 p0 32) * (U0 .u64 p1 4294967295)))+(Z3 .u64 (Z1 ((U0 .u64 p0 4294967295) * (U0 .u64 p1 4294967295))) 32))) 4294967295)+(Z1 ((U0 .u64 p0 4294967295) * (Z3 .u64 p1 32))))) 32))),(Z1 (p0 * p1)))
def HC(p0 p1:Int):Sp (Int×Int):=oF [0,1,4,5,6,7,8,9,10,11,12,13] Tryz.func98 [.int .u64 p0,.int .u64 p1] (g98 p0 p1) (λr=>.Qt [.int .u64 r.1,.int .u64 r.2])
def Qxl(p0 p1:Int):Sp (Bool):=oF [0,1,3,4,5,6,7,8] Tryz.func248 [.int .u64 p0,.snap [.int .u64 p1]] (.cl 1003 (HC p0 p0) λr1=>.cl 2003 (HC r1.2 p0) λr2=>.QV 4 [3] (.oR 4006 (decide ((Z1 ((Z1 (r1.1 * p0))+r2.1)) < (M6 .u64 p1 32))) (.an 4011 ((Z1 ((Z1 (r1.1 * p0))+r2.1))==(M6 .u64 p1 32)) (.done (r2.2==0)))) zm λc3=>.done c3:TT (Bool)) (λr=>.bool r)
def Qxf(p0:Int):Sp (Int):=oF [0,2,3,4,6,13] Tryz.func247 [.fn 248 [] [.snap [.int .u64 p0]]] (.bind 1 (.lp (λ(l3:Int×Int)=>Ext.l .normal [(0,.fn 248 [] [.snap [.int .u64 p0]]),(2,.int .u32 0),(3,.int .u64 l3.1),(4,.int .u64 l3.2)] []) (λl3=>.br 0 (decide ((0:Int) < l3.2)) (.cl 5005 (Qxl (Zl .u64 l3.1 l3.2) p0) λr4=>.br 0 r4 (.done (.inl ((Zl .u64 l3.1 l3.2),(Z3 .u64 l3.2 1)))) (.done (.inl (l3.1,(Z3 .u64 l3.2 1))))) (.done (.inr l3.1))) (0,68719476736)) (λ(e5:Int)=>Ext.l (.exit 0) [(2,.int .u32 0),(3,.int .u64 e5)] []) (λe5=>.done (O1 (U0 .u64 e5 4294967295))):TT (Int)) (λr=>.int .u32 r)
def Qxo(p0 p1:Int):Sp (Bool):=oF [0,1,3,4,5] Tryz.func249 [.int .u64 p0,.snap [.int .u64 p1]] (.cl 1003 (HC p0 p0) λr8=>.QV 2 [3] (.oR 2005 (decide (r8.1 < p1)) (.an 2009 (r8.1==p1) (.done (r8.2==0)))) zm λc9=>.done c9:TT (Bool)) (λr=>.bool r)
def tF(p0:Int):Sp (Int):=oF [0,2,3,4,6,13] Tryz.func247 [.fn 249 [] [.snap [.int .u64 p0]]] (.bind 1 (.lp (λ(l10:Int×Int)=>Ext.l .normal [(0,.fn 249 [] [.snap [.int .u64 p0]]),(2,.int .u32 0),(3,.int .u64 l10.1),(4,.int .u64 l10.2)] []) (λl10=>.br 0 (decide ((0:Int) < l10.2)) (.cl 5005 (Qxo (Zl .u64 l10.1 l10.2) p0) λr11=>.br 0 r11 (.done (.inl ((Zl .u64 l10.1 l10.2),(Z3 .u64 l10.2 1)))) (.done (.inl (l10.1,(Z3 .u64 l10.2 1))))) (.done (.inr l10.1))) (0,68719476736)) (λ(e12:Int)=>Ext.l (.exit 0) [(2,.int .u32 0),(3,.int .u64 e12)] []) (λe12=>.done (O1 (U0 .u64 e12 4294967295))):TT (Int)) (λr=>.int .u32 r)
def Qm5 :TT (Int×Int×Int×Int×Int×Int×Int×Int):=.Qz 2 (Qw.Mp (ty:=Y9) 213 1 (List.replicate 64 (0:Int))) λ_=>.bind 1 (.lp (λ(l14:Int×Int×Int×Int×Int×Int×Int×Int×(List Int)×Int×Int)=>Ext.of .normal [(0,.ptr 0 0 0),(1,.ptr 1 0 0),(2,.i l14.q.q.2.2),(3,.ptr 3 0 0)] [(0,⟨8,true,[(Ra l14)]⟩),(3,⟨1,true,[[.int .u64 l14.q.q.2.1]]⟩)] [Bt 1 Y9 1 l14.q.q.1] (by rfl)) (λl14=>.br 0 (decide (l14.q.q.2.2 < 64)) (.bind 0 (.bind 2 (.lp (λ(l16:Bool×Int)=>Ext.of .normal [(0,.ptr 0 0 0),(1,.ptr 1 0 0),(2,.i l14.q.q.2.2),(3,.ptr 3 0 0),(4,.bool l16.1),(5,.int .u64 l16.2)] [(0,⟨8,true,[(Ra l14)]⟩),(3,⟨1,true,[[.int .u64 l14.q.q.2.1]]⟩)] [Bt 1 Y9 1 l14.q.q.1] (by rfl)) (λl16=>.br 0 (decide ((Z1 (l16.2 * l16.2))<=l14.q.q.2.1)) (.QV 9 [4] (.an 9003 l16.1 (.Qf 9005 (!(l16.2==0)) (.done ((Int.tmod l14.q.q.2.1 l16.2) != 0)))) zm λc17=>.done (.inl (c17,(Z1 (l16.2+1))))) (.done (.inr l16.1))) (true,2)) (λ(e18:Bool)=>Ext.of (.exit 2) [(0,.ptr 0 0 0),(1,.ptr 1 0 0),(2,.i l14.q.q.2.2),(3,.ptr 3 0 0),(4,.bool e18)] [(0,⟨8,true,[(Ra l14)]⟩),(3,⟨1,true,[[.int .u64 l14.q.q.2.1]]⟩)] [Bt 1 Y9 1 l14.q.q.1] (by rfl)) (λe18=>.br 0 (!e18) (.done (l14.1,l14.2.1,l14.2.2.1,l14.2.2.2.1,l14.q.1,l14.q.2.1,l14.q.2.2.1,l14.q.2.2.2.1,l14.q.q.1,l14.q.q.2.2)) (.view 11003 (Qxf l14.q.q.2.1) [] λr19=>.Qz 11004 (Qw.Yi (e:=163) 213 (.tmp 1) (.tmp 26) 29 1 ⟨1,true,(List.map Y9.c l14.q.q.1)⟩ 0 .i64 l14.q.q.2.2 64) λ_=>.row 11005 Y9 l14.q.q.1 (0+l14.q.q.2.2.toNat) true λx20=>.re 11005 (Jd.put 1 1 Y9 l14.q.q.1 (0+l14.q.q.2.2.toNat) r19) (.br 0 (decide (l14.q.q.2.2 < 8)) (.view 13003 (tF l14.q.q.2.1) [] λr21=>.HU 13004 l14.q.q.2.2 [0,1,2,3,4,5,6,7] (λv=>bif v==0 then .done (r21,l14.2.1,l14.2.2.1,l14.2.2.2.1,l14.q.1,l14.q.2.1,l14.q.2.2.1,l14.q.2.2.2.1,(l14.q.q.1.set (0+l14.q.q.2.2.toNat) r19),(Q0 (l14.q.q.2.2+1))) else bif v==1 then .done (l14.1,r21,l14.2.2.1,l14.2.2.2.1,l14.q.1,l14.q.2.1,l14.q.2.2.1,l14.q.2.2.2.1,(l14.q.q.1.set (0+l14.q.q.2.2.toNat) r19),(Q0 (l14.q.q.2.2+1))) else bif v==2 then .done (l14.1,l14.2.1,r21,l14.2.2.2.1,l14.q.1,l14.q.2.1,l14.q.2.2.1,l14.q.2.2.2.1,(l14.q.q.1.set (0+l14.q.q.2.2.toNat) r19),(Q0 (l14.q.q.2.2+1))) else bif v==3 then .done (l14.1,l14.2.1,l14.2.2.1,r21,l14.q.1,l14.q.2.1,l14.q.2.2.1,l14.q.2.2.2.1,(l14.q.q.1.set (0+l14.q.q.2.2.toNat) r19),(Q0 (l14.q.q.2.2+1))) else bif v==4 then .done (l14.1,l14.2.1,l14.2.2.1,l14.2.2.2.1,r21,l14.q.2.1,l14.q.2.2.1,l14.q.2.2.2.1,(l14.q.q.1.set (0+l14.q.q.2.2.toNat) r19),(Q0 (l14.q.q.2.2+1))) else bif v==5 then .done (l14.1,l14.2.1,l14.2.2.1,l14.2.2.2.1,l14.q.1,r21,l14.q.2.2.1,l14.q.2.2.2.1,(l14.q.q.1.set (0+l14.q.q.2.2.toNat) r19),(Q0 (l14.q.q.2.2+1))) else bif v==6 then .done (l14.1,l14.2.1,l14.2.2.1,l14.2.2.2.1,l14.q.1,l14.q.2.1,r21,l14.q.2.2.2.1,(l14.q.q.1.set (0+l14.q.q.2.2.toNat) r19),(Q0 (l14.q.q.2.2+1))) else bif v==7 then .done (l14.1,l14.2.1,l14.2.2.1,l14.2.2.2.1,l14.q.1,l14.q.2.1,l14.q.2.2.1,r21,(l14.q.q.1.set (0+l14.q.q.2.2.toNat) r19),(Q0 (l14.q.q.2.2+1))) else .fail)) (.done (l14.1,l14.2.1,l14.2.2.1,l14.2.2.2.1,l14.q.1,l14.q.2.1,l14.q.2.2.1,l14.q.2.2.2.1,(l14.q.q.1.set (0+l14.q.q.2.2.toNat) r19),(Q0 (l14.q.q.2.2+1)))))))) (λ(e22:Int×Int×Int×Int×Int×Int×Int×Int×(List Int)×Int)=>Ext.of .normal [(0,.ptr 0 0 0),(1,.ptr 1 0 0),(2,.i e22.q.q.2),(3,.ptr 3 0 0)] [(0,⟨8,true,[(Ra e22)]⟩),(3,⟨1,true,[[.int .u64 l14.q.q.2.1]]⟩)] [Bt 1 Y9 1 e22.q.q.1] (by rfl)) (λe22=>.gh 18 (.drop [3]) (.done (.inl (e22.1,e22.2.1,e22.2.2.1,e22.2.2.2.1,e22.q.1,e22.q.2.1,e22.q.2.2.1,e22.q.2.2.2.1,e22.q.q.1,(Z1 (l14.q.q.2.1+1)),e22.q.q.2))))) (.done (.inr (l14.q.q.1,l14.1,l14.2.1,l14.2.2.1,l14.2.2.2.1,l14.q.1,l14.q.2.1,l14.q.2.2.1,l14.q.2.2.2.1)))) (0,0,0,0,0,0,0,0,(List.replicate 64 (0:Int)),2,0)) (λ(e23:(List Int)×Int×Int×Int×Int×Int×Int×Int×Int)=>Ext.of (.exit 0) [(0,.ptr 0 0 0),(1,.ptr 1 0 0)] [(0,⟨8,true,[(Du e23.2)]⟩)] [Bt 1 Y9 1 e23.1] (by rfl)) (λe23=>.fact (e23.1=J0) inferInstance λh24=>.Qz 17002 (Qw.DR 213 (.tmp 1) 40 1 ⟨1,true,(List.map Y9.c e23.1)⟩ (.agg M5) (show 1 < Y8 by decide) (by rw[h24];kernel_rfl)) λ_=>.Qz 17004 (Qw.KN (ty:=Y9) 213 (.tmp 1) (.tmp 40) 1 ⟨1,true,(List.map Y9.c e23.1)⟩ (.agg M5) J0 (λ_=>rfl) (show 1 < Y8 by decide) rfl rfl (by rw[wG,h24]) (by kernel_rfl) (by kernel_rfl)) λ_=>.done (e23.2.1,e23.2.2.1,e23.2.2.2.1,e23.q.1,e23.q.2.1,e23.q.2.2.1,e23.q.2.2.2.1,e23.q.q))
theorem Qk2 :Jx Tryz.prog GG [0,1,2,3,4,5,7,14,25,31,38] Tryz.f207 [] (Ext.of .normal (U5 []) [] [] (by rfl)) (Qm5) (λ(r:Int×Int×Int×Int×Int×Int×Int×Int)=>.Qt [.agg (Du r),.agg M5]) (λ(r:Int×Int×Int×Int×Int×Int×Int×Int)=>Ext.of .normal [] [] [] (by rfl)):=by unfold Jx;kernel_rfl
def Qhp :Sp (Int×Int×Int×Int×Int×Int×Int×Int):=.Ze 207 [] Q9 Tryz.func207 rfl (λ_=>rfl) (Qk2)
def Qms :TT (Int×Int×Int×Int×Int×Int×Int×Int):=.cl 1001 Qhp λr25=>.Qz 1006 (Qw.Mp (ty:=Y9) 213 2 (List.replicate 64 (0:Int))) λ_=>.Qz 1008 (Qw.KN (ty:=Y9) 213 (.tmp 2) (.tmp 6) 2 ⟨1,true,(List.map Y9.c (List.replicate 64 (0:Int)))⟩ (.agg M5) J0 (λ_=>rfl) (show 1 < Y8 by decide) rfl rfl (by kernel_rfl) (by kernel_rfl) (by kernel_rfl)) λ_=>.Qz 2002 (Qw.DR 213 (.tmp 2) 8 2 ⟨1,true,(List.map Y9.c J0)⟩ (.agg M5)) λ_=>.done (r25.1,r25.2.1,r25.2.2.1,r25.2.2.2.1,r25.q.1,r25.q.2.1,r25.q.2.2.1,r25.q.2.2.2)
theorem Qk3 :Jx Tryz.prog GG [0,1,2] Tryz.f154 [] (Ext.of .normal (U5 []) [] [] (by rfl)) (Qms) (λ(r:Int×Int×Int×Int×Int×Int×Int×Int)=>.agg ((Du r)++M5)) (λ(r:Int×Int×Int×Int×Int×Int×Int×Int)=>Ext.of .normal [] [] [] (by rfl)):=by unfold Jx;kernel_rfl
def lX :Sp (Int×Int×Int×Int×Int×Int×Int×Int):=.Ze 154 [] Q9 Tryz.func154 rfl (λ_=>rfl) (Qk3)
def Ag(p0 p1:Int):Sp (Int):=oF [0,1,4,5] Tryz.func261 [.int .u32 p0,.i p1] (.Qf 2003 (decide ((0:Int)<=(U0 .u64 (Z1 p1) 31))) (.Qf 2007 (decide ((0:Int)<=(Z1 ((32:Int) - (U0 .u64 (Z1 p1) 31))))) (.done (Zl .u32 (M6 .u32 p0 (U0 .u64 (Z1 p1) 31)) (Z3 .u32 p0 (Z1 ((32:Int) - (U0 .u64 (Z1 p1) 31))))))):TT (Int)) (λr=>.int .u32 r)
abbrev W8:=Int×Int×Int×Int×Int×Int×Int×Int
def Bl(w:W8)(tl:ze)(ct:Int)(s:ze)(rest:ze):TT (Int×Int×Int×Int×Int×Int×Int×Int):=
 .Qz 3001 (Qw.Mp (ty:=Y9) 213 7 (List.replicate 64 (0:Int))) λ_=>
 .bind 1
 (.lp (λ(l28:(List Int)×Int)=>Ext.of .normal [(3,.ptr 1000003 0 0),(5,.ptr 1000005 0 0),(6,.str s),(7,.ptr 7 0 0),(22,.i l28.2)] [(1000003,⟨1,true,[[.ptr 2000000 0 0]]⟩),(1700070,⟨1,true,[[.str rest]]⟩),(2000000,⟨10,true,[(H4 (Du w) [.str tl,.i ct])]⟩)] [BT.of 7 Y9 1 l28.1 true,BT.of 1000005 Y9 1 J0 true] (by rfl))
  (λl28=>
   .br 0 (decide (l28.2 < 64))
   (.br 0 (decide (l28.2 < 16))
    (.Qf 8007 ((decide (0<=(Q0 ((Q0 ((4:Int) * l28.2))+4)))&&decide ((Q0 ((Q0 ((4:Int) * l28.2))+4))<=(s.size:Int)))&&(decide (0<=(Q0 ((4:Int) * l28.2)))&&decide ((Q0 ((4:Int) * l28.2))<=((Q0 ((Q0 ((4:Int) * l28.2))+4)).toNat:Int)))) (.Qf 9003 (decide (0<=(0:Int)/\(0:Int) < ((s.extract ((Q0 ((4:Int) * l28.2)).toNat) ((Q0 ((Q0 ((4:Int) * l28.2))+4)).toNat)).size:Int))) (.Qf 9007 (decide (0<=(1:Int)/\(1:Int) < ((s.extract ((Q0 ((4:Int) * l28.2)).toNat) ((Q0 ((Q0 ((4:Int) * l28.2))+4)).toNat)).size:Int))) (.Qf 9012 (decide (0<=(2:Int)/\(2:Int) < ((s.extract ((Q0 ((4:Int) * l28.2)).toNat) ((Q0 ((Q0 ((4:Int) * l28.2))+4)).toNat)).size:Int))) (.Qf 9017 (decide (0<=(3:Int)/\(3:Int) < ((s.extract ((Q0 ((4:Int) * l28.2)).toNat) ((Q0 ((Q0 ((4:Int) * l28.2))+4)).toNat)).size:Int))) (.Qz 9020 (Qw.Yi (e:=163) 213 (.tmp 7) (.tmp 34) 53 7 ⟨1,true,(List.map Y9.c l28.1)⟩ 0 .i64 l28.2 64) λ_=>
     .row 9021 Y9 l28.1 (0+l28.2.toNat) true λx29=>
     .re 9021 (Jd.put 7 1 Y9 l28.1 (0+l28.2.toNat) (Zl .u32 (Zl .u32 (Zl .u32 (M6 .u32 (O1 (QZ (s.extract ((Q0 ((4:Int) * l28.2)).toNat) ((Q0 ((Q0 ((4:Int) * l28.2))+4)).toNat)) 0)) 24) (M6 .u32 (O1 (QZ (s.extract ((Q0 ((4:Int) * l28.2)).toNat) ((Q0 ((Q0 ((4:Int) * l28.2))+4)).toNat)) 1)) 16)) (M6 .u32 (O1 (QZ (s.extract ((Q0 ((4:Int) * l28.2)).toNat) ((Q0 ((Q0 ((4:Int) * l28.2))+4)).toNat)) 2)) 8)) (O1 (QZ (s.extract ((Q0 ((4:Int) * l28.2)).toNat) ((Q0 ((Q0 ((4:Int) * l28.2))+4)).toNat)) 3)))) (.done (.inl ((l28.1.set (0+l28.2.toNat) (Zl .u32 (Zl .u32 (Zl .u32 (M6 .u32 (O1 (QZ (s.extract ((Q0 ((4:Int) * l28.2)).toNat) ((Q0 ((Q0 ((4:Int) * l28.2))+4)).toNat)) 0)) 24) (M6 .u32 (O1 (QZ (s.extract ((Q0 ((4:Int) * l28.2)).toNat) ((Q0 ((Q0 ((4:Int) * l28.2))+4)).toNat)) 1)) 16)) (M6 .u32 (O1 (QZ (s.extract ((Q0 ((4:Int) * l28.2)).toNat) ((Q0 ((Q0 ((4:Int) * l28.2))+4)).toNat)) 2)) 8)) (O1 (QZ (s.extract ((Q0 ((4:Int) * l28.2)).toNat) ((Q0 ((Q0 ((4:Int) * l28.2))+4)).toNat)) 3)))),(Q0 (l28.2+1)))))))))))
    (.Qz 10003 (Qw.Yi (e:=163) 213 (.tmp 7) (.tmp 55) 56 7 ⟨1,true,(List.map Y9.c l28.1)⟩ 0 .i64 (Q0 (l28.2 - 15)) 64) λ_=>
     .row 10004 Y9 l28.1 (0+(Q0 (l28.2 - 15)).toNat) true λx30=>
     .Qz 10007 (Qw.Yi (e:=163) 213 (.tmp 7) (.tmp 59) 60 7 ⟨1,true,(List.map Y9.c l28.1)⟩ 0 .i64 (Q0 (l28.2 - 2)) 64) λ_=>
     .row 10008 Y9 l28.1 (0+(Q0 (l28.2 - 2)).toNat) true λx31=>
     .Qz 11004 (Qw.Yi (e:=163) 213 (.tmp 7) (.tmp 64) 65 7 ⟨1,true,(List.map Y9.c l28.1)⟩ 0 .i64 (Q0 (l28.2 - 16)) 64) λ_=>
     .row 11005 Y9 l28.1 (0+(Q0 (l28.2 - 16)).toNat) true λx32=>
     .Qz 11008 (Qw.Yi (e:=163) 213 (.tmp 7) (.tmp 68) 69 7 ⟨1,true,(List.map Y9.c l28.1)⟩ 0 .i64 (Q0 (l28.2 - 7)) 64) λ_=>
     .row 11009 Y9 l28.1 (0+(Q0 (l28.2 - 7)).toNat) true λx33=>
     .cl 11012 (Ag x30 (-7)) λr34=>
     .cl 11014 (Ag x30 (-18)) λr35=>
     .cl 11021 (Ag x31 (-17)) λr36=>
     .cl 11023 (Ag x31 (-19)) λr37=>
     .Qz 11029 (Qw.Yi (e:=163) 213 (.tmp 7) (.tmp 62) 90 7 ⟨1,true,(List.map Y9.c l28.1)⟩ 0 .i64 l28.2 64) λ_=>
     .row 11030 Y9 l28.1 (0+l28.2.toNat) true λx38=>
     .re 11030 (Jd.put 7 1 Y9 l28.1 (0+l28.2.toNat) (O1 ((O1 ((O1 (x32+x33))+(T5 .u32 (T5 .u32 r34 r35) (Z3 .u32 x30 3))))+(T5 .u32 (T5 .u32 r36 r37) (Z3 .u32 x31 10))))) (.done (.inl ((l28.1.set (0+l28.2.toNat) (O1 ((O1 ((O1 (x32+x33))+(T5 .u32 (T5 .u32 r34 r35) (Z3 .u32 x30 3))))+(T5 .u32 (T5 .u32 r36 r37) (Z3 .u32 x31 10))))),(Q0 (l28.2+1)))))))
   (.done (.inr l28.1)))
  ((List.replicate 64 (0:Int)),0))
 (λ(e39:(List Int))=>Ext.of (.exit 2) [(3,.ptr 1000003 0 0),(5,.ptr 1000005 0 0),(7,.ptr 7 0 0)] [(1000003,⟨1,true,[[.ptr 2000000 0 0]]⟩),(1700070,⟨1,true,[[.str rest]]⟩),(2000000,⟨10,true,[(H4 (Du w) [.str tl,.i ct])]⟩)] [BT.of 7 Y9 1 e39 true,BT.of 1000005 Y9 1 J0 true] (by rfl))
 (λe39=>
  .bind 1
  (.lp (λ(l49:Int×Int×Int×Int×Int×Int×Int×Int×Int)=>Ext.of .normal [(3,.ptr 1000003 0 0),(5,.ptr 1000005 0 0),(7,.ptr 7 0 0),(12,.ptr 12 0 0),(97,.i l49.q.q)] [(12,⟨8,true,[(Ra l49)]⟩),(1000003,⟨1,true,[[.ptr 2000000 0 0]]⟩),(1700070,⟨1,true,[[.str rest]]⟩),(2000000,⟨10,true,[(H4 (Du w) [.str tl,.i ct])]⟩)] [BT.of 7 Y9 1 e39 true,BT.of 1000005 Y9 1 J0 true] (by rfl))
   (λl49=>
    .br 0 (decide (l49.q.q < 64))
    (.cl 18004 (Ag l49.q.1 (-6)) λr50=>
     .cl 18006 (Ag l49.q.1 (-11)) λr51=>
     .cl 18009 (Ag l49.q.1 (-25)) λr52=>
     .Qz 18024 (Qw.Yi (e:=163) 213 (.tmp 5) (.tmp 126) 127 1000005 ⟨1,true,(List.map Y9.c J0)⟩ 0 .i64 l49.q.q 64) λ_=>
     .row 18025 Y9 J0 (0+l49.q.q.toNat) true λx53=>
     .Qz 18028 (Qw.Yi (e:=163) 213 (.tmp 7) (.tmp 130) 131 7 ⟨1,true,(List.map Y9.c e39)⟩ 0 .i64 l49.q.q 64) λ_=>
     .row 18029 Y9 e39 (0+l49.q.q.toNat) true λx54=>
     .cl 19002 (Ag l49.1 (-2)) λr55=>
     .cl 19004 (Ag l49.1 (-13)) λr56=>
     .cl 19007 (Ag l49.1 (-22)) λr57=>
     .done (.inl ((O1 ((O1 ((O1 ((O1 ((O1 (l49.q.2.2.2.1+(T5 .u32 (T5 .u32 r50 r51) r52)))+(T5 .u32 (U0 .u32 l49.q.1 l49.q.2.1) (U0 .u32 (T5 .u32 4294967295 l49.q.1) l49.q.2.2.1))))+x53))+x54))+(O1 ((T5 .u32 (T5 .u32 r55 r56) r57)+(T5 .u32 (T5 .u32 (U0 .u32 l49.1 l49.2.1) (U0 .u32 l49.1 l49.2.2.1)) (U0 .u32 l49.2.1 l49.2.2.1)))))),l49.1,l49.2.1,l49.2.2.1,(O1 (l49.2.2.2.1+(O1 ((O1 ((O1 ((O1 (l49.q.2.2.2.1+(T5 .u32 (T5 .u32 r50 r51) r52)))+(T5 .u32 (U0 .u32 l49.q.1 l49.q.2.1) (U0 .u32 (T5 .u32 4294967295 l49.q.1) l49.q.2.2.1))))+x53))+x54)))),l49.q.1,l49.q.2.1,l49.q.2.2.1,(Q0 (l49.q.q+1)))))
    (.done (.inr (l49.1,l49.2.1,l49.2.2.1,l49.2.2.2.1,l49.q.1,l49.q.2.1,l49.q.2.2.1,l49.q.2.2.2.1))))
   (w.1,w.2.1,w.2.2.1,w.2.2.2.1,w.q.1,w.q.2.1,w.q.2.2.1,w.q.2.2.2,0))
  (λ(e58:Int×Int×Int×Int×Int×Int×Int×Int)=>Ext.of (.exit 4) [(3,.ptr 1000003 0 0),(12,.ptr 12 0 0)] [(12,⟨8,true,[(Du e58)]⟩),(1000003,⟨1,true,[[.ptr 2000000 0 0]]⟩),(1700070,⟨1,true,[[.str rest]]⟩),(2000000,⟨10,true,[(H4 (Du w) [.str tl,.i ct])]⟩)] [BT.of 1000005 Y9 1 J0 true] (by rfl))
  (λe58=>
   .tt (.tt (.tt (.tt (.tt (.tt (.tt (.tt (.ff (.done ((O1 (w.1+e58.1)),(O1 (w.2.1+e58.2.1)),(O1 (w.2.2.1+e58.2.2.1)),(O1 (w.2.2.2.1+e58.2.2.2.1)),(O1 (w.q.1+e58.q.1)),(O1 (w.q.2.1+e58.q.2.1)),(O1 (w.q.2.2.1+e58.q.2.2.1)),(O1 (w.q.2.2.2+e58.q.2.2.2))))))))))))))
def yH(w:W8)(tl:ze)(ct:Int)(s:ze)(rest:ze):Ext:=Ext.of .normal [(3,.ptr 1000003 0 0),(5,.ptr 1000005 0 0),(6,.str s)] [(1000003,⟨1,true,[[.ptr 2000000 0 0]]⟩),(1700070,⟨1,true,[[.str rest]]⟩),(2000000,⟨10,true,[(H4 (Du w) [.str tl,.i ct])]⟩)] [BT.of 1000005 Y9 1 J0 true] (by rfl)
def pB(w:W8)(tl:ze)(ct:Int)(s:ze)(rest:ze):(Int×Int×Int×Int×Int×Int×Int×Int)->Ext:=λ(r:Int×Int×Int×Int×Int×Int×Int×Int)=>Ext.of .normal [] [(1000003,⟨1,true,[[.ptr 2000000 0 0]]⟩),(1700070,⟨1,true,[[.str rest]]⟩),(2000000,⟨10,true,[(H4 (Du r) [.str tl,.i ct])]⟩)] [BT.of 1000005 Y9 1 J0 true] (by rfl)
theorem Qac(w:W8)(tl:ze)(ct:Int)(s:ze)(rest:ze):Y0 Tryz.prog GG [3,5,6,7,8,9,10,11,12,13,14,15,16,17,18,22,23,26,97,98,179,180] 198 (I3 (cB (cR (cR (Tryz.f250.body.getD .skip))))) (yH w tl ct s rest) (Bl w tl ct s rest) (pB w tl ct s rest):=by unfold Y0;kernel_rfl
end Go.Proofs.YtjdieimefebnfaaGreatDoor
namespace Go.Proofs
open Go.Shelf
def Tryz.Ro:Go.Shelf.Ren:=⟨fun|316=>103|n=>n,fun|9=>9|3=>3|4=>4|37=>57|0=>0|127=>168|5=>5|n=>n,fun|n=>n⟩
theorem Tryz.rH:LaysM.n316 Tryz.prog Tryz.Ro where
 mixed:=by kernel_rfl
 f316:=Tryz.func103.trans (congrArg some (by kernel_rfl))
 t0:=Tryz.underlying0
 a0:=Tryz.isAgg0
 z0:=Tryz.sizeOf0
 v0:=Tryz.zeroValue0
 t3:=Tryz.underlying3
 a3:=Tryz.isAgg3
 z3:=Tryz.sizeOf3
 v3:=Tryz.zeroValue3
 t4:=Tryz.underlying4
 a4:=Tryz.isAgg4
 z4:=Tryz.sizeOf4
 v4:=Tryz.zeroValue4
 t9:=Tryz.underlying9
 a9:=Tryz.isAgg9
 z9:=Tryz.sizeOf9
 v9:=Tryz.zeroValue9
 t37:=Tryz.underlying57
 a37:=Tryz.isAgg57
 z37:=Tryz.sizeOf57
 v37:=Tryz.zeroValue57
 t127:=Tryz.underlying168
 a127:=Tryz.isAgg168
 z127:=Tryz.sizeOf168
 v127:=Tryz.zeroValue168
 t5:=Tryz.underlying5
 a5:=Tryz.isAgg5
 z5:=Tryz.sizeOf5
 v5:=Tryz.zeroValue5
 i0:=by kernel_rfl
 i3:=by kernel_rfl
 i4:=by kernel_rfl
 i5:=by kernel_rfl
 i9:=by kernel_rfl
 i37:=by kernel_rfl
 i127:=by kernel_rfl
end Go.Proofs
namespace Go.Proofs.YtjdieimefebnfaaGreatDoor
open Go Go.EV
def dA(p0:ze):TT Unit:=.Qf 0 (decide (p0.size<=281474976710656)) (.done ())
theorem Qir(p0:ze)(r:Unit)(h:(dA p0).run=some r):QS Tryz.prog GG 103 [.str p0] (Qe []) (.str p0) (Qe []):=by
 have h1:p0.size<=281474976710656:=by
  cases hd:decide (p0.size<=281474976710656) with
  | true=>simpa using hd
  | false=>
   unfold dA at h;rw[hd] at h;cases h
 exact RB aI (λw=>Any.stringslite_Clone Tryz.rH p0 w h1) (λ_ _ _ _=>.data (.str _))
def Qxs(p0:ze):Sp Unit:=⟨103,[.str p0],[],(dA p0).run,λ_=>.str p0,λ_=>[],[],λ_ _ h=>by simp at h,λr h=>Qir p0 r h⟩
def FB:List (Nat×V):=[(3,.ptr 1000003 0 0),(5,.ptr 1000005 0 0),(20,.fn 267 [] [.ptr 1700070 0 0])]
def mxR(w:W8)(tl:ze)(ct:Int):List V:=[.int .u32 w.1,.int .u32 w.2.1,.int .u32 w.2.2.1,.int .u32 w.2.2.2.1,.int .u32 w.q.1,.int .u32 w.q.2.1,.int .u32 w.q.2.2.1,.int .u32 w.q.2.2.2,.str tl,.int .i64 ct]
def mxL(w:W8)(tl:ze)(ct:Int)(rest:ze):List (Nat×Qa):=
 [(1000003,⟨1,true,[[.ptr 2000000 0 0]]⟩),(1700070,⟨1,true,[[.str rest]]⟩),(2000000,⟨10,true,[mxR w tl ct]⟩)]
def mxT:List BT:=[BT.of 1000005 Y9 1 J0 true]
def sS(ts:List (Nat×V))(w:W8)(tl:ze)(ct:Int)(rest:ze):Ext:=Ext.of .normal ts (mxL w tl ct rest) mxT (by rfl)
def qG(w:W8)(tl:ze)(ct:Int)(rest:ze):List (Nat×Qa):=(sS [] w tl ct rest).bs
theorem W3{st:St}(x:Ext){n:Nat}(hok:x.ok=true)(hn:st.n=n)(h:KM x st=x.ts/\KE x st=x.bs.map λp=>(p.1,some p.2)):QH GG st (x.D n).st:=by
 grind [ZE]
noncomputable def mO:Code:=cB (cR (cR (Tryz.f250.body.getD .skip)))
def mL:Code:=MR mO
section
variable (w:W8) (tl:ze) (ct:Int) (s rest:ze)
theorem kMa:Y0 Tryz.prog GG [3,5,6,20,21] 198 mL (sS ((21,.str s) :: FB) w tl ct rest) (.done ():TT Unit) (λ_=>yH w tl ct s rest):=by unfold Y0;kernel_rfl
end
theorem uG(w:W8)(tl:ze)(ct:Int)(s rest:ze){r:W8}(hb:(Bl w tl ct s rest).run=some r) :
  JS Tryz.prog GG 198 (Zm FB) [21] mL (I3 mO) (Qe (qG w tl ct rest)) [.str s] (λe b'=>e=.normal/\b'=Qe (qG r tl ct rest)):=by
 refine⟨((yH w tl ct s rest).D 198).st,?_,?_⟩
 ·have h:=(kMa w tl ct s rest).tv Q9 (r:=()) rfl (by rfl)
  have e:((sS ((21,.str s) :: FB) w tl ct rest).D 198).st=Ki (E3 198 (Zm FB) (Qe (qG w tl ct rest))) ([21].zip [.str s]):=by
   rw[H8 (by rfl)];exact(Uj 198 FB _ 21 (.str s)).symm
  rw[e] at h;exact h
 ·refine((Qac w tl ct s rest).tv Q9 hb (by rfl)).mono λe s' hg=>?_;obtain⟨rfl,g⟩:=hg;refine⟨_,198,⟨rfl,rfl⟩,?_⟩;have e:((pB w tl ct s rest r).D 198).st=E3 198 (λ_=>.undef) (Qe (qG r tl ct rest)):=by
   rw[H8 (by rfl)];rfl
  grind
def GZ(l:Nat):List V:=[.QB l,.ptr 1700070 0 0]
noncomputable def cBk:Code:=Tryz.f267.body.getD .skip
def cBL:Code:=cB (cB cBk)
def bR0:Code:=cL (cL cBL)
def Qwh:Array Oper:=Oo (cL (cB (cL (cR cBL))))
def bR1:Code:=cR (cR cBL)
theorem eBk:cBk=.block 0 (.loop cBL):=by kernel_rfl
theorem eBL:cBL=.seq (.seq bR0 (.cond (.tmp 5) .skip (.exit 0))) (.seq (.block 1 (.seq (.region 2 Qwh false) (.cond (.tmp 12) .ret .skip))) bR1):=by kernel_rfl
section
variable (l:Nat) (w:W8) (tl:ze) (ct:Int) (rest:ze)
def tBk:List (Nat×V):=[(0,.QB l),(1,.ptr 1700070 0 0)]
def iL:Ext:=sS (tBk l) w tl ct rest
def cH:Ext:=sS (tBk l++[(5,.bool (decide ((64:Int)<=(rest.size:Int))))]) w tl ct rest
def Qub:Ext:=sS (tBk l++[(8,.QB l),(10,.str (rest.extract 0 64))]) w tl ct rest
theorem kB0:Y0 Tryz.prog GG [0,1,5] 13 bR0 (iL l w tl ct rest) (.done ():TT Unit) (λ_=>cH l w tl ct rest):=by unfold Y0;kernel_rfl
def gB2:TT Unit:=.Qf 2003 (decide (0<=(64:Int))&&decide ((64:Int)<=(rest.size:Int))) (.done ())
theorem kB2:K0 Tryz.prog GG [0,1,8,10] 13 2 Qwh 3 (iL l w tl ct rest) (gB2 rest) (λ_=>Qub l w tl ct rest):=by unfold K0;kernel_rfl
def gB1:TT Unit:=.Qf 1002 (decide (0<=(64:Int))&&decide ((64:Int)<=(rest.size:Int))) (.done ())
theorem kB1:Y0 Tryz.prog GG [0,1] 13 bR1 (iL l w tl ct rest) (gB1 rest) (λ_=>iL l w tl ct (rest.extract 64 rest.size)):=by unfold Y0;kernel_rfl
end
def ZZ(tl:ze)(ct:Int)(x:W8×ze):Option ((W8×ze)⊕W8):=
 bif decide ((64:Int)<=(x.2.size:Int)) then
  (match (Bl x.1 tl ct (x.2.extract 0 64) x.2).run with
  | none=>none
  | some w=>some (.inl (w,x.2.extract 64 x.2.size)))
 else some (.inr x.1)
def VY(w:W8)(tl:ze)(ct:Int)(s:ze):Option W8:=I0 (ZZ tl ct) Ys (w,s)
def Qaz:YL:=⟨198,Zm FB,#[21],mL,I3 mO⟩
theorem rX(w:W8)(tl:ze)(ct:Int)(s:ze){r:W8}(h:VY w tl ct s=some r) :
  UW Tryz.prog GG cBk 13 GZ (Qe (qG w tl ct s)) Qaz (λe b=>e=.normal/\∃rest,b=Qe (qG r tl ct rest)):=by
 refine UW.of λl=>?_;have e0:U3 13 (GZ l) (Qe (qG w tl ct s))=((sS (U5 (GZ l)) w tl ct s).D 13).st:=(B5 (x:=sS (U5 (GZ l)) w tl ct s) (by rfl) (by rfl) 13).symm;rw[e0,eBk];show YT _ _ _ _ _ ⟨.normal,((iL l w tl ct s).D 13).st⟩ _;refine YT.block ?_;refine YT.loop (λm s=>s.x=.normal/\∃y:W8×ze,QH GG s.st ((iL l y.1 tl ct y.2).D 13).st/\I0 (ZZ tl ct) m y=some r) (λm s hI=>?_) (n:=Ys) ⟨rfl,(w,s),QH.same _,h⟩;obtain⟨x,st⟩:=s;obtain⟨rfl,⟨v,o⟩,g,hit⟩:=hI;refine YT.XG g ?_;cases m with
 | zero=>simp[I0] at hit
 | succ m=>
  rw[ZU] at hit;rw[eBL];refine YT.seq (YT.seq (YT.piece (kB0 l v tl ct o) Q9 rfl (by rfl) λs g=>?_));show YT _ _ _ _ _ _ _;refine YT.XG g ?_;cases hc:decide ((64:Int)<=(o.size:Int)) with
  | false=>
   have hs0:ZZ tl ct (v,o)=some (.inr v):=by grind [ZZ]
   rw[hs0] at hit;obtain rfl:v=r:=wh hit;refine YT.cond (b:=false) (by show some (V.bool (decide ((64:Int)<=(o.size:Int))))=_;rw[hc]) (YT.exit ?_);refine⟨.inl rfl,13,Zm (cH l v tl ct o).ts,Qe (qG v tl ct o),?_,rfl,o,rfl⟩;show QH GG ((cH l v tl ct o).D 13).st _;rw[H8 (by rfl) 13];exact QH.same _
  | true=>
   have hrun:∀a:Nat,(T.Qf a (decide (0<=(64:Int))&&decide ((64:Int)<=(o.size:Int))) (.done ()):TT Unit).run=some ():=λa=>by
    rw[hc];rfl
   refine YT.cond (b:=true) (by show some (V.bool (decide ((64:Int)<=(o.size:Int))))=_;rw[hc]) (YT.skip ?_);show YT _ _ _ _ _ _ _;refine YT.XG (st':=((iL l v tl ct o).D 13).st) (W3 (iL l v tl ct o) (by rfl) rfl ⟨by rfl,by rfl⟩) ?_;cases h5:(Bl v tl ct (o.extract 0 64) o).run with
   | none=>grind [ZZ]
   | some v2=>
   have hs0:ZZ tl ct (v,o)=some (.inl (v2,o.extract 64 o.size)):=by grind [ZZ]
   rw[hs0] at hit;refine YT.seq (YT.block (YT.seq (YT.region ?_)));show J3 _ _ _ _ _ ([0,1,2]++[3,4]) _ _;refine J3.tv ((kB2 l v tl ct o).tv Q9 (hrun _) (by rfl)) λe st hq'=>⟨hq'.1,J3.XG hq'.2 ?_⟩;rw[H8 (x:=Qub l v tl ct o) (by rfl) 13];refine J3.KO (hi:=rfl) rfl rfl rfl rfl rfl rfl rfl ?_ ?_ ?_ rfl (uG v tl ct (o.extract 0 64) o h5) ?_ ?_
   ·exact λi=>L6 (by rfl) i
   ·exact λi=>L6 (by rfl) i
   ·intro p hp;have:p∈[21]:=hp;simp at this;subst this;exact(by decide:21 < 198)
   ·grind
   ·intro e b' h;obtain⟨rfl,rfl⟩:=h;refine J3.step rfl (J3.nil ?_);show YT _ _ _ _ _ _ _;refine YT.cond (b:=false) rfl (YT.skip ?_);show YT _ _ _ _ _ _ _;refine YT.XG (st':=((iL l v2 tl ct o).D 13).st) (W3 (iL l v2 tl ct o) (by rfl) rfl ⟨by rfl,by rfl⟩) ?_;refine YT.piece (kB1 l v2 tl ct o) Q9 (hrun _) (by rfl) λs g=>?_;exact⟨m,Nat.lt_succ_self m,rfl,(v2,o.extract 64 o.size),g,hit⟩
def Qwr:List (Nat×V):=[(3,.ptr 3 0 0),(5,.ptr 5 0 0)]
def mfL(w:W8)(tl:ze)(ct:Int):List (Nat×Qa):=[(3,⟨1,true,[[.ptr 1000000 0 0]]⟩),(1000000,⟨10,true,[mxR w tl ct]⟩)]
def nN(w:W8)(tl:ze)(ct:Int)(s:ze):List (Nat×Qa):=[(3,⟨1,true,[[.ptr 1000000 0 0]]⟩),(700070,⟨1,true,[[.str s]]⟩),(1000000,⟨10,true,[mxR w tl ct]⟩)]
def mfT:List BT:=[BT.of 5 Y9 1 J0 true]
def Ks(w:W8)(tl:ze)(ct:Int)(s:ze):Ext:=Ext.of .normal (Qwr++[(20,.fn 267 [] [.ptr 700070 0 0])]) (nN w tl ct s) mfT (by rfl)
def eMf(w:W8)(tl:ze)(ct:Int):Ext:=Ext.of .normal Qwr (mfL w tl ct) mfT (by rfl)
theorem Ce{α:Type}(ty:Ty α)(l:List α):(List.map ty.c l).map (P8 sh)=List.map ty.c l:=by
 have h:J8 (l.map ty.c):=ty.data l
 have:(⟨0,true,List.map ty.c l⟩:Qa).Qb sh=⟨0,true,List.map ty.c l⟩:=(by grind [J8.Qb,List.map,sh])
 have:=congrArg Qa.rows this;exact this
theorem bG(w:W8)(tl:ze)(ct:Int)(s:ze):QY (Qe (Ks w tl ct s).bs)=Qe (qG w tl ct s):=by
 rw[UI];have:((Ks w tl ct s).bs.map λp=>(sh p.1,p.2.Qb sh))=qG w tl ct s:=by
  simp only[Ks,Ext.of,nN,mfT,List.cons_append,List.nil_append,wu,List.map_nil,BT.of,Qa.Qb,Ce];kernel_rfl
 rw[this]
theorem rZ(w:W8)(tl:ze)(ct:Int)(s:ze){r:W8}(h:VY w tl ct s=some r) :
  TV Tryz.prog GG (.rangeFunc (.tmp 20) #[21] mL (I3 mO)) ((Ks w tl ct s).D 198).st (λe st=>e=.normal/\QH GG st ((eMf r tl ct).D 198).st):=by
 have ht:(λi=>W0 sh (((Ks w tl ct s).D 198).st.t i))=Zm FB:=by
  have:((Ks w tl ct s).D 198).st.t=Zm (Ks w tl ct s).ts:=rfl;rw[this,V9]
  have:((Ks w tl ct s).ts.map λp=>(p.1,W0 sh p.2))=FB:=by kernel_rfl
  rw[this]
 have hb:Tryz.f267.body=some cBk:=by kernel_rfl
 refine TV.AK (f:=267) (fi:=Tryz.f267) (c:=cBk) (first:=[]) (caps:=[.ptr 1700070 0 0]) (R:=λe b=>e=.normal/\∃rest,b=Qe (qG r tl ct rest)) ?_ Tryz.func267 hb (by kernel_rfl) (by kernel_rfl) ?_ (λi=>?_) ?_ ?_
 ·show some ((λi=>W0 sh (((Ks w tl ct s).D 198).st.t i)) 20)=_;rw[ht];rfl
 ·intro b k hk;obtain⟨q,h1,rfl,_⟩:=Yn (show Qe (Ks w tl ct s).bs b=some k from hk);show (((Ks w tl ct s).us).contains q.1 || Qk q.1)=true;simp only[Ext.us,zY,wj,zI];grind
 ·have:=congrFun ht i;rw[show W0 sh (((Ks w tl ct s).D 198).st.t i)=Zm FB i from this];exact L6 (by rfl) i
 ·have hbb:QY ((Ks w tl ct s).D 198).st.b=Qe (qG w tl ct s):=bG w tl ct s;rw[ht,hbb]
  have e:max Tryz.f267.ntmps (([]:List V).length+1+[V.ptr 1700070 0 0].length)=13:=by kernel_rfl
  rw[e];exact rX w tl ct s h
 ·intro e b' ho;obtain⟨rfl,rest,rfl⟩:=ho;refine⟨.inl rfl,Qe (Ks r tl ct rest).bs,(bG r tl ct rest).symm,?_,rfl,?_⟩
  ·show (D2 198 (Ks w tl ct s).ts (Ks r tl ct rest).bs (Ks w tl ct s).us).known;refine⟨λi b hm=>?_,λi k hk=>?_⟩
   ·have hm':b∈W5 (Zm (Ks w tl ct s).ts i):=hm;unfold Zm at hm';cases hf:(Ks w tl ct s).ts.find? (λp=>p.1==i) with
    | none=>grind [W5]
    | some p=>
     rw[hf] at hm';have all:((Ks w tl ct s).ts.all λp=>(W5 p.2).all λb=>(Ks w tl ct s).us.contains b)=true:=by rfl
     have:=zJ.1 (zJ.1 all p (qe hf)) b hm'
     show ((Ks w tl ct s).us.contains b || Qk b)=true;rw[this];rfl
   ·obtain⟨q,h1,rfl,rfl⟩:=Yn (show Qe (Ks r tl ct rest).bs i=some k from hk);have husl:(Ks r tl ct rest).us=(Ks w tl ct s).us:=rfl;refine⟨?_,λb hm=>?_⟩
    ·show ((Ks w tl ct s).us.contains q.1 || Qk q.1)=true;rw[<-husl];simp only[Ext.us,zY,wj,zI];grind
    ·have:q∈nN r tl ct rest++mfT.map λx=>(x.id,x.k):=h1;rcases wk.1 this with h2|h2
     ·have all:((nN r tl ct rest).all λq=>(E8 q.2.rows.flatten).all λb=>(Ks w tl ct s).us.contains b)=true:=by rfl
      have:=zJ.1 (zJ.1 all q h2) b hm
      show ((Ks w tl ct s).us.contains b || Qk b)=true;rw[this];rfl
     ·have hdat:=GQ _ h2;rw[hdat.refs] at hm;simp at hm
  ·show QH GG (D2 198 (Ks w tl ct s).ts (Ks r tl ct rest).bs (Ks w tl ct s).us) _;exact W3 (eMf r tl ct) (by rfl) rfl ⟨by rfl,by rfl⟩
def cP(w:W8)(tl:ze)(ct:Int)(s:ze):Sub Tryz.prog GG W8:=
 ⟨.rangeFunc (.tmp 20) #[21] mL (I3 mO),198,Ks w tl ct s,VY w tl ct s,λr=>eMf r tl ct,λ_ h=>rZ w tl ct s h⟩
structure Et where
 a0:Int
 a1:Int
 a2:Int
 a3:Int
 a4:Int
 a5:Int
 a6:Int
 a7:Int
structure Tb where
 ga:Et
 gb:ze
 fT:Int
structure JP where
 fy:Tb
structure J9 where
 fS:ze
 fE:Int
structure Ec where
 gg:J9
def Z6:Ty ze:=⟨λx=>[.str x],λx=>[.str x],λ_=>rfl,λ_=>rfl,λ_ _=>rfl,λ_=>rfl⟩
def Y3:Ty Int:=⟨λx=>[.int .u8 x],λx=>[.int .u8 x],λ_=>rfl,λ_=>rfl,λ_ _=>rfl,λ_=>rfl⟩
def Qmb(p0:List ze):TT (Bool):=.QA 1 (.lp (λ(l61:Int)=>Ext.l .normal [(2,.bool false),(5,Sl 1 Z6 p0),(6,.i (E6 Z6 p0)),(7,.i l61)] []) (λl61=>.br 0 (decide (l61 < (E6 Z6 p0))) (.row 3001 Z6 p0 l61.toNat (decide (0<=l61)) λx62=>.br 0 (decide ((4096:Int) < (x62.size:Int))) (.done (.inr (.inl ()))) (.done (.inl (Q0 (l61+1))))) (.done (.inr (.inr ())))) 0) (λ(e63:Unit)=>Ext.l .ret [(2,.bool true)] []) (λ(e64:Unit)=>Ext.l (.exit 0) [(2,.bool false)] []) (λe63=>.done true) (λe64=>.done false)
def TC(p0:List ze):Sp (Bool):=oF [0,2,4,5,6,7,8,13] Tryz.func153 [Sl 1 Z6 p0] (Qmb p0) (λr=>.bool r)
def Qxi(p0:ze):Sp (Unit):=.Ze 260 [] Q9 Tryz.func260 rfl (λ_=>rfl) (show Jx Pg GG [0,1,2] Tryz.f260 [.str p0] (Ext.of .normal (U5 [.str p0]) [] [] (by rfl)) (.done ():TT (Unit)) (λ(r:Unit)=>.fn 267 [] [.ptr 1 0 0]) (λ(r:Unit)=>Ext.of .normal [] [(1,⟨1,true,[[.str p0]]⟩)] [] (by rfl)) by unfold Jx;kernel_rfl)
def dY(p0:ze)(p1:JP):TT (Int×Int×Int×Int×Int×Int×Int×Int):=.Qz 2 (Qw.DQ (ty:=Y9) 213 (.tmp 2) 5 J0) λ_=>.call 1002 (Qxi p0) [] [(1,500003)] λr66=>.gh 1 (.Qb 500003 700070) (.sub (cP (p1.fy.ga.a0,p1.fy.ga.a1,p1.fy.ga.a2,p1.fy.ga.a3,p1.fy.ga.a4,p1.fy.ga.a5,p1.fy.ga.a6,p1.fy.ga.a7) p1.fy.gb p1.fy.fT p0) λr67=>.done (r67.1,r67.2.1,r67.2.2.1,r67.2.2.2.1,r67.q.1,r67.q.2.1,r67.q.2.2.1,r67.q.2.2.2))
def Fi(p0:ze)(p1:JP):Sp (Int×Int×Int×Int×Int×Int×Int×Int):=.Ze 250 [] Q9 Tryz.func250 rfl (λ_=>rfl) (show Jx Pg GG [0,1,2,3,5,6,7,8,9,10,11,12,13,14,15,16,17,18,20,21,22,23,26,97,98,179,180] Tryz.f250 [.ptr zE 0 0,.str p0,.agg M5] (Ext.of .normal (U5 [.ptr zE 0 0,.str p0,.agg M5]) [(zE,⟨10,true,[[.int .u32 p1.fy.ga.a0,.int .u32 p1.fy.ga.a1,.int .u32 p1.fy.ga.a2,.int .u32 p1.fy.ga.a3,.int .u32 p1.fy.ga.a4,.int .u32 p1.fy.ga.a5,.int .u32 p1.fy.ga.a6,.int .u32 p1.fy.ga.a7,.str p1.fy.gb,.i p1.fy.fT]]⟩)] [] (by rfl)) (dY p0 p1) (λ(r:Int×Int×Int×Int×Int×Int×Int×Int)=>.Qt []) (λ(r:Int×Int×Int×Int×Int×Int×Int×Int)=>Ext.of .normal [] [(zE,⟨10,true,[(H4 (Du r) [.str p1.fy.gb,.i p1.fy.fT])]⟩)] [] (by rfl)) by unfold Jx;kernel_rfl)
def g59(p0:ze):TT (ze):=.cl 1002 (Qxs p0) λr69=>.done p0
def s59(p0:ze):Sp (ze):=oF [0,2] Tryz.func59 [.str p0] (g59 p0) (λr=>.str r)
def Qj4(p0:ze)(p1:JP):TT (Int×Int×Int×Int×Int×Int×Int×Int×ze×Int):=.Qz 1 (Qw.DQ (ty:=Y9) 213 (.tmp 2) 5 J0) λ_=>.Qf 1007 (decide (p1.fy.gb.size+p0.size<=9223372036854775807)) (.Qz 2003 (Qw.DR 213 (.tmp 5) 16 5 ⟨1,true,(List.map Y9.c J0)⟩ (.agg M5)) λ_=>.call 2004 (Fi (p1.fy.gb++p0) (JP.mk (Tb.mk (Et.mk p1.fy.ga.a0 p1.fy.ga.a1 p1.fy.ga.a2 p1.fy.ga.a3 p1.fy.ga.a4 p1.fy.ga.a5 p1.fy.ga.a6 p1.fy.ga.a7) p1.fy.gb p1.fy.fT))) [(zE,zE)] [] λr68=>.Qf 3007 (decide (0<=(Q0 ((Q0 (Int.tdiv ((p1.fy.gb++p0).size:Int) 64)) * 64)))&&decide ((Q0 ((Q0 (Int.tdiv ((p1.fy.gb++p0).size:Int) 64)) * 64))<=((p1.fy.gb++p0).size:Int))) (.cl 3008 (s59 ((p1.fy.gb++p0).extract ((Q0 ((Q0 (Int.tdiv ((p1.fy.gb++p0).size:Int) 64)) * 64)).toNat) ((p1.fy.gb++p0).size))) λr70=>.done (r68.1,r68.2.1,r68.2.2.1,r68.2.2.2.1,r68.q.1,r68.q.2.1,r68.q.2.2.1,r68.q.2.2.2,r70,(Q0 (p1.fy.fT+(p0.size:Int))))))
def vZ(p0:ze)(p1:JP):Sp (Int×Int×Int×Int×Int×Int×Int×Int×ze×Int):=.Ze 209 [] Q9 Tryz.func209 rfl (λ_=>rfl) (show Jx Pg GG [0,1,2,5,6] Tryz.f209 [.ptr zE 0 0,.str p0,.agg M5] (Ext.of .normal (U5 [.ptr zE 0 0,.str p0,.agg M5]) [(zE,⟨10,true,[[.int .u32 p1.fy.ga.a0,.int .u32 p1.fy.ga.a1,.int .u32 p1.fy.ga.a2,.int .u32 p1.fy.ga.a3,.int .u32 p1.fy.ga.a4,.int .u32 p1.fy.ga.a5,.int .u32 p1.fy.ga.a6,.int .u32 p1.fy.ga.a7,.str p1.fy.gb,.i p1.fy.fT]]⟩)] [] (by rfl)) (Qj4 p0 p1) (λ(r:Int×Int×Int×Int×Int×Int×Int×Int×ze×Int)=>.Qt []) (λ(r:Int×Int×Int×Int×Int×Int×Int×Int×ze×Int)=>Ext.of .normal [] [(zE,⟨10,true,[(H4 (Ra r) [.str r.q.q.1,.i r.q.q.2])]⟩)] [] (by rfl)) by unfold Jx;kernel_rfl)
def Qm3(p0:JP):TT (ze):=.Qz 2 (Qw.DQ (ty:=Y9) 213 (.tmp 1) 3 J0) λ_=>.Qf 1004 (decide (p0.fy.gb.size+(bs [128]).size<=9223372036854775807)) (.Qz 1011 (Qw.bQ (ty:=Y3) (t:=57) (e:=5) (zv:=.int .u8 0) (zc:=.int .u8 0) (0:Int) (.tmp 20) (.tmp 20) 21 (Int.tmod (Q0 ((119:Int) - (p0.fy.gb.size:Int))) 64) (Int.tmod (Q0 ((119:Int) - (p0.fy.gb.size:Int))) 64) 1 (by kernel_rfl) (by kernel_rfl) (by kernel_rfl) rfl ⟨rfl,rfl,rfl⟩ (λ_ _=>by constructor)) λ_=>.Qz 1012 (Qw.JU (ty:=Y3) (s:=57) (t:=9) (e:=5) (.tmp 21) 22 21 (List.replicate (Int.tmod (Q0 ((119:Int) - (p0.fy.gb.size:Int))) 64).toNat (0:Int)) ((Int.tmod (Q0 ((119:Int) - (p0.fy.gb.size:Int))) 64).toNat) (hn:=(by simp))) λ_=>.Qf 1013 (decide ((p0.fy.gb++(bs [128])).size+(strOfNums (List.replicate (Int.tmod (Q0 ((119:Int) - (p0.fy.gb.size:Int))) 64).toNat (0:Int))).size<=9223372036854775807)) (.tt (.Qf 6008 (decide (((p0.fy.gb++(bs [128]))++(strOfNums (List.replicate (Int.tmod (Q0 ((119:Int) - (p0.fy.gb.size:Int))) 64).toNat (0:Int)))).size+(strOfNums [(Qm (Z3 .u64 (Z1 ((Z1 p0.fy.fT) * 8)) 56))]).size<=9223372036854775807)) (.tt (.gh 8 (.drop [38]) (.Qf 6008 (decide ((((p0.fy.gb++(bs [128]))++(strOfNums (List.replicate (Int.tmod (Q0 ((119:Int) - (p0.fy.gb.size:Int))) 64).toNat (0:Int))))++(strOfNums [(Qm (Z3 .u64 (Z1 ((Z1 p0.fy.fT) * 8)) 56))])).size+(strOfNums [(Qm (Z3 .u64 (Z1 ((Z1 p0.fy.fT) * 8)) 48))]).size<=9223372036854775807)) (.tt (.gh 8 (.drop [38]) (.Qf 6008 (decide (((((p0.fy.gb++(bs [128]))++(strOfNums (List.replicate (Int.tmod (Q0 ((119:Int) - (p0.fy.gb.size:Int))) 64).toNat (0:Int))))++(strOfNums [(Qm (Z3 .u64 (Z1 ((Z1 p0.fy.fT) * 8)) 56))]))++(strOfNums [(Qm (Z3 .u64 (Z1 ((Z1 p0.fy.fT) * 8)) 48))])).size+(strOfNums [(Qm (Z3 .u64 (Z1 ((Z1 p0.fy.fT) * 8)) 40))]).size<=9223372036854775807)) (.tt (.gh 8 (.drop [38]) (.Qf 6008 (decide ((((((p0.fy.gb++(bs [128]))++(strOfNums (List.replicate (Int.tmod (Q0 ((119:Int) - (p0.fy.gb.size:Int))) 64).toNat (0:Int))))++(strOfNums [(Qm (Z3 .u64 (Z1 ((Z1 p0.fy.fT) * 8)) 56))]))++(strOfNums [(Qm (Z3 .u64 (Z1 ((Z1 p0.fy.fT) * 8)) 48))]))++(strOfNums [(Qm (Z3 .u64 (Z1 ((Z1 p0.fy.fT) * 8)) 40))])).size+(strOfNums [(Qm (Z3 .u64 (Z1 ((Z1 p0.fy.fT) * 8)) 32))]).size<=9223372036854775807)) (.tt (.gh 8 (.drop [38]) (.Qf 6008 (decide (((((((p0.fy.gb++(bs [128]))++(strOfNums (List.replicate (Int.tmod (Q0 ((119:Int) - (p0.fy.gb.size:Int))) 64).toNat (0:Int))))++(strOfNums [(Qm (Z3 .u64 (Z1 ((Z1 p0.fy.fT) * 8)) 56))]))++(strOfNums [(Qm (Z3 .u64 (Z1 ((Z1 p0.fy.fT) * 8)) 48))]))++(strOfNums [(Qm (Z3 .u64 (Z1 ((Z1 p0.fy.fT) * 8)) 40))]))++(strOfNums [(Qm (Z3 .u64 (Z1 ((Z1 p0.fy.fT) * 8)) 32))])).size+(strOfNums [(Qm (Z3 .u64 (Z1 ((Z1 p0.fy.fT) * 8)) 24))]).size<=9223372036854775807)) (.tt (.gh 8 (.drop [38]) (.Qf 6008 (decide ((((((((p0.fy.gb++(bs [128]))++(strOfNums (List.replicate (Int.tmod (Q0 ((119:Int) - (p0.fy.gb.size:Int))) 64).toNat (0:Int))))++(strOfNums [(Qm (Z3 .u64 (Z1 ((Z1 p0.fy.fT) * 8)) 56))]))++(strOfNums [(Qm (Z3 .u64 (Z1 ((Z1 p0.fy.fT) * 8)) 48))]))++(strOfNums [(Qm (Z3 .u64 (Z1 ((Z1 p0.fy.fT) * 8)) 40))]))++(strOfNums [(Qm (Z3 .u64 (Z1 ((Z1 p0.fy.fT) * 8)) 32))]))++(strOfNums [(Qm (Z3 .u64 (Z1 ((Z1 p0.fy.fT) * 8)) 24))])).size+(strOfNums [(Qm (Z3 .u64 (Z1 ((Z1 p0.fy.fT) * 8)) 16))]).size<=9223372036854775807)) (.tt (.gh 8 (.drop [38]) (.Qf 6008 (decide (((((((((p0.fy.gb++(bs [128]))++(strOfNums (List.replicate (Int.tmod (Q0 ((119:Int) - (p0.fy.gb.size:Int))) 64).toNat (0:Int))))++(strOfNums [(Qm (Z3 .u64 (Z1 ((Z1 p0.fy.fT) * 8)) 56))]))++(strOfNums [(Qm (Z3 .u64 (Z1 ((Z1 p0.fy.fT) * 8)) 48))]))++(strOfNums [(Qm (Z3 .u64 (Z1 ((Z1 p0.fy.fT) * 8)) 40))]))++(strOfNums [(Qm (Z3 .u64 (Z1 ((Z1 p0.fy.fT) * 8)) 32))]))++(strOfNums [(Qm (Z3 .u64 (Z1 ((Z1 p0.fy.fT) * 8)) 24))]))++(strOfNums [(Qm (Z3 .u64 (Z1 ((Z1 p0.fy.fT) * 8)) 16))])).size+(strOfNums [(Qm (Z3 .u64 (Z1 ((Z1 p0.fy.fT) * 8)) 8))]).size<=9223372036854775807)) (.tt (.gh 8 (.drop [38]) (.Qf 6008 (decide ((((((((((p0.fy.gb++(bs [128]))++(strOfNums (List.replicate (Int.tmod (Q0 ((119:Int) - (p0.fy.gb.size:Int))) 64).toNat (0:Int))))++(strOfNums [(Qm (Z3 .u64 (Z1 ((Z1 p0.fy.fT) * 8)) 56))]))++(strOfNums [(Qm (Z3 .u64 (Z1 ((Z1 p0.fy.fT) * 8)) 48))]))++(strOfNums [(Qm (Z3 .u64 (Z1 ((Z1 p0.fy.fT) * 8)) 40))]))++(strOfNums [(Qm (Z3 .u64 (Z1 ((Z1 p0.fy.fT) * 8)) 32))]))++(strOfNums [(Qm (Z3 .u64 (Z1 ((Z1 p0.fy.fT) * 8)) 24))]))++(strOfNums [(Qm (Z3 .u64 (Z1 ((Z1 p0.fy.fT) * 8)) 16))]))++(strOfNums [(Qm (Z3 .u64 (Z1 ((Z1 p0.fy.fT) * 8)) 8))])).size+(strOfNums [(Qm (Z3 .u64 (Z1 ((Z1 p0.fy.fT) * 8)) 0))]).size<=9223372036854775807)) (.ff (.Qz 7002 (Qw.DR 213 (.tmp 3) 42 3 ⟨1,true,(List.map Y9.c J0)⟩ (.agg M5)) λ_=>.call 7003 (Fi ((((((((((p0.fy.gb++(bs [128]))++(strOfNums (List.replicate (Int.tmod (Q0 ((119:Int) - (p0.fy.gb.size:Int))) 64).toNat (0:Int))))++(strOfNums [(Qm (Z3 .u64 (Z1 ((Z1 p0.fy.fT) * 8)) 56))]))++(strOfNums [(Qm (Z3 .u64 (Z1 ((Z1 p0.fy.fT) * 8)) 48))]))++(strOfNums [(Qm (Z3 .u64 (Z1 ((Z1 p0.fy.fT) * 8)) 40))]))++(strOfNums [(Qm (Z3 .u64 (Z1 ((Z1 p0.fy.fT) * 8)) 32))]))++(strOfNums [(Qm (Z3 .u64 (Z1 ((Z1 p0.fy.fT) * 8)) 24))]))++(strOfNums [(Qm (Z3 .u64 (Z1 ((Z1 p0.fy.fT) * 8)) 16))]))++(strOfNums [(Qm (Z3 .u64 (Z1 ((Z1 p0.fy.fT) * 8)) 8))]))++(strOfNums [(Qm (Z3 .u64 (Z1 ((Z1 p0.fy.fT) * 8)) 0))])) p0) [(zE,2)] [] λr72=>.gh 1 (.Az wi 8 1) (.bind 0 (.lp (λ(l74:(List Int)×Int)=>Ext.of .normal [(4,.str zg),(8,Rf wi l74.1),(46,.agg (Du r72)),(47,.i l74.2)] [] [Bt wi Y3 1 l74.1] (by rfl)) (λl74=>.br 0 (decide (l74.2 < 8)) (.HU 11001 l74.2 [0,1,2,3,4,5,6,7] (λv=>bif v==0 then .app 12014 Y3 l74.1 [(Qm (Z3 .u32 r72.1 24)),(Qm (Z3 .u32 r72.1 16)),(Qm (Z3 .u32 r72.1 8)),(Qm r72.1)] 1 false (by intro h;cases h) (.gh 0 (.drop [wi]) (.gh 0 (.Qb 63 wi) (.done (.inl ((l74.1++[(Qm (Z3 .u32 r72.1 24)),(Qm (Z3 .u32 r72.1 16)),(Qm (Z3 .u32 r72.1 8)),(Qm r72.1)]),(Q0 (l74.2+1))))))) else bif v==1 then .app 12014 Y3 l74.1 [(Qm (Z3 .u32 r72.2.1 24)),(Qm (Z3 .u32 r72.2.1 16)),(Qm (Z3 .u32 r72.2.1 8)),(Qm r72.2.1)] 1 false (by intro h;cases h) (.gh 0 (.drop [wi]) (.gh 0 (.Qb 63 wi) (.done (.inl ((l74.1++[(Qm (Z3 .u32 r72.2.1 24)),(Qm (Z3 .u32 r72.2.1 16)),(Qm (Z3 .u32 r72.2.1 8)),(Qm r72.2.1)]),(Q0 (l74.2+1))))))) else bif v==2 then .app 12014 Y3 l74.1 [(Qm (Z3 .u32 r72.2.2.1 24)),(Qm (Z3 .u32 r72.2.2.1 16)),(Qm (Z3 .u32 r72.2.2.1 8)),(Qm r72.2.2.1)] 1 false (by intro h;cases h) (.gh 0 (.drop [wi]) (.gh 0 (.Qb 63 wi) (.done (.inl ((l74.1++[(Qm (Z3 .u32 r72.2.2.1 24)),(Qm (Z3 .u32 r72.2.2.1 16)),(Qm (Z3 .u32 r72.2.2.1 8)),(Qm r72.2.2.1)]),(Q0 (l74.2+1))))))) else bif v==3 then .app 12014 Y3 l74.1 [(Qm (Z3 .u32 r72.2.2.2.1 24)),(Qm (Z3 .u32 r72.2.2.2.1 16)),(Qm (Z3 .u32 r72.2.2.2.1 8)),(Qm r72.2.2.2.1)] 1 false (by intro h;cases h) (.gh 0 (.drop [wi]) (.gh 0 (.Qb 63 wi) (.done (.inl ((l74.1++[(Qm (Z3 .u32 r72.2.2.2.1 24)),(Qm (Z3 .u32 r72.2.2.2.1 16)),(Qm (Z3 .u32 r72.2.2.2.1 8)),(Qm r72.2.2.2.1)]),(Q0 (l74.2+1))))))) else bif v==4 then .app 12014 Y3 l74.1 [(Qm (Z3 .u32 r72.q.1 24)),(Qm (Z3 .u32 r72.q.1 16)),(Qm (Z3 .u32 r72.q.1 8)),(Qm r72.q.1)] 1 false (by intro h;cases h) (.gh 0 (.drop [wi]) (.gh 0 (.Qb 63 wi) (.done (.inl ((l74.1++[(Qm (Z3 .u32 r72.q.1 24)),(Qm (Z3 .u32 r72.q.1 16)),(Qm (Z3 .u32 r72.q.1 8)),(Qm r72.q.1)]),(Q0 (l74.2+1))))))) else bif v==5 then .app 12014 Y3 l74.1 [(Qm (Z3 .u32 r72.q.2.1 24)),(Qm (Z3 .u32 r72.q.2.1 16)),(Qm (Z3 .u32 r72.q.2.1 8)),(Qm r72.q.2.1)] 1 false (by intro h;cases h) (.gh 0 (.drop [wi]) (.gh 0 (.Qb 63 wi) (.done (.inl ((l74.1++[(Qm (Z3 .u32 r72.q.2.1 24)),(Qm (Z3 .u32 r72.q.2.1 16)),(Qm (Z3 .u32 r72.q.2.1 8)),(Qm r72.q.2.1)]),(Q0 (l74.2+1))))))) else bif v==6 then .app 12014 Y3 l74.1 [(Qm (Z3 .u32 r72.q.2.2.1 24)),(Qm (Z3 .u32 r72.q.2.2.1 16)),(Qm (Z3 .u32 r72.q.2.2.1 8)),(Qm r72.q.2.2.1)] 1 false (by intro h;cases h) (.gh 0 (.drop [wi]) (.gh 0 (.Qb 63 wi) (.done (.inl ((l74.1++[(Qm (Z3 .u32 r72.q.2.2.1 24)),(Qm (Z3 .u32 r72.q.2.2.1 16)),(Qm (Z3 .u32 r72.q.2.2.1 8)),(Qm r72.q.2.2.1)]),(Q0 (l74.2+1))))))) else bif v==7 then .app 12014 Y3 l74.1 [(Qm (Z3 .u32 r72.q.2.2.2 24)),(Qm (Z3 .u32 r72.q.2.2.2 16)),(Qm (Z3 .u32 r72.q.2.2.2 8)),(Qm r72.q.2.2.2)] 1 false (by intro h;cases h) (.gh 0 (.drop [wi]) (.gh 0 (.Qb 63 wi) (.done (.inl ((l74.1++[(Qm (Z3 .u32 r72.q.2.2.2 24)),(Qm (Z3 .u32 r72.q.2.2.2 16)),(Qm (Z3 .u32 r72.q.2.2.2 8)),(Qm r72.q.2.2.2)]),(Q0 (l74.2+1))))))) else .fail)) (.done (.inr l74.1))) ([],0)) (λ(e75:(List Int))=>Ext.of (.exit 2) [(4,.str zg),(8,Rf wi e75)] [] [Bt wi Y3 1 e75] (by rfl)) (λe75=>.Qz 14002 (Qw.JU (ty:=Y3) (s:=57) (t:=9) (e:=5) (.tmp 65) 66 wi e75 e75.length (hn:=(by simp))) λ_=>.done (strOfNums e75)))))))))))))))))))))))))))))
def vQ(p0:JP):Sp (ze):=oF [0,1,2,3,4,5,6,7,8,10,30,46,47,48] Tryz.func210 [.agg [.int .u32 p0.fy.ga.a0,.int .u32 p0.fy.ga.a1,.int .u32 p0.fy.ga.a2,.int .u32 p0.fy.ga.a3,.int .u32 p0.fy.ga.a4,.int .u32 p0.fy.ga.a5,.int .u32 p0.fy.ga.a6,.int .u32 p0.fy.ga.a7,.str p0.fy.gb,.i p0.fy.fT],.agg M5] (Qm3 p0) (λr=>.str r)
def Qmr(p0 p1 p2 p3 p4 p5 p6 p7:Int)(p8:List ze):TT (ze):=.bind 1 (.lp (λ(l66:Int×Int×Int×Int×Int×Int×Int×Int×ze×Int×Int)=>Ext.l .normal [(2,.ptr 2 0 0),(4,.str zg),(5,.ptr 5 0 0),(12,Sl 1 Z6 p8),(13,.i (E6 Z6 p8)),(14,.i l66.q.q.2.2)] [(2,⟨72,true,[([.int .u32 p0,.int .u32 p1,.int .u32 p2,.int .u32 p3,.int .u32 p4,.int .u32 p5,.int .u32 p6,.int .u32 p7]++M5)]⟩),(5,⟨10,true,[(H4 (Ra l66) [.str l66.q.q.1,.i l66.q.q.2.1])]⟩)]) (λl66=>.br 0 (decide (l66.q.q.2.2 < (E6 Z6 p8))) (.row 4001 Z6 p8 l66.q.q.2.2.toNat (decide (0<=l66.q.q.2.2)) λx67=>.call 5004 (vZ x67 (JP.mk (Tb.mk (Et.mk l66.1 l66.2.1 l66.2.2.1 l66.2.2.2.1 l66.q.1 l66.q.2.1 l66.q.2.2.1 l66.q.2.2.2.1) l66.q.q.1 l66.q.q.2.1))) [(zE,5)] [] λr69=>.done (.inl (r69.1,r69.2.1,r69.2.2.1,r69.2.2.2.1,r69.q.1,r69.q.2.1,r69.q.2.2.1,r69.q.2.2.2.1,r69.q.q.1,r69.q.q.2,(Q0 (l66.q.q.2.2+1))))) (.done (.inr (l66.1,l66.2.1,l66.2.2.1,l66.2.2.2.1,l66.q.1,l66.q.2.1,l66.q.2.2.1,l66.q.2.2.2.1,l66.q.q.1,l66.q.q.2.1)))) (p0,p1,p2,p3,p4,p5,p6,p7,zg,0,0)) (λ(e70:Int×Int×Int×Int×Int×Int×Int×Int×ze×Int)=>Ext.l (.exit 0) [(2,.ptr 2 0 0),(4,.str zg),(5,.ptr 5 0 0)] [(2,⟨72,true,[([.int .u32 p0,.int .u32 p1,.int .u32 p2,.int .u32 p3,.int .u32 p4,.int .u32 p5,.int .u32 p6,.int .u32 p7]++M5)]⟩),(5,⟨10,true,[(H4 (Ra e70) [.str e70.q.q.1,.i e70.q.q.2])]⟩)]) (λe70=>.cl 7004 (vQ (JP.mk (Tb.mk (Et.mk e70.1 e70.2.1 e70.2.2.1 e70.2.2.2.1 e70.q.1 e70.q.2.1 e70.q.2.2.1 e70.q.2.2.2.1) e70.q.q.1 e70.q.q.2))) λr76=>.done r76)
def TB(p0 p1 p2 p3 p4 p5 p6 p7:Int)(p8:List ze):Sp (ze):=oF [0,1,2,4,5,7,12,13,14,15] Tryz.func156 [.agg ([.int .u32 p0,.int .u32 p1,.int .u32 p2,.int .u32 p3,.int .u32 p4,.int .u32 p5,.int .u32 p6,.int .u32 p7]++M5),Sl 1 Z6 p8] (Qmr p0 p1 p2 p3 p4 p5 p6 p7 p8) (λr=>.str r)
def Qm4(p0:Int)(p1:ze):TT (ze):=.Qz 1001 (Qw.Ul (ty:=Y3) (t:=57) (e:=5) (k:=.u8) (.const (.int .i64 64)) (.const (.int .i64 64)) 6 64 1) λ_=>.Qz 2003 (Qw.xL (ty:=Y3) (dT:=57) (sT:=9) (elem:=5) (.tmp 7) (.tmp 8) 9 6 64 (List.replicate 64 (0:Int)) p1) λ_=>.bind 1 (.lp (λ(l82:(List Int)×Int)=>Ext.of .normal [(0,.int .u8 p0),(3,.str zg),(4,.ref 6 0 64),(11,.i 64),(12,.i l82.2)] [] [Bt 6 Y3 1 l82.1] (by rfl)) (λl82=>.br 0 (decide (l82.2 < 64)) (.Qf 6003 (bD l82.2 64) (.row 6004 Y3 l82.1 (0+l82.2.toNat) true λx83=>.Qf 6007 (bD l82.2 64) (.row 6008 Y3 l82.1 (0+l82.2.toNat) true λx84=>.re 6008 (Jd.put 6 1 Y3 l82.1 (0+l82.2.toNat) (T5 .u8 x83 p0)) (.done (.inl ((l82.1.set (0+l82.2.toNat) (T5 .u8 x83 p0)),(Q0 (l82.2+1)))))))) (.done (.inr l82.1))) ((P2 (List.replicate 64 (0:Int)) 0 (Q3 p1)),0)) (λ(e85:(List Int))=>Ext.of (.exit 0) [(3,.str zg),(4,.ref 6 0 64)] [] [Bt 6 Y3 1 e85] (by rfl)) (λe85=>.fact (e85.length=64) inferInstance λh86=>.Qz 8002 (Qw.JU (ty:=Y3) (s:=57) (t:=9) (e:=5) (.tmp 23) 24 6 e85 64 (hn:=h86)) λ_=>.done (strOfNums e85))
def lK(p0:Int)(p1:ze):Sp (ze):=oF [0,1,3,4,5,11,12,13] Tryz.func208 [.int .u8 p0,.snap [.str p1]] (Qm4 p0 p1) (λr=>.str r)
def Qmp(p0 p1 p2 p3 p4 p5 p6 p7:Int)(p8:ze)(p9:List ze):TT (ze):=.bind 0 (.br 0 (decide ((64:Int) < (p8.size:Int))) (.view 2004 (TB p0 p1 p2 p3 p4 p5 p6 p7 [p8]) [] λr77=>.done r77) (.done p8)) (λ(e78:ze)=>Ext.l .normal [(2,Sl 1 Z6 p9),(3,.ptr 3 0 0),(4,.ptr 4 0 0),(6,.str zg)] [(3,⟨72,true,[([.int .u32 p0,.int .u32 p1,.int .u32 p2,.int .u32 p3,.int .u32 p4,.int .u32 p5,.int .u32 p6,.int .u32 p7]++M5)]⟩),(4,⟨1,true,[[.str e78]]⟩)]) (λe78=>.view 4003 (lK 92 e78) [] λr87=>.view 4006 (lK 54 e78) [] λr88=>.app 4009 Z6 [r88] p9 16 true (by intros;rfl) (.view 4010 (TB p0 p1 p2 p3 p4 p5 p6 p7 ([r88]++p9)) [(Zs.o 24 Z6 ([r88]++p9))] λr89=>.view 4012 (TB p0 p1 p2 p3 p4 p5 p6 p7 [r87,r89]) [] λr90=>.done r90))
def Sf(p0 p1 p2 p3 p4 p5 p6 p7:Int)(p8:ze)(p9:List ze):Sp (ze):=oF [0,1,2,3,4,6,7,10] Tryz.func155 [.agg ([.int .u32 p0,.int .u32 p1,.int .u32 p2,.int .u32 p3,.int .u32 p4,.int .u32 p5,.int .u32 p6,.int .u32 p7]++M5),.str p8,Sl 1 Z6 p9] (Qmp p0 p1 p2 p3 p4 p5 p6 p7 p8 p9) (λr=>.str r)
def g94(p0 p1 p2:ze)(p3:Int):TT (ze×Int):=.view 1005 (TC [p0,p1,p2]) [] λr59=>.br 0 r59 (.done (zg,3)) (.QV 3 [21] (.oR 3004 (decide (p3 < 0)) (.done (decide ((255:Int) < p3)))) zm λc60=>.br 0 c60 (.done (zg,2)) (.cl 5001 lX λr61=>.view 6005 (Sf r61.1 r61.2.1 r61.2.2.1 r61.2.2.2.1 r61.q.1 r61.q.2.1 r61.q.2.2.1 r61.q.2.2.2 p1 [p0]) [] λr91=>.bind 1 (.lp (λ(l94:ze×ze×Int)=>Ext.l .normal [(2,.str p2),(3,.i p3),(8,.str zg),(9,.i 0),(10,.ptr 10 0 0),(11,.str r91),(12,.str l94.1),(13,.str l94.2.1),(14,.i l94.2.2)] [(10,⟨72,true,[((Du r61)++M5)]⟩)]) (λl94=>.br 0 (decide ((l94.2.1.size:Int) < p3)) (.view 10010 (Sf r61.1 r61.2.1 r61.2.2.1 r61.2.2.2.1 r61.q.1 r61.q.2.1 r61.q.2.2.1 r61.q.2.2.2 r91 [l94.1,p2,(strOfNums [(Qm l94.2.2)])]) [] λr95=>.Qf 11003 (decide (l94.2.1.size+r95.size<=9223372036854775807)) (.done (.inl (r95,(l94.2.1++r95),(Q0 (l94.2.2+1)))))) (.done (.inr l94.2.1))) (zg,zg,1)) (λ(e96:ze)=>Ext.l (.exit 1) [(3,.i p3),(8,.str zg),(9,.i 0),(13,.str e96)] []) (λe96=>.Qf 12003 (decide (0<=p3)&&decide (p3<=(e96.size:Int))) (.done ((e96.extract 0 p3.toNat),0)))))
def s94(p0 p1 p2:ze)(p3:Int):Sp (ze×Int):=oF [0,1,2,3,8,9,10,11,12,13,14,15,21,37] Tryz.func94 [.str p0,.str p1,.str p2,.i p3] (g94 p0 p1 p2 p3) (λr=>.Qt [.str r.1,.i r.2])
def g95(p0:ze):TT (ze×Int):=.view 1003 (TC [p0]) [] λr97=>.br 0 r97 (.done (zg,3)) (.cl 3001 lX λr98=>.view 3004 (TB r98.1 r98.2.1 r98.2.2.1 r98.2.2.2.1 r98.q.1 r98.q.2.1 r98.q.2.2.1 r98.q.2.2.2 [p0]) [] λr99=>.done (r99,0))
def s95(p0:ze):Sp (ze×Int):=oF [0,2,3,6] Tryz.func95 [.str p0] (g95 p0) (λr=>.Qt [.str r.1,.i r.2])
def g96(p0 p1:ze):TT (ze×Int):=.view 1004 (TC [p0,p1]) [] λr100=>.br 0 r100 (.done (zg,3)) (.cl 3001 lX λr101=>.view 3005 (Sf r101.1 r101.2.1 r101.2.2.1 r101.2.2.2.1 r101.q.1 r101.q.2.1 r101.q.2.2.1 r101.q.2.2.2 p0 [p1]) [] λr102=>.done (r102,0))
def s96(p0 p1:ze):Sp (ze×Int):=oF [0,1,4,5,9] Tryz.func96 [.str p0,.str p1] (g96 p0 p1) (λr=>.Qt [.str r.1,.i r.2])
def Qyc(p0 p1:Int):TT (ze×Int):=.QV 1 [8] (.oR 1004 (decide (p0 < 1)) (.oR 1008 (decide ((7:Int) < p0)) (.done (decide (p1 < 0))))) zm λc103=>.br 0 c103 (.done (zg,2)) (.Qf 3004 (decide ((0:Int)<=(Q0 ((8:Int) * p0)))) (.br 0 ((Z3 .i64 p1 (Q0 ((8:Int) * p0))) != 0) (.done (zg,6)) (.Qz 5002 (Qw.bQ (ty:=Y3) (t:=57) (e:=5) (zv:=.int .u8 0) (zc:=.int .u8 0) (0:Int) (.tmp 25) (.tmp 25) 26 p0 p0 1 (by kernel_rfl) (by kernel_rfl) (by kernel_rfl) rfl ⟨rfl,rfl,rfl⟩ (λ_ _=>by constructor)) λ_=>.gh 8 (.len 26 ((List.replicate p0.toNat (0:Int)).length) [p0.toNat] (by simp)) (.bind 1 (.lp (λ(l106:(List Int)×Int)=>Ext.of .normal [(0,.i p0),(1,.i p1),(4,.str zg),(5,.i 0),(6,Rf 26 l106.1),(28,.i ((List.replicate p0.toNat (0:Int)).length:Int)),(29,.i l106.2)] [] [Bt 26 Y3 1 l106.1] (by rfl)) (λl106=>.br 0 (decide (l106.2 < ((List.replicate p0.toNat (0:Int)).length:Int))) (.Qf 9009 (decide ((0:Int)<=(Q0 ((8:Int) * (Q0 ((Q0 (p0 - 1)) - l106.2)))))) (.Qf 9011 (bD l106.2 l106.1.length) (.row 9012 Y3 l106.1 (0+l106.2.toNat) true λx107=>.re 9012 (Jd.put 26 1 Y3 l106.1 (0+l106.2.toNat) (Qm (Z3 .i64 p1 (Q0 ((8:Int) * (Q0 ((Q0 (p0 - 1)) - l106.2))))))) (.gh 12 (.len 26 ((l106.1.set (0+l106.2.toNat) (Qm (Z3 .i64 p1 (Q0 ((8:Int) * (Q0 ((Q0 (p0 - 1)) - l106.2))))))).length) [l106.1.length] (by simp)) (.done (.inl ((l106.1.set (0+l106.2.toNat) (Qm (Z3 .i64 p1 (Q0 ((8:Int) * (Q0 ((Q0 (p0 - 1)) - l106.2))))))),(Q0 (l106.2+1))))))))) (.done (.inr l106.1))) ((List.replicate p0.toNat (0:Int)),0)) (λ(e108:(List Int))=>Ext.of (.exit 1) [(4,.str zg),(5,.i 0),(6,Rf 26 e108)] [] [Bt 26 Y3 1 e108] (by rfl)) (λe108=>.Qz 11002 (Qw.JU (ty:=Y3) (s:=57) (t:=9) (e:=5) (.tmp 44) 45 26 e108 e108.length (hn:=(by simp))) λ_=>.done ((strOfNums e108),0))))))
def tR(p0 p1:Int):Sp (ze×Int):=oF [0,1,4,5,6,7,8,19,28,29,30] Tryz.func229 [.i p0,.i p1] (Qyc p0 p1) (λr=>.Qt [.str r.1,.i r.2])
def Qkw(p0:J9):TT (Ec×Int):=.QV 1 [14] (.oR 1005 (decide (p0.fE < 0)) (.done (decide ((p0.fS.size:Int) < p0.fE)))) zm λc109=>.br 0 c109 (.done ((Ec.mk (J9.mk zg 0)),2)) (.done ((Ec.mk p0),0))
def lY(p0:J9):Sp (Ec×Int):=oF [0,1,2,3,14] Tryz.func256 [.agg [.str p0.fS,.i p0.fE]] (Qkw p0) (λr=>.Qt [.agg [.str r.1.gg.fS,.i r.1.gg.fE],.i r.2])
def Qhr(p0:ze):Sp (ze):=oF [0,2] Tryz.func240 [.str p0] (.done p0:TT (ze)) (λr=>.str r)
def Qyb(p0:J9)(p1 p2 p3:Int):TT (ze×J9×Int):=.cl 1002 (lY p0) λr110=>.br 0 (r110.2 != 0) (.done (zg,(J9.mk zg 0),r110.2)) (.QV 4 [25] (.oR 4005 (decide (p1 < p2)) (.done (decide (p3 < p1)))) zm λc111=>.br 0 c111 (.done (zg,(J9.mk zg 0),2)) (.br 0 (decide ((Q0 ((r110.1.gg.fS.size:Int) - r110.1.gg.fE)) < p1)) (.done (zg,(J9.mk zg 0),7)) (.Qf 8013 ((decide (0<=(Q0 (r110.1.gg.fE+p1)))&&decide ((Q0 (r110.1.gg.fE+p1))<=(r110.1.gg.fS.size:Int)))&&(decide (0<=r110.1.gg.fE)&&decide (r110.1.gg.fE<=((Q0 (r110.1.gg.fE+p1)).toNat:Int)))) (.cl 8014 (Qhr (r110.1.gg.fS.extract r110.1.gg.fE.toNat ((Q0 (r110.1.gg.fE+p1)).toNat))) λr112=>.done (r112,(J9.mk r110.1.gg.fS (Q0 (r110.1.gg.fE+p1))),0)))))
def tN(p0:J9)(p1 p2 p3:Int):Sp (ze×J9×Int):=oF [0,1,2,3,4,5,10,11,12,13,19,25,36] Tryz.func239 [.agg [.str p0.fS,.i p0.fE],.i p1,.i p2,.i p3,.fn 240 [] []] (Qyb p0 p1 p2 p3) (λr=>.Qt [.str r.1,.agg [.str r.2.1.fS,.i r.2.1.fE],.i r.2.2])
def Qj6(p0:J9)(p1:Int):TT (ze×J9×Int):=.cl 1005 (tN p0 p1 0 (if (0:Int) > p1 then (0:Int) else p1)) λr113=>.done (r113.1,r113.2.1,r113.2.2)
def uU(p0:J9)(p1:Int):Sp (ze×J9×Int):=oF [0,1,2,4,5,6] Tryz.func196 [.agg [.str p0.fS,.i p0.fE],.i p1] (Qj6 p0 p1) (λr=>.Qt [.str r.1,.agg [.str r.2.1.fS,.i r.2.1.fE],.i r.2.2])
def Qka(p0:ze):TT (Int):=.Qz 2002 (Qw.octets (ty:=Y3) (s:=9) (t:=57) (e:=5) (.tmp 6) 7 p0) λ_=>.bind 1 (.lp (λ(l118:Int×Int)=>Ext.of .normal [(2,.i 0),(3,.i l118.1),(7,.ref 7 0 ((Q3 p0).length)),(8,.i ((Q3 p0).length:Int)),(9,.i l118.2)] [] [BT.of 7 Y3 1 (Q3 p0) true] (by rfl)) (λl118=>.br 0 (decide (l118.2 < ((Q3 p0).length:Int))) (.Qf 4001 (decide (0<=l118.2)&&decide (l118.2 < ((Q3 p0).length:Int))) (.row 4002 Y3 (Q3 p0) (0+l118.2.toNat) true λx119=>.done (.inl ((Zl .i64 (M6 .i64 l118.1 8) (Q0 x119)),(Q0 (l118.2+1)))))) (.done (.inr l118.1))) (0,0)) (λ(e120:Int)=>Ext.l (.exit 0) [(2,.i 0),(3,.i e120)] []) (λe120=>.done e120)
def lU(p0:ze):Sp (Int):=oF [0,2,3,5,7,8,9,10] Tryz.func242 [.str p0] (Qka p0) (λr=>.int .i64 r)
def Qys(p0:J9)(p1 p2 p3:Int):TT (Int×J9×Int):=.cl 1002 (lY p0) λr114=>.br 0 (r114.2 != 0) (.done (0,(J9.mk zg 0),r114.2)) (.QV 4 [25] (.oR 4005 (decide (p1 < p2)) (.done (decide (p3 < p1)))) zm λc115=>.br 0 c115 (.done (0,(J9.mk zg 0),2)) (.br 0 (decide ((Q0 ((r114.1.gg.fS.size:Int) - r114.1.gg.fE)) < p1)) (.done (0,(J9.mk zg 0),7)) (.Qf 8013 ((decide (0<=(Q0 (r114.1.gg.fE+p1)))&&decide ((Q0 (r114.1.gg.fE+p1))<=(r114.1.gg.fS.size:Int)))&&(decide (0<=r114.1.gg.fE)&&decide (r114.1.gg.fE<=((Q0 (r114.1.gg.fE+p1)).toNat:Int)))) (.cl 8014 (lU (r114.1.gg.fS.extract r114.1.gg.fE.toNat ((Q0 (r114.1.gg.fE+p1)).toNat))) λr121=>.done (r121,(J9.mk r114.1.gg.fS (Q0 (r114.1.gg.fE+p1))),0)))))
def tG(p0:J9)(p1 p2 p3:Int):Sp (Int×J9×Int):=oF [0,1,2,3,4,5,10,11,12,13,19,25,36] Tryz.func241 [.agg [.str p0.fS,.i p0.fE],.i p1,.i p2,.i p3,.fn 242 [] []] (Qys p0 p1 p2 p3) (λr=>.Qt [.i r.1,.agg [.str r.2.1.fS,.i r.2.1.fE],.i r.2.2])
def Qm8(p0:J9)(p1:Int):TT (Int×J9×Int):=.cl 1003 (tG p0 p1 1 7) λr122=>.done (r122.1,r122.2.1,r122.2.2)
def uJ(p0:J9)(p1:Int):Sp (Int×J9×Int):=oF [0,1,2,4,5,6] Tryz.func198 [.agg [.str p0.fS,.i p0.fE],.i p1] (Qm8 p0 p1) (λr=>.Qt [.i r.1,.agg [.str r.2.1.fS,.i r.2.1.fE],.i r.2.2])
structure Q4 where
 a0:Int
 a1:Int
 a2:Int
 a3:Int
 a4:Int
def O3(x:Q4):List V:=[.int .u64 x.a0,.int .u64 x.a1,.int .u64 x.a2,.int .u64 x.a3,.int .u64 x.a4]
structure KI where
 Yt:Q4
 Qv:Q4
structure Y7 where
 fR:KI
 Qr:KI
 fu:Q4
def nV(x:Y7):List V:=[.int .u64 x.fR.Yt.a0,.int .u64 x.fR.Yt.a1,.int .u64 x.fR.Yt.a2,.int .u64 x.fR.Yt.a3,.int .u64 x.fR.Yt.a4,.int .u64 x.fR.Qv.a0,.int .u64 x.fR.Qv.a1,.int .u64 x.fR.Qv.a2,.int .u64 x.fR.Qv.a3,.int .u64 x.fR.Qv.a4,.int .u64 x.Qr.Yt.a0,.int .u64 x.Qr.Yt.a1,.int .u64 x.Qr.Yt.a2,.int .u64 x.Qr.Yt.a3,.int .u64 x.Qr.Yt.a4,.int .u64 x.Qr.Qv.a0,.int .u64 x.Qr.Qv.a1,.int .u64 x.Qr.Qv.a2,.int .u64 x.Qr.Qv.a3,.int .u64 x.Qr.Qv.a4,.int .u64 x.fu.a0,.int .u64 x.fu.a1,.int .u64 x.fu.a2,.int .u64 x.fu.a3,.int .u64 x.fu.a4]
def Qks(p0:Q4):TT (Q4):=.tt (.tt (.tt (.tt (.tt (.ff (.done (Q4.mk (Z1 ((U0 .u64 (Z1 (p0.a0+0)) 2251799813685247)+(Z1 ((19:Int) * (Z3 .u64 (Z1 (p0.a4+(Z3 .u64 (Z1 (p0.a3+(Z3 .u64 (Z1 (p0.a2+(Z3 .u64 (Z1 (p0.a1+(Z3 .u64 (Z1 (p0.a0+0)) 51))) 51))) 51))) 51))) 51))))) (U0 .u64 (Z1 (p0.a1+(Z3 .u64 (Z1 (p0.a0+0)) 51))) 2251799813685247) (U0 .u64 (Z1 (p0.a2+(Z3 .u64 (Z1 (p0.a1+(Z3 .u64 (Z1 (p0.a0+0)) 51))) 51))) 2251799813685247) (U0 .u64 (Z1 (p0.a3+(Z3 .u64 (Z1 (p0.a2+(Z3 .u64 (Z1 (p0.a1+(Z3 .u64 (Z1 (p0.a0+0)) 51))) 51))) 51))) 2251799813685247) (U0 .u64 (Z1 (p0.a4+(Z3 .u64 (Z1 (p0.a3+(Z3 .u64 (Z1 (p0.a2+(Z3 .u64 (Z1 (p0.a1+(Z3 .u64 (Z1 (p0.a0+0)) 51))) 51))) 51))) 51))) 2251799813685247))))))))
def Fo(p0:Q4):Sp (Q4):=oF [0,1,2,3,4,5,6] Tryz.func224 [.agg (O3 p0)] (Qks p0) (λr=>.agg (O3 r))
def Qkc(p0 p1:Q4):TT (Q4):=.tt (.tt (.tt (.tt (.tt (.ff (.cl 6002 (Fo (Q4.mk (Z1 (p0.a0+p1.a0)) (Z1 (p0.a1+p1.a1)) (Z1 (p0.a2+p1.a2)) (Z1 (p0.a3+p1.a3)) (Z1 (p0.a4+p1.a4)))) λr123=>.done r123))))))
def TP(p0 p1:Q4):Sp (Q4):=oF [0,1,2,3,4,5,6,7] Tryz.func222 [.agg (O3 p0),.agg (O3 p1)] (Qkc p0 p1) (λr=>.agg (O3 r))
def Qkb(p0 p1:Q4):TT (Q4):=.tt (.tt (.tt (.tt (.tt (.ff (.cl 7002 (Fo (Q4.mk (Z1 ((Z1 (p0.a0+(Z1 ((9007199254740988:Int) - p1.a0)))) - 72)) (Z1 (p0.a1+(Z1 ((9007199254740988:Int) - p1.a1)))) (Z1 (p0.a2+(Z1 ((9007199254740988:Int) - p1.a2)))) (Z1 (p0.a3+(Z1 ((9007199254740988:Int) - p1.a3)))) (Z1 (p0.a4+(Z1 ((9007199254740988:Int) - p1.a4)))))) λr124=>.done r124))))))
def TR(p0 p1:Q4):Sp (Q4):=oF [0,1,2,3,4,5,6,7] Tryz.func223 [.agg (O3 p0),.agg (O3 p1)] (Qkb p0 p1) (λr=>.agg (O3 r))
def Qmh(p0 p1:Q4):TT (Q4):=.tt (.tt (.ff (.cl 11003 (HC p0.a0 p1.a0) λr125=>.Qz 13006 (adc (.tmp 50) (.tmp 51) (.const (.int .u64 0)) 52 0 r125.2 0) λr126=>.Qz 14007 (adc (.tmp 60) (.tmp 61) (.tmp 62) 63 0 r125.1 r126.2) λr127=>.tt (.ff (.cl 11003 (HC p0.a0 p1.a1) λr128=>.Qz 13006 (adc (.tmp 50) (.tmp 51) (.const (.int .u64 0)) 52 0 r128.2 0) λr129=>.Qz 14007 (adc (.tmp 60) (.tmp 61) (.tmp 62) 63 0 r128.1 r129.2) λr130=>.tt (.ff (.cl 11003 (HC p0.a0 p1.a2) λr131=>.Qz 13006 (adc (.tmp 50) (.tmp 51) (.const (.int .u64 0)) 52 0 r131.2 0) λr132=>.Qz 14007 (adc (.tmp 60) (.tmp 61) (.tmp 62) 63 0 r131.1 r132.2) λr133=>.tt (.ff (.cl 11003 (HC p0.a0 p1.a3) λr134=>.Qz 13006 (adc (.tmp 50) (.tmp 51) (.const (.int .u64 0)) 52 0 r134.2 0) λr135=>.Qz 14007 (adc (.tmp 60) (.tmp 61) (.tmp 62) 63 0 r134.1 r135.2) λr136=>.tt (.ff (.cl 11003 (HC p0.a0 p1.a4) λr137=>.Qz 13006 (adc (.tmp 50) (.tmp 51) (.const (.int .u64 0)) 52 0 r137.2 0) λr138=>.Qz 14007 (adc (.tmp 60) (.tmp 61) (.tmp 62) 63 0 r137.1 r138.2) λr139=>.ff (.tt (.tt (.ff (.cl 11003 (HC p0.a1 p1.a0) λr140=>.Qz 13006 (adc (.tmp 50) (.tmp 51) (.const (.int .u64 0)) 52 r129.1 r140.2 0) λr141=>.Qz 14007 (adc (.tmp 60) (.tmp 61) (.tmp 62) 63 r130.1 r140.1 r141.2) λr142=>.tt (.ff (.cl 11003 (HC p0.a1 p1.a1) λr143=>.Qz 13006 (adc (.tmp 50) (.tmp 51) (.const (.int .u64 0)) 52 r132.1 r143.2 0) λr144=>.Qz 14007 (adc (.tmp 60) (.tmp 61) (.tmp 62) 63 r133.1 r143.1 r144.2) λr145=>.tt (.ff (.cl 11003 (HC p0.a1 p1.a2) λr146=>.Qz 13006 (adc (.tmp 50) (.tmp 51) (.const (.int .u64 0)) 52 r135.1 r146.2 0) λr147=>.Qz 14007 (adc (.tmp 60) (.tmp 61) (.tmp 62) 63 r136.1 r146.1 r147.2) λr148=>.tt (.ff (.cl 11003 (HC p0.a1 p1.a3) λr149=>.Qz 13006 (adc (.tmp 50) (.tmp 51) (.const (.int .u64 0)) 52 r138.1 r149.2 0) λr150=>.Qz 14007 (adc (.tmp 60) (.tmp 61) (.tmp 62) 63 r139.1 r149.1 r150.2) λr151=>.tt (.tt (.cl 11003 (HC p0.a1 (Z1 ((19:Int) * p1.a4))) λr152=>.Qz 13006 (adc (.tmp 50) (.tmp 51) (.const (.int .u64 0)) 52 r126.1 r152.2 0) λr153=>.Qz 14007 (adc (.tmp 60) (.tmp 61) (.tmp 62) 63 r127.1 r152.1 r153.2) λr154=>.ff (.tt (.tt (.ff (.cl 11003 (HC p0.a2 p1.a0) λr155=>.Qz 13006 (adc (.tmp 50) (.tmp 51) (.const (.int .u64 0)) 52 r144.1 r155.2 0) λr156=>.Qz 14007 (adc (.tmp 60) (.tmp 61) (.tmp 62) 63 r145.1 r155.1 r156.2) λr157=>.tt (.ff (.cl 11003 (HC p0.a2 p1.a1) λr158=>.Qz 13006 (adc (.tmp 50) (.tmp 51) (.const (.int .u64 0)) 52 r147.1 r158.2 0) λr159=>.Qz 14007 (adc (.tmp 60) (.tmp 61) (.tmp 62) 63 r148.1 r158.1 r159.2) λr160=>.tt (.ff (.cl 11003 (HC p0.a2 p1.a2) λr161=>.Qz 13006 (adc (.tmp 50) (.tmp 51) (.const (.int .u64 0)) 52 r150.1 r161.2 0) λr162=>.Qz 14007 (adc (.tmp 60) (.tmp 61) (.tmp 62) 63 r151.1 r161.1 r162.2) λr163=>.tt (.tt (.cl 11003 (HC p0.a2 (Z1 ((19:Int) * p1.a3))) λr164=>.Qz 13006 (adc (.tmp 50) (.tmp 51) (.const (.int .u64 0)) 52 r153.1 r164.2 0) λr165=>.Qz 14007 (adc (.tmp 60) (.tmp 61) (.tmp 62) 63 r154.1 r164.1 r165.2) λr166=>.tt (.tt (.cl 11003 (HC p0.a2 (Z1 ((19:Int) * p1.a4))) λr167=>.Qz 13006 (adc (.tmp 50) (.tmp 51) (.const (.int .u64 0)) 52 r141.1 r167.2 0) λr168=>.Qz 14007 (adc (.tmp 60) (.tmp 61) (.tmp 62) 63 r142.1 r167.1 r168.2) λr169=>.ff (.tt (.tt (.ff (.cl 11003 (HC p0.a3 p1.a0) λr170=>.Qz 13006 (adc (.tmp 50) (.tmp 51) (.const (.int .u64 0)) 52 r159.1 r170.2 0) λr171=>.Qz 14007 (adc (.tmp 60) (.tmp 61) (.tmp 62) 63 r160.1 r170.1 r171.2) λr172=>.tt (.ff (.cl 11003 (HC p0.a3 p1.a1) λr173=>.Qz 13006 (adc (.tmp 50) (.tmp 51) (.const (.int .u64 0)) 52 r162.1 r173.2 0) λr174=>.Qz 14007 (adc (.tmp 60) (.tmp 61) (.tmp 62) 63 r163.1 r173.1 r174.2) λr175=>.tt (.tt (.cl 11003 (HC p0.a3 (Z1 ((19:Int) * p1.a2))) λr176=>.Qz 13006 (adc (.tmp 50) (.tmp 51) (.const (.int .u64 0)) 52 r165.1 r176.2 0) λr177=>.Qz 14007 (adc (.tmp 60) (.tmp 61) (.tmp 62) 63 r166.1 r176.1 r177.2) λr178=>.tt (.tt (.cl 11003 (HC p0.a3 (Z1 ((19:Int) * p1.a3))) λr179=>.Qz 13006 (adc (.tmp 50) (.tmp 51) (.const (.int .u64 0)) 52 r168.1 r179.2 0) λr180=>.Qz 14007 (adc (.tmp 60) (.tmp 61) (.tmp 62) 63 r169.1 r179.1 r180.2) λr181=>.tt (.tt (.cl 11003 (HC p0.a3 (Z1 ((19:Int) * p1.a4))) λr182=>.Qz 13006 (adc (.tmp 50) (.tmp 51) (.const (.int .u64 0)) 52 r156.1 r182.2 0) λr183=>.Qz 14007 (adc (.tmp 60) (.tmp 61) (.tmp 62) 63 r157.1 r182.1 r183.2) λr184=>.ff (.tt (.tt (.ff (.cl 11003 (HC p0.a4 p1.a0) λr185=>.Qz 13006 (adc (.tmp 50) (.tmp 51) (.const (.int .u64 0)) 52 r174.1 r185.2 0) λr186=>.Qz 14007 (adc (.tmp 60) (.tmp 61) (.tmp 62) 63 r175.1 r185.1 r186.2) λr187=>.tt (.tt (.cl 11003 (HC p0.a4 (Z1 ((19:Int) * p1.a1))) λr188=>.Qz 13006 (adc (.tmp 50) (.tmp 51) (.const (.int .u64 0)) 52 r177.1 r188.2 0) λr189=>.Qz 14007 (adc (.tmp 60) (.tmp 61) (.tmp 62) 63 r178.1 r188.1 r189.2) λr190=>.tt (.tt (.cl 11003 (HC p0.a4 (Z1 ((19:Int) * p1.a2))) λr191=>.Qz 13006 (adc (.tmp 50) (.tmp 51) (.const (.int .u64 0)) 52 r180.1 r191.2 0) λr192=>.Qz 14007 (adc (.tmp 60) (.tmp 61) (.tmp 62) 63 r181.1 r191.1 r192.2) λr193=>.tt (.tt (.cl 11003 (HC p0.a4 (Z1 ((19:Int) * p1.a3))) λr194=>.Qz 13006 (adc (.tmp 50) (.tmp 51) (.const (.int .u64 0)) 52 r183.1 r194.2 0) λr195=>.Qz 14007 (adc (.tmp 60) (.tmp 61) (.tmp 62) 63 r184.1 r194.1 r195.2) λr196=>.tt (.tt (.cl 11003 (HC p0.a4 (Z1 ((19:Int) * p1.a4))) λr197=>.Qz 13006 (adc (.tmp 50) (.tmp 51) (.const (.int .u64 0)) 52 r171.1 r197.2 0) λr198=>.Qz 14007 (adc (.tmp 60) (.tmp 61) (.tmp 62) 63 r172.1 r197.1 r198.2) λr199=>.ff (.ff (.tt (.Qz 22006 (adc (.tmp 76) (.tmp 77) (.const (.int .u64 0)) 78 r189.1 0 0) λr200=>.tt (.Qz 22006 (adc (.tmp 76) (.tmp 77) (.const (.int .u64 0)) 78 r192.1 (Zl .u64 (M6 .u64 (Z1 (r190.1+r200.2)) 13) (Z3 .u64 r200.1 51)) 0) λr201=>.tt (.Qz 22006 (adc (.tmp 76) (.tmp 77) (.const (.int .u64 0)) 78 r195.1 (Zl .u64 (M6 .u64 (Z1 (r193.1+r201.2)) 13) (Z3 .u64 r201.1 51)) 0) λr202=>.tt (.Qz 22006 (adc (.tmp 76) (.tmp 77) (.const (.int .u64 0)) 78 r198.1 (Zl .u64 (M6 .u64 (Z1 (r196.1+r202.2)) 13) (Z3 .u64 r202.1 51)) 0) λr203=>.tt (.Qz 22006 (adc (.tmp 76) (.tmp 77) (.const (.int .u64 0)) 78 r186.1 (Zl .u64 (M6 .u64 (Z1 (r199.1+r203.2)) 13) (Z3 .u64 r203.1 51)) 0) λr204=>.ff (.cl 27002 (HC (Zl .u64 (M6 .u64 (Z1 (r187.1+r204.2)) 13) (Z3 .u64 r204.1 51)) 19) λr205=>.Qz 28004 (adc (.tmp 111) (.tmp 112) (.const (.int .u64 0)) 113 (U0 .u64 r200.1 2251799813685247) r205.2 0) λr206=>.cl 32002 (Fo (Q4.mk (U0 .u64 r206.1 2251799813685247) (Z1 ((U0 .u64 r201.1 2251799813685247)+(Zl .u64 (M6 .u64 (Z1 (r205.1+r206.2)) 13) (Z3 .u64 r206.1 51)))) (U0 .u64 r202.1 2251799813685247) (U0 .u64 r203.1 2251799813685247) (U0 .u64 r204.1 2251799813685247))) λr207=>.done r207)))))))))))))))))))))))))))))))))))))))))))))))))))))))))))))))))))
def Mj(p0 p1:Q4):Sp (Q4):=oF [0,1,2,3,4,5,6,7,8,9,10,11,12,13,14,15,16,17,18,19,20,21,22,23,26,27,28,35,69,70] Tryz.func183 [.agg (O3 p0),.agg (O3 p1)] (Qmh p0 p1) (λr=>.agg (O3 r))
def Qyt(p0:Bool)(p1 p2:Q4):TT (Q4):=.cl 3 (Mj p1 p1) λr209=>.br 0 p0 (.cl 2003 (Mj r209 p2) λr210=>.done r210) (.done r209)
def Sd(p0:Bool)(p1 p2:Q4):Sp (Q4):=.Ze 225 [] Q9 Tryz.func225 rfl (λ_=>rfl) (show Jx Pg GG [0,1,2,7] Tryz.f225 [.bool p0,.ptr zE 0 0,.ptr zU 0 0] (Ext.of .normal (U5 [.bool p0,.ptr zE 0 0,.ptr zU 0 0]) [(zE,⟨5,true,[(O3 p1)]⟩),(zU,⟨5,true,[(O3 p2)]⟩)] [] (by rfl)) (Qyt p0 p1 p2) (λ(r:Q4)=>.Qt []) (λ(r:Q4)=>Ext.of .normal [] [(zE,⟨5,true,[(O3 r)]⟩),(zU,⟨5,true,[(O3 p2)]⟩)] [] (by rfl)) by unfold Jx;kernel_rfl)
def Qmu(p0:Q4):TT (Q4):=.bind 1 (.lp (λ(l211:Q4×Int)=>Ext.l .normal [(2,.ptr 2 0 0),(3,.ptr 3 0 0),(4,.fn 225 [] [.ptr 3 0 0,.ptr 1 0 0]),(9,.i l211.2)] [(1,⟨5,true,[(O3 p0)]⟩),(2,⟨5,true,[(X9 5 (.int .u64 0) [])]⟩),(3,⟨5,true,[(O3 l211.1)]⟩)]) (λl211=>.br 0 (decide (l211.2 < 250)) (.call 5002 (Sd true l211.1 p0) [(zE,3),(zU,1)] [] λr213=>.done (.inl (r213,(Q0 (l211.2+1))))) (.done (.inr l211.1))) ((Q4.mk 1 0 0 0 0),0)) (λ(e214:Q4)=>Ext.l (.exit 0) [(2,.ptr 2 0 0),(3,.ptr 3 0 0),(4,.fn 225 [] [.ptr 3 0 0,.ptr 1 0 0])] [(1,⟨5,true,[(O3 p0)]⟩),(2,⟨5,true,[(X9 5 (.int .u64 0) [])]⟩),(3,⟨5,true,[(O3 e214)]⟩)]) (λe214=>.tt (.call 10003 (Sd false e214 p0) [(zE,3),(zU,1)] [] λr216=>.tt (.call 10003 (Sd true r216 p0) [(zE,3),(zU,1)] [] λr218=>.tt (.call 10003 (Sd false r218 p0) [(zE,3),(zU,1)] [] λr220=>.tt (.call 10003 (Sd true r220 p0) [(zE,3),(zU,1)] [] λr222=>.tt (.call 10003 (Sd true r222 p0) [(zE,3),(zU,1)] [] λr224=>.ff (.done r224)))))))
def vM(p0:Q4):Sp (Q4):=oF [0,1,2,3,4,6,9,10,14,15,16] Tryz.func184 [.agg (O3 p0)] (Qmu p0) (λr=>.agg (O3 r))
def Qmk(p0:ze):TT (Q4):=.bind 1 (.lp (λ(l226:Q4×Int)=>Ext.l .normal [(0,.str p0),(2,.ptr 2 0 0),(3,.ptr 3 0 0),(5,.i l226.2)] [(2,⟨5,true,[(X9 5 (.int .u64 0) [])]⟩),(3,⟨5,true,[(O3 l226.1)]⟩)]) (λl226=>.br 0 (decide (l226.2 < 255)) (.Qf 5004 (decide (0<=(Q0 (Int.tdiv l226.2 8))/\(Q0 (Int.tdiv l226.2 8)) < (p0.size:Int))) (.Qf 5007 (decide ((0:Int)<=(Int.tmod l226.2 8))) (.br 0 ((U0 .u8 (Z3 .u8 (QZ p0 (Q0 (Int.tdiv l226.2 8))) (Int.tmod l226.2 8)) 1)==1) (.HU 6003 (Q0 (Int.tdiv l226.2 51)) [0,1,2,3,4] (λv=>bif v==0 then .Qf 6007 (decide ((0:Int)<=(Int.tmod l226.2 51))) (.done (.inl ((Q4.mk (Zl .u64 l226.1.a0 (M6 .u64 1 (Int.tmod l226.2 51))) l226.1.a1 l226.1.a2 l226.1.a3 l226.1.a4),(Q0 (l226.2+1))))) else bif v==1 then .Qf 6007 (decide ((0:Int)<=(Int.tmod l226.2 51))) (.done (.inl ((Q4.mk l226.1.a0 (Zl .u64 l226.1.a1 (M6 .u64 1 (Int.tmod l226.2 51))) l226.1.a2 l226.1.a3 l226.1.a4),(Q0 (l226.2+1))))) else bif v==2 then .Qf 6007 (decide ((0:Int)<=(Int.tmod l226.2 51))) (.done (.inl ((Q4.mk l226.1.a0 l226.1.a1 (Zl .u64 l226.1.a2 (M6 .u64 1 (Int.tmod l226.2 51))) l226.1.a3 l226.1.a4),(Q0 (l226.2+1))))) else bif v==3 then .Qf 6007 (decide ((0:Int)<=(Int.tmod l226.2 51))) (.done (.inl ((Q4.mk l226.1.a0 l226.1.a1 l226.1.a2 (Zl .u64 l226.1.a3 (M6 .u64 1 (Int.tmod l226.2 51))) l226.1.a4),(Q0 (l226.2+1))))) else bif v==4 then .Qf 6007 (decide ((0:Int)<=(Int.tmod l226.2 51))) (.done (.inl ((Q4.mk l226.1.a0 l226.1.a1 l226.1.a2 l226.1.a3 (Zl .u64 l226.1.a4 (M6 .u64 1 (Int.tmod l226.2 51)))),(Q0 (l226.2+1))))) else .fail)) (.done (.inl (l226.1,(Q0 (l226.2+1)))))))) (.done (.inr l226.1))) ((Q4.mk 0 0 0 0 0),0)) (λ(e227:Q4)=>Ext.l (.exit 0) [(2,.ptr 2 0 0),(3,.ptr 3 0 0)] [(2,⟨5,true,[(X9 5 (.int .u64 0) [])]⟩),(3,⟨5,true,[(O3 e227)]⟩)]) (λe227=>.done e227)
def lM(p0:ze):Sp (Q4):=oF [0,2,3,4,5,6,16] Tryz.func179 [.str p0] (Qmk p0) (λr=>.agg (O3 r))
def Qmj(p0:Q4):TT (ze):=.cl 1002 (Fo p0) λr228=>.cl 1003 (Fo r228) λr229=>.tt (.tt (.tt (.tt (.tt (.ff (.bind 0 (.br 0 (decide ((0:Int) < (Z3 .u64 (Z1 (r229.a4+(Z3 .u64 (Z1 (r229.a3+(Z3 .u64 (Z1 (r229.a2+(Z3 .u64 (Z1 (r229.a1+(Z3 .u64 (Z1 ((Z1 (r229.a0+19))+0)) 51))) 51))) 51))) 51))) 51))) (.done (Q4.mk (U0 .u64 (Z1 ((Z1 (r229.a0+19))+0)) 2251799813685247) (U0 .u64 (Z1 (r229.a1+(Z3 .u64 (Z1 ((Z1 (r229.a0+19))+0)) 51))) 2251799813685247) (U0 .u64 (Z1 (r229.a2+(Z3 .u64 (Z1 (r229.a1+(Z3 .u64 (Z1 ((Z1 (r229.a0+19))+0)) 51))) 51))) 2251799813685247) (U0 .u64 (Z1 (r229.a3+(Z3 .u64 (Z1 (r229.a2+(Z3 .u64 (Z1 (r229.a1+(Z3 .u64 (Z1 ((Z1 (r229.a0+19))+0)) 51))) 51))) 51))) 2251799813685247) (U0 .u64 (Z1 (r229.a4+(Z3 .u64 (Z1 (r229.a3+(Z3 .u64 (Z1 (r229.a2+(Z3 .u64 (Z1 (r229.a1+(Z3 .u64 (Z1 ((Z1 (r229.a0+19))+0)) 51))) 51))) 51))) 51))) 2251799813685247))) (.done r229)) (λ(e230:Q4)=>Ext.l .normal [(1,.ptr 1 0 0),(2,.str zg)] [(1,⟨5,true,[(O3 e230)]⟩)]) (λe230=>.Qz 14001 (Qw.Ul (ty:=Y3) (t:=57) (e:=5) (k:=.u8) (.const (.int .i64 32)) (.const (.int .i64 32)) 38 32 1) λ_=>.bind 1 (.lp (λ(l234:(List Int)×Int)=>Ext.of .normal [(1,.ptr 1 0 0),(2,.str zg),(6,.ref 38 0 32),(39,.i l234.2)] [(1,⟨5,true,[(O3 e230)]⟩)] [Bt 38 Y3 1 l234.1] (by rfl)) (λl234=>.br 0 (decide (l234.2 < 255)) (.Qf 18004 (decide (0<=(Q0 (Int.tdiv l234.2 8)))&&decide ((Q0 (Int.tdiv l234.2 8)) < (32:Int))) (.row 18005 Y3 l234.1 (0+(Q0 (Int.tdiv l234.2 8)).toNat) true λx235=>.HU 18008 (Q0 (Int.tdiv l234.2 51)) [0,1,2,3,4] (λv=>bif v==0 then .Qf 18012 (decide ((0:Int)<=(Int.tmod l234.2 51))) (.Qf 18017 (decide ((0:Int)<=(Int.tmod l234.2 8))) (.Qf 18019 (decide (0<=(Q0 (Int.tdiv l234.2 8)))&&decide ((Q0 (Int.tdiv l234.2 8)) < (32:Int))) (.row 18020 Y3 l234.1 (0+(Q0 (Int.tdiv l234.2 8)).toNat) true λx236=>.re 18020 (Jd.put 38 1 Y3 l234.1 (0+(Q0 (Int.tdiv l234.2 8)).toNat) (Zl .u8 x235 (M6 .u8 (Qm (U0 .u64 (Z3 .u64 e230.a0 (Int.tmod l234.2 51)) 1)) (Int.tmod l234.2 8)))) (.done (.inl ((l234.1.set (0+(Q0 (Int.tdiv l234.2 8)).toNat) (Zl .u8 x235 (M6 .u8 (Qm (U0 .u64 (Z3 .u64 e230.a0 (Int.tmod l234.2 51)) 1)) (Int.tmod l234.2 8)))),(Q0 (l234.2+1)))))))) else bif v==1 then .Qf 18012 (decide ((0:Int)<=(Int.tmod l234.2 51))) (.Qf 18017 (decide ((0:Int)<=(Int.tmod l234.2 8))) (.Qf 18019 (decide (0<=(Q0 (Int.tdiv l234.2 8)))&&decide ((Q0 (Int.tdiv l234.2 8)) < (32:Int))) (.row 18020 Y3 l234.1 (0+(Q0 (Int.tdiv l234.2 8)).toNat) true λx237=>.re 18020 (Jd.put 38 1 Y3 l234.1 (0+(Q0 (Int.tdiv l234.2 8)).toNat) (Zl .u8 x235 (M6 .u8 (Qm (U0 .u64 (Z3 .u64 e230.a1 (Int.tmod l234.2 51)) 1)) (Int.tmod l234.2 8)))) (.done (.inl ((l234.1.set (0+(Q0 (Int.tdiv l234.2 8)).toNat) (Zl .u8 x235 (M6 .u8 (Qm (U0 .u64 (Z3 .u64 e230.a1 (Int.tmod l234.2 51)) 1)) (Int.tmod l234.2 8)))),(Q0 (l234.2+1)))))))) else bif v==2 then .Qf 18012 (decide ((0:Int)<=(Int.tmod l234.2 51))) (.Qf 18017 (decide ((0:Int)<=(Int.tmod l234.2 8))) (.Qf 18019 (decide (0<=(Q0 (Int.tdiv l234.2 8)))&&decide ((Q0 (Int.tdiv l234.2 8)) < (32:Int))) (.row 18020 Y3 l234.1 (0+(Q0 (Int.tdiv l234.2 8)).toNat) true λx238=>.re 18020 (Jd.put 38 1 Y3 l234.1 (0+(Q0 (Int.tdiv l234.2 8)).toNat) (Zl .u8 x235 (M6 .u8 (Qm (U0 .u64 (Z3 .u64 e230.a2 (Int.tmod l234.2 51)) 1)) (Int.tmod l234.2 8)))) (.done (.inl ((l234.1.set (0+(Q0 (Int.tdiv l234.2 8)).toNat) (Zl .u8 x235 (M6 .u8 (Qm (U0 .u64 (Z3 .u64 e230.a2 (Int.tmod l234.2 51)) 1)) (Int.tmod l234.2 8)))),(Q0 (l234.2+1)))))))) else bif v==3 then .Qf 18012 (decide ((0:Int)<=(Int.tmod l234.2 51))) (.Qf 18017 (decide ((0:Int)<=(Int.tmod l234.2 8))) (.Qf 18019 (decide (0<=(Q0 (Int.tdiv l234.2 8)))&&decide ((Q0 (Int.tdiv l234.2 8)) < (32:Int))) (.row 18020 Y3 l234.1 (0+(Q0 (Int.tdiv l234.2 8)).toNat) true λx239=>.re 18020 (Jd.put 38 1 Y3 l234.1 (0+(Q0 (Int.tdiv l234.2 8)).toNat) (Zl .u8 x235 (M6 .u8 (Qm (U0 .u64 (Z3 .u64 e230.a3 (Int.tmod l234.2 51)) 1)) (Int.tmod l234.2 8)))) (.done (.inl ((l234.1.set (0+(Q0 (Int.tdiv l234.2 8)).toNat) (Zl .u8 x235 (M6 .u8 (Qm (U0 .u64 (Z3 .u64 e230.a3 (Int.tmod l234.2 51)) 1)) (Int.tmod l234.2 8)))),(Q0 (l234.2+1)))))))) else bif v==4 then .Qf 18012 (decide ((0:Int)<=(Int.tmod l234.2 51))) (.Qf 18017 (decide ((0:Int)<=(Int.tmod l234.2 8))) (.Qf 18019 (decide (0<=(Q0 (Int.tdiv l234.2 8)))&&decide ((Q0 (Int.tdiv l234.2 8)) < (32:Int))) (.row 18020 Y3 l234.1 (0+(Q0 (Int.tdiv l234.2 8)).toNat) true λx240=>.re 18020 (Jd.put 38 1 Y3 l234.1 (0+(Q0 (Int.tdiv l234.2 8)).toNat) (Zl .u8 x235 (M6 .u8 (Qm (U0 .u64 (Z3 .u64 e230.a4 (Int.tmod l234.2 51)) 1)) (Int.tmod l234.2 8)))) (.done (.inl ((l234.1.set (0+(Q0 (Int.tdiv l234.2 8)).toNat) (Zl .u8 x235 (M6 .u8 (Qm (U0 .u64 (Z3 .u64 e230.a4 (Int.tmod l234.2 51)) 1)) (Int.tmod l234.2 8)))),(Q0 (l234.2+1)))))))) else .fail))) (.done (.inr l234.1))) ((List.replicate 32 (0:Int)),0)) (λ(e241:(List Int))=>Ext.of (.exit 2) [(2,.str zg),(6,.ref 38 0 32)] [] [Bt 38 Y3 1 e241] (by rfl)) (λe241=>.fact (e241.length=32) inferInstance λh242=>.Qz 20002 (Qw.JU (ty:=Y3) (s:=57) (t:=9) (e:=5) (.tmp 62) 63 38 e241 32 (hn:=h242)) λ_=>.done (strOfNums e241)))))))))
def vK(p0:Q4):Sp (ze):=oF [0,1,2,3,4,5,6,7,16,17,36,39,40] Tryz.func185 [.agg (O3 p0)] (Qmj p0) (λr=>.str r)
def Qmw(p0:ze):TT (ze):=.fact ((Q3 p0)=I1 (Zd p0)) inferInstance λh243=>.Qz 1002 (Qw.octets (ty:=Y3) (s:=9) (t:=57) (e:=5) (.tmp 4) 5 p0) λ_=>.Qz 1003 (Qw.bT (e:=5) 188 (.tmp 5) 6 5 ⟨1,true,(List.map Y3.c (Q3 p0))⟩ 32 ((Q3 p0).length)) λ_=>.Qz 1004 (Qw.DR 188 (.tmp 6) 7 5 ⟨1,true,(List.map Y3.c (Q3 p0))⟩ (.agg (yP (Zd p0))) (show 1 < Y8 by decide) (by rw[h243];kernel_rfl)) λ_=>.Qz 1005 (Qw.Mp (ty:=Y3) 188 3 (I1 (λ_=>0))) λ_=>.Qz 1006 (Qw.KN (ty:=Y3) 188 (.tmp 3) (.tmp 7) 3 ⟨1,true,(List.map Y3.c (I1 (λ_=>0)))⟩ (.agg (yP (Zd p0))) (I1 (Zd p0))) λ_=>.Qz 2001 (Qw.Yi (e:=5) 188 (.tmp 3) (.const (.int .i64 0)) 8 3 ⟨1,true,(List.map Y3.c (I1 (Zd p0)))⟩ 0 .i64 0 32) λ_=>.row 2002 Y3 (I1 (Zd p0)) 0 true λx244=>.Qz 2004 (Qw.Yi (e:=5) 188 (.tmp 3) (.const (.int .i64 0)) 11 3 ⟨1,true,(List.map Y3.c (I1 (Zd p0)))⟩ 0 .i64 0 32) λ_=>.row 2005 Y3 (I1 (Zd p0)) 0 true λx245=>.re 2005 (Jd.Qw8 3 Y3 (Zd p0) 0 (U0 .u8 x244 248)) (.Qz 3001 (Qw.Yi (e:=5) 188 (.tmp 3) (.const (.int .i64 31)) 12 3 ⟨1,true,(List.map Y3.c (I1 (U7 (Zd p0) 0 (U0 .u8 x244 248))))⟩ 0 .i64 31 32) λ_=>.row 3002 Y3 (I1 (U7 (Zd p0) 0 (U0 .u8 x244 248))) 31 true λx246=>.Qz 3005 (Qw.Yi (e:=5) 188 (.tmp 3) (.const (.int .i64 31)) 16 3 ⟨1,true,(List.map Y3.c (I1 (U7 (Zd p0) 0 (U0 .u8 x244 248))))⟩ 0 .i64 31 32) λ_=>.row 3006 Y3 (I1 (U7 (Zd p0) 0 (U0 .u8 x244 248))) 31 true λx247=>.re 3006 (Jd.Qw8 3 Y3 (U7 (Zd p0) 0 (U0 .u8 x244 248)) 31 (Zl .u8 (U0 .u8 x246 127) 64)) (.Qz 4001 (Qw.Qdy (e:=5) 188 (.tmp 3) 17 3 ⟨1,true,(List.map Y3.c (I1 (U7 (U7 (Zd p0) 0 (U0 .u8 x244 248)) 31 (Zl .u8 (U0 .u8 x246 127) 64))))⟩ 32) λ_=>.Qz 4002 (Qw.JU (ty:=Y3) (s:=57) (t:=9) (e:=5) (.tmp 17) 18 3 (I1 (U7 (U7 (Zd p0) 0 (U0 .u8 x244 248)) 31 (Zl .u8 (U0 .u8 x246 127) 64))) 32 (hn:=(by rfl))) λ_=>.done (strOfNums (I1 (U7 (U7 (Zd p0) 0 (U0 .u8 x244 248)) 31 (Zl .u8 (U0 .u8 x246 127) 64))))))
def vE(p0:ze):Sp (ze):=oF [0,2,3] Tryz.func181 [.str p0] (Qmw p0) (λr=>.str r)
noncomputable def qI:Code:=(cB (cR (cL (cR (cR (cR (Tryz.f123.body.getD .skip)))))))
def iW:Code:=MR qI
def GD:List (Nat×V):=[(5,.ptr 1000005 0 0),(6,.ptr 1000006 0 0),(19,.fn 221 [] [.ptr 1700070 0 0])]
def ReL(u:Q4)(y:Y7)(s:ze):List (Nat×Qa):=[(1000005,⟨5,true,[(O3 u)]⟩),(1000006,⟨25,true,[(nV y)]⟩),(1700070,⟨1,true,[[.str s]]⟩)]
def PU(ts:List (Nat×V))(u:Q4)(y:Y7)(s:ze):Ext:=Ext.of .normal ts (ReL u y s) [] (by rfl)
def Qj8(p0:Y7):TT (Q4×Q4×Q4×Q4):=.cl 11 (TP p0.fR.Yt p0.fR.Qv) λr262=>.cl 22 (TR p0.fR.Yt p0.fR.Qv) λr263=>.cl 1003 (Mj r262 r262) λr264=>.cl 1006 (Mj r263 r263) λr265=>.cl 2003 (TR r264 r265) λr266=>.cl 3011 (TR p0.Qr.Yt p0.Qr.Qv) λr267=>.cl 3013 (Mj r267 r262) λr268=>.cl 3024 (TP p0.Qr.Yt p0.Qr.Qv) λr269=>.cl 3026 (Mj r269 r263) λr270=>.cl 4005 (Mj r264 r265) λr271=>.cl 4010 (Mj r266 (Q4.mk 121665 0 0 0 0)) λr272=>.cl 4011 (TP r264 r272) λr273=>.cl 4012 (Mj r266 r273) λr274=>.cl 5003 (TP r268 r270) λr275=>.cl 5006 (TR r268 r270) λr276=>.cl 6005 (Mj r275 r275) λr277=>.cl 6012 (Mj r276 r276) λr278=>.cl 6013 (Mj p0.fu r278) λr279=>.done (r271,r274,r277,r279)
def Qhs(p0:Y7):Sp (Q4×Q4×Q4×Q4):=.Ze 182 [] Q9 Tryz.func182 rfl (λ_=>rfl) (show Jx Pg GG [0,2,3,4,5,6,7,8,9,10] Tryz.f182 [.ptr zE 0 0] (Ext.of .normal (U5 [.ptr zE 0 0]) [(zE,⟨25,true,[(nV p0)]⟩)] [] (by rfl)) (Qj8 p0) (λ(r:Q4×Q4×Q4×Q4)=>.Qt []) (λ(r:Q4×Q4×Q4×Q4)=>Ext.of .normal [] [(zE,⟨25,true,[(H4 (O3 r.1) (H4 (O3 r.2.1) (H4 (O3 r.2.2.1) (H4 (O3 r.2.2.2) (O3 p0.fu)))))]⟩)] [] (by rfl)) by unfold Jx;kernel_rfl)
def Rv(u:Q4)(y:Y7)(s:ze)(v:Bool):TT (Y7):=
 .bind 1
 (.br 0 v
  (.done (y.Qr.Yt,y.Qr.Qv,y.fR.Yt,y.fR.Qv))
  (.done (y.fR.Yt,y.fR.Qv,y.Qr.Yt,y.Qr.Qv)))
 (λ(e248:Q4×Q4×Q4×Q4)=>Ext.l .normal [(6,.ptr 1000006 0 0),(7,.bool v)] [(1000005,⟨5,true,[(O3 u)]⟩),(1000006,⟨25,true,[(H4 (O3 e248.1) (H4 (O3 e248.2.1) (H4 (O3 e248.2.2.1) (H4 (O3 e248.2.2.2) (O3 y.fu)))))]⟩),(1700070,⟨1,true,[[.str s]]⟩)])
 (λe248=>
  .call 7001 (Qhs (Y7.mk (KI.mk e248.1 e248.2.1) (KI.mk e248.2.2.1 e248.2.2.2) y.fu)) [(1000000,1000006)] [] λr280=>
  .br 0 v
  (.done (Y7.mk (KI.mk r280.2.2.1 r280.2.2.2) (KI.mk r280.1 r280.2.1) y.fu))
  (.done (Y7.mk (KI.mk r280.1 r280.2.1) (KI.mk r280.2.2.1 r280.2.2.2) y.fu)))
theorem Qai(u:Q4)(y:Y7)(s:ze)(v:Bool):Y0 Tryz.prog GG [5,6,7,21,29] 45 (I3 qI) (PU [(5,.ptr 1000005 0 0),(6,.ptr 1000006 0 0),(7,.bool v)] u y s) (Rv u y s v) (λ(r:Y7)=>PU [] u r s):=by unfold Y0;kernel_rfl
theorem Yj{n:Nat}{ts:List (Nat×V)}{bs:List (Nat×Qa)}{us:List Nat}(ht:(ts.all λp=>(W5 p.2).all (D2 n ts bs us).u)=true)(hb:(bs.all λp=>(D2 n ts bs us).u p.1&&(E8 p.2.rows.flatten).all (D2 n ts bs us).u)=true):(D2 n ts bs us).known where
 t:=λi b hm=>by
  have hm':b∈W5 (Zm ts i):=hm;unfold Zm at hm';cases hf:ts.find? (λp=>p.1==i) with
  | none=>rw[hf] at hm';simp[W5] at hm'
  | some p=>rw[hf] at hm';exact zJ.1 (zJ.1 ht p (qe hf)) b hm'
 b:=λi k hk=>by
  obtain⟨q,h1,rfl,rfl⟩:=Yn (show Qe bs i=some k from hk);have:=zJ.1 hb q h1;simp only[zF] at this;exact⟨this.1,λb hm=>zJ.1 this.2 b hm⟩
theorem Ll{n:Nat}{ts:List (Nat×V)}{bs:List (Nat×Qa)}{tb:List BT}{us:List Nat}(ht:(ts.all λp=>(W5 p.2).all (D2 n ts (bs++tb.map λx=>(x.id,x.k)) us).u)=true)
  (hb:(bs.all λp=>(D2 n ts (bs++tb.map λx=>(x.id,x.k)) us).u p.1&&(E8 p.2.rows.flatten).all (D2 n ts (bs++tb.map λx=>(x.id,x.k)) us).u)=true) (hc:(tb.all λx=>(D2 n ts (bs++tb.map λx=>(x.id,x.k)) us).u x.id)=true) :
  (D2 n ts (bs++tb.map λx=>(x.id,x.k)) us).known where
 t:=(Yj (n:=n) (ts:=ts) (bs:=[]) (us:=us) ht rfl).t
 b:=λi k hk=>by
  obtain⟨q,h1,rfl,rfl⟩:=Yn (show Qe (bs++tb.map λx=>(x.id,x.k)) i=some k from hk);rcases wk.1 h1 with h2|h2
  ·have:=zJ.1 hb q h2;simp only[zF] at this;exact⟨this.1,λb hm=>zJ.1 this.2 b hm⟩
  ·have hd:=GQ _ h2;obtain⟨x,hx,rfl⟩:=zM.1 h2;exact⟨zJ.1 hc x hx,λb hm=>by rw[hd.refs] at hm;simp at hm⟩
noncomputable def BD:Code:=Tryz.f206.body.getD .skip
def aL:Code:=cB (cB (cR BD))
def pI:Array Oper:=Oo (cL (cL aL))
def aR1:Code:=cR (cR aL)
theorem eAl:BD=.seq (cL BD) (.block 0 (.loop aL)):=by kernel_rfl
theorem eAL:aL=.seq (.seq (.region 1 pI false) (.cond (.tmp 14) .skip (.exit 0))) (.seq (.block 1 .skip) aR1):=by kernel_rfl
def VN(s:ze)(i:Int):TT (Option Int):=
 .br 1006 (decide (i < (s.size:Int))) (.Qf 1009 (decide (0<=i/\i < (s.size:Int))) (.done (some (QZ s i)))) (.done none)
noncomputable def cDg:Code:=Tryz.f221.body.getD .skip
def dL:Code:=cB (cB (cR cDg))
def dR0:Code:=cL (cL dL)
def Qdz:Array Oper:=Oo (cL (cB (cL (cR dL))))
def dR1:Code:=cR (cR dL)
theorem eDg:cDg=.seq (cL cDg) (.block 0 (.loop dL)):=by kernel_rfl
theorem eDL:dL=.seq (.seq dR0 (.cond (.tmp 5) .skip (.exit 0))) (.seq (.block 1 (.seq (.region 3 Qdz false) (.cond (.tmp 19) .ret .skip))) dR1):=by kernel_rfl
def gDg(s:ze)(i:Int):TT Bool:=
 .Qf 3005 (decide (0<=(Q0 (Int.tdiv i 8))/\(Q0 (Int.tdiv i 8)) < (s.size:Int))) (.Qf 3008 (decide ((0:Int)<=(Int.tmod i 8))) (.done ((U0 .u8 (Z3 .u8 (QZ s (Q0 (Int.tdiv i 8))) (Int.tmod i 8)) 1)==1)))
def iH(u:Q4)(y:Y7)(s:ze):List (Nat×Qa):=(PU [] u y s).bs
theorem Qaa(u:Q4)(y:Y7)(s:ze)(v:Bool):Y0 Tryz.prog GG [5,6,7,19,20] 45 iW (PU ((20,.bool v) :: GD) u y s) (.done ():TT Unit) (λ_=>PU [(5,.ptr 1000005 0 0),(6,.ptr 1000006 0 0),(7,.bool v)] u y s):=by unfold Y0;kernel_rfl
theorem Qok(u:Q4)(y:Y7)(s:ze)(v:Bool):(PU ((20,.bool v) :: GD) u y s |>.D 45).st=Ki (E3 45 (Zm GD) (Qe (iH u y s))) ([20].zip [.bool v]):=by
 rw[H8 (by rfl)];exact(Uj 45 GD _ 20 (.bool v)).symm
theorem Qa3(u:Q4)(y:Y7)(s:ze)(v:Bool){r:Y7}(hb:(Rv u y s v).run=some r) :
  JS Tryz.prog GG 45 (Zm GD) [20] iW (I3 qI) (Qe (iH u y s)) [.bool v] (λe b'=>e=.normal/\b'=Qe (iH u r s)):=by
 refine⟨((PU [(5,.ptr 1000005 0 0),(6,.ptr 1000006 0 0),(7,.bool v)] u y s).D 45).st,?_,?_⟩
 ·have h:=(Qaa u y s v).tv Q9 (r:=()) rfl (by rfl);rw[Qok] at h;exact h
 ·refine((Qai u y s v).tv Q9 hb (by rfl)).mono λe s' hg=>?_;obtain⟨rfl,g⟩:=hg;refine⟨_,45,⟨rfl,rfl⟩,?_⟩;rw[H8 (by rfl)] at g;exact g
section
variable (u:Q4) (l:Nat) (y:Y7) (s:ze) (i:Int)
def Ret:List (Nat×V):=[(0,.QB l),(1,.ptr 1700070 0 0),(3,.int .i64 i)]
def oU:Ext:=PU (Ret l i) u y s
theorem Qag:Y0 Tryz.prog GG [0,1,3] 20 (cL cDg) (PU [(0,.QB l),(1,.ptr 1700070 0 0)] u y s) (.done ():TT Unit) (λ_=>oU u l y s 254):=by unfold Y0;kernel_rfl
theorem Qaf:Y0 Tryz.prog GG [0,1,3,5] 20 dR0 (oU u l y s i) (.done ():TT Unit) (λ_=>PU (Ret l i++[(5,.bool (decide ((0:Int)<=i)))]) u y s):=by unfold Y0;kernel_rfl
theorem Qal:K0 Tryz.prog GG [0,1,3,8,17] 20 3 Qdz 10 (oU u l y s i) (gDg s i) (λr=>PU (Ret l i++[(8,.QB l),(17,.bool r)]) u y s):=by unfold K0;kernel_rfl
theorem Qao:Y0 Tryz.prog GG [0,1,3] 20 dR1 (oU u l y s i) (.done ():TT Unit) (λ_=>oU u l y s (Q0 (i - 1))):=by unfold Y0;kernel_rfl
end
def KP(u:Q4)(s:ze)(x:Y7×Int):Option ((Y7×Int)⊕Y7):=
 bif decide ((0:Int)<=x.2) then
  (match (gDg s x.2).run with
  | none=>none
  | some b=>match (Rv u x.1 s b).run with
   | none=>none
   | some y=>some (.inl (y,Q0 (x.2 - 1))))
 else some (.inr x.1)
def mRe(u:Q4)(y:Y7)(s:ze):Option Y7:=I0 (KP u s) Ys (y,254)
def yRe:YL:=⟨45,Zm GD,#[20],iW,I3 qI⟩
theorem Qyh(u:Q4)(y:Y7)(s:ze){r:Y7}(h:mRe u y s=some r) :
    UW Tryz.prog GG cDg 20 (λl=>[.QB l,.ptr 1700070 0 0]) (Qe (iH u y s)) yRe (λe b=>e=.normal/\b=Qe (iH u r s)):=by
  refine UW.of λl=>?_;have e0:U3 20 [.QB l,.ptr 1700070 0 0] (Qe (iH u y s))=((PU (U5 [.QB l,.ptr 1700070 0 0]) u y s).D 20).st:=(B5 (x:=PU (U5 [.QB l,.ptr 1700070 0 0]) u y s) (by rfl) (by rfl) 20).symm;rw[e0,eDg];show YT _ _ _ _ _ ⟨.normal,((PU [(0,.QB l),(1,.ptr 1700070 0 0)] u y s).D 20).st⟩ _;refine YT.seq (YT.piece (Qag u l y s) Q9 rfl (by rfl) λq g=>?_);show YT _ _ _ _ _ _ _;refine YT.XG g (YT.block ?_);refine YT.loop (λm st=>st.x=.normal/\∃z:Y7×Int,QH GG st.st ((oU u l z.1 s z.2).D 20).st/\I0 (KP u s) m z=some r) (λm st hI=>?_) (n:=Ys) ⟨rfl,(y,254),QH.same _,h⟩;obtain⟨x,st⟩:=st;obtain⟨rfl,⟨v,i⟩,g,hit⟩:=hI;refine YT.XG g ?_;cases m with
  | zero=>simp[I0] at hit
  | succ m=>
    rw[ZU] at hit;rw[eDL];refine YT.seq (YT.seq (YT.piece (Qaf u l v s i) Q9 rfl (by rfl) λst g=>?_));show YT _ _ _ _ _ _ _;refine YT.XG g ?_;cases hc:decide ((0:Int)<=i) with
    | false=>
      have hs0:KP u s (v,i)=some (.inr v):=by unfold KP;simp only[hc];rfl
      rw[hs0] at hit;obtain rfl:v=r:=wh hit;refine YT.cond (b:=false) rfl (YT.exit ?_);refine⟨.inl rfl,20,Zm (Ret l i++[(5,.bool false)]),Qe (iH u v s),?_,rfl,rfl⟩;show QH GG ((PU (Ret l i++[(5,.bool false)]) u v s).D 20).st _;rw[H8 (by rfl) 20];exact QH.same _
    | true=>
      refine YT.cond (b:=true) rfl (YT.skip ?_);show YT _ _ _ _ _ _ _;refine YT.XG (st':=((oU u l v s i).D 20).st) (W3 (oU u l v s i) (by rfl) rfl ⟨by rfl,by rfl⟩) ?_;cases h4:(gDg s i).run with
      | none => have hs0 : KP u s (v, i) = none := by unfold KP; simp only [hc, h4]; rfl
                rw[hs0] at hit;simp at hit
      | some b=>
      cases h5:(Rv u v s b).run with
      | none => have hs0 : KP u s (v, i) = none := by unfold KP; simp only [hc, h4, h5]; rfl
                rw[hs0] at hit;simp at hit
      | some v2=>
      have hs0:KP u s (v,i)=some (.inl (v2,Q0 (i - 1))):=by unfold KP;simp only[hc,h4,h5];rfl
      rw[hs0] at hit;refine YT.seq (YT.block (YT.seq (YT.region ?_)));show J3 _ _ _ _ _ ([0,1,2,3,4,5,6,7,8,9]++[10,11]) _ _;refine J3.tv ((Qal u l v s i).tv Q9 h4 (by rfl)) λe st hq'=>⟨hq'.1,J3.XG hq'.2 ?_⟩;have es:=H8 (x:=PU (Ret l i++[(8,V.QB l),(17,V.bool b)]) u v s) (by rfl) 20;rw[es];refine J3.KO (hi:=rfl) rfl rfl rfl rfl rfl rfl rfl ?_ ?_ ?_ rfl (Qa3 u v s b h5) ?_ ?_
      · exact λi=>L6 (by rfl) i
      · exact λi=>L6 (by rfl) i
      · intro p hp
        have:p∈[20]:=hp;simp at this;subst this;exact(by decide:20 < 45)
      · exact λe b' h=>.inl h.1
      · intro e b' h
        obtain⟨rfl,rfl⟩:=h;refine J3.step rfl (J3.nil ?_);show YT _ _ _ _ _ _ _;refine YT.cond (b:=false) rfl (YT.skip ?_);show YT _ _ _ _ _ _ _;refine YT.XG (st':=((oU u l v2 s i).D 20).st) (W3 (oU u l v2 s i) (by rfl) rfl ⟨by rfl,by rfl⟩) ?_;refine YT.piece (Qao u l v2 s i) Q9 rfl (by rfl) λq g=>?_;exact⟨m,Nat.lt_succ_self m,rfl,(v2,Q0 (i - 1)),g,hit⟩
def Pl(u:Q4)(y:Y7)(s:ze):Ext:=Ext.of .normal [(5,.ptr 5 0 0),(6,.ptr 6 0 0),(19,.fn 221 [] [.ptr 700070 0 0])] [(5,⟨5,true,[(O3 u)]⟩),(6,⟨25,true,[(nV y)]⟩),(700070,⟨1,true,[[.str s]]⟩)] [] (by rfl)
def ReE(u:Q4):(Y7)->Ext
 | r=>Ext.of .normal [(5,.ptr 5 0 0),(6,.ptr 6 0 0)] [(5,⟨5,true,[(O3 u)]⟩),(6,⟨25,true,[(nV r)]⟩)] [] (by rfl)
theorem bRe(u:Q4)(y:Y7)(s:ze):QY (Qe (Pl u y s).bs)=Qe (iH u y s):=by
 rw[UI];have:((Pl u y s).bs.map λp=>(sh p.1,p.2.Qb sh))=iH u y s:=by kernel_rfl
 rw[this]
theorem Qy5(u:Q4)(y:Y7)(s:ze){r:Y7}(h:mRe u y s=some r) :
  TV Tryz.prog GG (.rangeFunc (.tmp 19) #[20] iW (I3 qI)) ((Pl u y s).D 45).st (λe st=>e=(ReE u r).ex/\QH GG st ((ReE u r).D 45).st):=by
 have ht:(λi=>W0 sh (((Pl u y s).D 45).st.t i))=Zm GD:=by
  have:((Pl u y s).D 45).st.t=Zm (Pl u y s).ts:=rfl;rw[this,V9]
  have:((Pl u y s).ts.map λp=>(p.1,W0 sh p.2))=GD:=by kernel_rfl
  rw[this]
 have hb:Tryz.f221.body=some cDg:=by kernel_rfl
 refine TV.AK (f:=221) (fi:=Tryz.f221) (c:=cDg) (first:=[]) (caps:=[.ptr 1700070 0 0]) (R:=λe bw=>e=.normal/\bw=Qe (iH u r s)) ?_ Tryz.func221 hb (by kernel_rfl) (by kernel_rfl) ?_ (λi=>?_) ?_ ?_
 ·show some ((λi=>W0 sh (((Pl u y s).D 45).st.t i)) 19)=_;rw[ht];rfl
 ·intro bq k hk;obtain⟨q,h1,rfl,_⟩:=Yn (show Qe (Pl u y s).bs bq=some k from hk);show ((((Pl u y s).us).contains q.1 || Qk q.1))=true;simp only[Ext.us,zY,wj,zI];exact .inl (zM.2 ⟨q,h1,rfl⟩)
 ·have:=congrFun ht i;rw[show W0 sh (((Pl u y s).D 45).st.t i)=Zm GD i from this];exact L6 (by rfl) i
 ·have hbb:QY ((Pl u y s).D 45).st.b=Qe (iH u y s):=bRe u y s;rw[ht,hbb]
  have e:max Tryz.f221.ntmps (([]:List V).length+1+[V.ptr 1700070 0 0].length)=20:=by kernel_rfl
  rw[e];exact Qyh u y s h
 ·intro e b' ho;obtain⟨rfl,rfl⟩:=ho;refine⟨.inl rfl,Qe (Pl u r s).bs,(bRe u r s).symm,?_,rfl,?_⟩
  ·exact Yj (ts:=(Pl u y s).ts) (bs:=(Pl u r s).bs) (us:=(Pl u y s).us) (by rfl) (by rfl)
  ·exact W3 (ReE u r) (by rfl) rfl ⟨by rfl,by rfl⟩
def Qhw(u:Q4)(y:Y7)(s:ze):Sub Tryz.prog GG (Y7):=
 ⟨.rangeFunc (.tmp 19) #[20] iW (I3 qI),45,Pl u y s,mRe u y s,ReE u ,λ_ h=>Qy5 u y s h⟩
def Qxn(p0:ze):Sp (Unit):=.Ze 180 [] Q9 Tryz.func180 rfl (λ_=>rfl) (show Jx Pg GG [0,1,2] Tryz.f180 [.str p0] (Ext.of .normal (U5 [.str p0]) [] [] (by rfl)) (.done ():TT (Unit)) (λ(r:Unit)=>.fn 221 [] [.ptr 1 0 0]) (λ(r:Unit)=>Ext.of .normal [] [(1,⟨1,true,[[.str p0]]⟩)] [] (by rfl)) by unfold Jx;kernel_rfl)
def dE(p0 p1:ze):TT (ze):=.cl 1002 (lM p1) λr281=>.cl 3002 (vE p0) λr282=>.call 3003 (Qxn r282) [] [(1,500009)] λr283=>.gh 1 (.Qb 500009 700070) (.sub (Qhw r281 (Y7.mk (KI.mk (Q4.mk 1 0 0 0 0) (Q4.mk 0 0 0 0 0)) (KI.mk r281 (Q4.mk 1 0 0 0 0)) r281) r282) λr284=>.cl 10007 (vM r284.fR.Qv) λr285=>.cl 10008 (Mj r284.fR.Yt r285) λr286=>.cl 10009 (vK r286) λr287=>.done r287)
def Fb(p0 p1:ze):Sp (ze):=oF [0,1,4,5,6,7,19,20,21,29] Tryz.func123 [.str p0,.str p1] (dE p0 p1) (λr=>.str r)
def g67(p0:ze):TT (ze×Int):=.br 0 ((p0.size:Int) != 32) (.done (zg,2)) (.Qz 3002 (Qw.Mp (ty:=Y3) 188 4 (I1 (λ_=>0))) λ_=>.Qz 3003 (Qw.KN (ty:=Y3) 188 (.tmp 4) (.tmp 8) 4 ⟨1,true,(List.map Y3.c (I1 (λ_=>0)))⟩ (.agg (H4 [.int .u8 9] (X9 31 (.int .u8 0) []))) (I1 (U7 (λ_=>0) 0 9))) λ_=>.Qz 4002 (Qw.Qdy (e:=5) 188 (.tmp 4) 10 4 ⟨1,true,(List.map Y3.c (I1 (U7 (λ_=>0) 0 9)))⟩ 32) λ_=>.Qz 4003 (Qw.JU (ty:=Y3) (s:=57) (t:=9) (e:=5) (.tmp 10) 11 4 (I1 (U7 (λ_=>0) 0 9)) 32 (hn:=(by rfl))) λ_=>.cl 4004 (Fb p0 (strOfNums (I1 (U7 (λ_=>0) 0 9)))) λr288=>.done (r288,0))
def s67(p0:ze):Sp (ze×Int):=oF [0,2,3,4,7] Tryz.func67 [.str p0] (g67 p0) (λr=>.Qt [.str r.1,.i r.2])
def Qke(p0 p1:ze):TT (ze×Int):=.QV 1 [14] (.oR 1005 ((p0.size:Int) != 32) (.done ((p1.size:Int) != 32))) zm λc289=>.br 0 c289 (.done (zg,2)) (.cl 3003 (Fb p0 p1) λr290=>.fact ((Q3 r290)=I1 (Zd r290)) inferInstance λh291=>.Qz 4002 (Qw.octets (ty:=Y3) (s:=9) (t:=57) (e:=5) (.tmp 18) 19 r290) λ_=>.Qz 4003 (Qw.bT (e:=5) 188 (.tmp 19) 20 19 ⟨1,true,(List.map Y3.c (Q3 r290))⟩ 32 ((Q3 r290).length)) λ_=>.Qz 4004 (Qw.DR 188 (.tmp 20) 21 19 ⟨1,true,(List.map Y3.c (Q3 r290))⟩ (.agg (yP (Zd r290))) (show 1 < Y8 by decide) (by rw[h291];kernel_rfl)) λ_=>.br 0 ((((Zd r290) 0)==0)&&((((Zd r290) 1)==0)&&((((Zd r290) 2)==0)&&((((Zd r290) 3)==0)&&((((Zd r290) 4)==0)&&((((Zd r290) 5)==0)&&((((Zd r290) 6)==0)&&((((Zd r290) 7)==0)&&((((Zd r290) 8)==0)&&((((Zd r290) 9)==0)&&((((Zd r290) 10)==0)&&((((Zd r290) 11)==0)&&((((Zd r290) 12)==0)&&((((Zd r290) 13)==0)&&((((Zd r290) 14)==0)&&((((Zd r290) 15)==0)&&((((Zd r290) 16)==0)&&((((Zd r290) 17)==0)&&((((Zd r290) 18)==0)&&((((Zd r290) 19)==0)&&((((Zd r290) 20)==0)&&((((Zd r290) 21)==0)&&((((Zd r290) 22)==0)&&((((Zd r290) 23)==0)&&((((Zd r290) 24)==0)&&((((Zd r290) 25)==0)&&((((Zd r290) 26)==0)&&((((Zd r290) 27)==0)&&((((Zd r290) 28)==0)&&((((Zd r290) 29)==0)&&((((Zd r290) 30)==0)&&((((Zd r290) 31)==0)&&true)))))))))))))))))))))))))))))))) (.done (zg,2)) (.done (r290,0)))
def tO(p0 p1:ze):Sp (ze×Int):=oF [0,1,4,5,6,14,23] Tryz.func252 [.str p0,.str p1] (Qke p0 p1) (λr=>.Qt [.str r.1,.i r.2])
end Go.Proofs.YtjdieimefebnfaaGreatDoor
