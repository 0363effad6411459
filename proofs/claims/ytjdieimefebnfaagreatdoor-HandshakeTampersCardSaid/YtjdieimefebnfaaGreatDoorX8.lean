/- Part X8. -/
import Derived.Test.YtjdieimefebnfaaGreatDoorX7
import Derived.Test.YtjdieimefebnfaaGreatDoorProg
import Derived.Shelf.Strconv.Clone
set_option linter.all false
set_option maxRecDepth 100000
noncomputable section
abbrev Prod.q{A B C D E:Type}(x:A×B×C×D×E):E:=x.2.2.2.2
theorem And.q{a b c d e:Prop}(h:a/\b/\c/\d/\e):e:=h.2.2.2.2
namespace Go.EV
open Go
abbrev Sl{α:Type}(n:Nat)(t:Ty α)(l:List α):V:=.sl false n (l.map t.c)
abbrev Rf{α:Type}(b:Nat)(l:List α):V:=.ref b 0 l.length
abbrev Bt{α:Type}(b:Nat)(t:Ty α)(n:Nat)(l:List α):BT:=BT.of b t n l true
abbrev bD(a b:Int):Bool:=decide (0<=a)&&decide (a < b)
abbrev V.i(n:Int):V:=.int .i64 n
end Go.EV
namespace Go.Proofs.YtjdieimefebnfaaGreatDoor
open Go Go.EV
def GG:zi:=λ_=>none
abbrev TT:=T Tryz.prog GG
abbrev Sp:=EV.Spec Tryz.prog GG
abbrev Pg:=Tryz.prog
abbrev zI:=1000000
abbrev zR:=1000001
abbrev zU:=1000002
abbrev zV:=660000
abbrev wa:=1000003
abbrev wc:=1000004
abbrev wk:=660001
abbrev wl:=1000005
abbrev wn:=1000006
abbrev wo:=1000007
abbrev wv:=600008
def W0(a b:List V):List V:=a++b
def Du(w:Int×Int×Int×Int×Int×Int×Int×Int):List V:=[.int .u32 w.1,.int .u32 w.2.1,.int .u32 w.2.2.1,.int .u32 w.2.2.2.1,.int .u32 w.q.1,.int .u32 w.q.2.1,.int .u32 w.q.2.2.1,.int .u32 w.q.2.2.2]
def Rk{α:Type}(w:Int×Int×Int×Int×Int×Int×Int×Int×α):List V:=[.int .u32 w.1,.int .u32 w.2.1,.int .u32 w.2.2.1,.int .u32 w.2.2.2.1,.int .u32 w.q.1,.int .u32 w.q.2.1,.int .u32 w.q.2.2.1,.int .u32 w.q.2.2.2.1]
def X9(n:Nat)(v:V)(l:List V):List V:=List.replicate n v++l
theorem Z1:Tryz.prog.follows .mixedOrders=true:=by kernel_rfl
def oF(kp:List Nat){f:FuncId}{fn:Func}(hf:Pg.funcs[f]?=some fn)(a:List V){ρ:Type}(g:T Pg GG ρ)(r:ρ->V)(k:iB Pg GG kp fn a g r:=by unfold iB;kernel_rfl):EV.Spec Pg GG ρ:=.ofFn f Z1 hf k
abbrev _root_.Go.EV.T.cl{P:Program}{G:Nat->Option (List V)}{ρ α:Type}(a:Nat)(s:EV.Spec P G α)(k:α->T P G ρ):T P G ρ:=.call a s [] [] k
abbrev _root_.Go.EV.T.an{P:Program}{G:Nat->Option (List V)}(a:Nat)(c:Bool)(x:T P G Bool):T P G Bool:=.br a c x (.done false)
abbrev _root_.Go.EV.T.oR{P:Program}{G:Nat->Option (List V)}(a:Nat)(c:Bool)(x:T P G Bool):T P G Bool:=.br a c (.done true) x
def J2:List Int:=[1116352408,1899447441,3049323471,3921009573,961987163,1508970993,2453635748,2870763221,3624381080,310598401,607225278,1426881987,1925078388,2162078206,2614888103,3248222580,3835390401,4022224774,264347078,604807628,770255983,1249150122,1555081692,1996064986,2554220882,2821834349,2952996808,3210313671,3336571891,3584528711,113926993,338241895,666307205,773529912,1294757372,1396182291,1695183700,1986661051,2177026350,2456956037,2730485921,2820302411,3259730800,3345764771,3516065817,3600352804,4094571909,275423344,430227734,506948616,659060556,883997877,958139571,1322822218,1537002063,1747873779,1955562222,2024104815,2227730452,2361852424,2428436474,2756734187,3204031479,3329325298]
def M8:List V:=[.int .u32 1116352408,.int .u32 1899447441,.int .u32 3049323471,.int .u32 3921009573,.int .u32 961987163,.int .u32 1508970993,.int .u32 2453635748,.int .u32 2870763221,.int .u32 3624381080,.int .u32 310598401,.int .u32 607225278,.int .u32 1426881987,.int .u32 1925078388,.int .u32 2162078206,.int .u32 2614888103,.int .u32 3248222580,.int .u32 3835390401,.int .u32 4022224774,.int .u32 264347078,.int .u32 604807628,.int .u32 770255983,.int .u32 1249150122,.int .u32 1555081692,.int .u32 1996064986,.int .u32 2554220882,.int .u32 2821834349,.int .u32 2952996808,.int .u32 3210313671,.int .u32 3336571891,.int .u32 3584528711,.int .u32 113926993,.int .u32 338241895,.int .u32 666307205,.int .u32 773529912,.int .u32 1294757372,.int .u32 1396182291,.int .u32 1695183700,.int .u32 1986661051,.int .u32 2177026350,.int .u32 2456956037,.int .u32 2730485921,.int .u32 2820302411,.int .u32 3259730800,.int .u32 3345764771,.int .u32 3516065817,.int .u32 3600352804,.int .u32 4094571909,.int .u32 275423344,.int .u32 430227734,.int .u32 506948616,.int .u32 659060556,.int .u32 883997877,.int .u32 958139571,.int .u32 1322822218,.int .u32 1537002063,.int .u32 1747873779,.int .u32 1955562222,.int .u32 2024104815,.int .u32 2227730452,.int .u32 2361852424,.int .u32 2428436474,.int .u32 2756734187,.int .u32 3204031479,.int .u32 3329325298]
def adc(ox oy oc:Operand)(d:Nat)(x y c:Int):Qh Tryz.prog GG (Int×Int):=.Qdu 134 ox oy oc #[137,137,137] d x y c Tryz.func134 (by kernel_rfl) (by kernel_rfl) (by kernel_rfl) (by kernel_rfl)
def J1:Ty Int:=⟨λx=>[.int .u32 x],λx=>[.int .u32 x],λ_=>rfl,λ_=>rfl,λ_ _=>rfl,λ_=>rfl⟩
def g98(p0 p1:Int):TT (Int×Int):=.done ((Z4 ((Z4 ((Z4 ((Z5 .u64 p0 32) * (Z5 .u64 p1 32)))+(Z5 .u64 (Z4 ((Z4 ((Z5 .u64 p0 32) * (U1 .u64 p1 4294967295)))+(Z5 .u64 (Z4 ((U1 .u64 p0 4294967295) * (U1 .u64 p1 4294967295))) 32))) 32)))+(Z5 .u64 (Z4 ((U1 .u64 (Z4 ((Z4 ((Z5 .u64 p0 32) * (U1 .u64 p1 4294967295)))+(Z5 .u64 (Z4 ((U1 .u64 p0 4294967295) * (U1 .u64 p1 4294967295))) 32))) 4294967295)+(Z4 ((U1 .u64 p0 4294967295) * (Z5 .u64 p1 32))))) 32))),(Z4 (p0 * p1)))
def Wq(p0 p1:Int):Sp (Int×Int):=oF [0,1,4,5,6,7,8,9,10,11,12,13] Tryz.func98 [.int .u64 p0,.int .u64 p1] (g98 p0 p1) (λr=>.Qc [.int .u64 r.1,.int .u64 r.2])
def Qdk(p0 p1:Int):Sp (Bool):=oF [0,1,3,4,5,6,7,8] Tryz.func248 [.int .u64 p0,.snap [.int .u64 p1]] (.cl 1003 (Wq p0 p0) λr1=>.cl 2003 (Wq r1.2 p0) λr2=>.Zz 4 [3] (.oR 4006 (decide ((Z4 ((Z4 (r1.1 * p0))+r2.1)) < (E0 .u64 p1 32))) (.an 4011 ((Z4 ((Z4 (r1.1 * p0))+r2.1))==(E0 .u64 p1 32)) (.done (r2.2==0)))) zn λc3=>.done c3:TT (Bool)) (λr=>.bool r)
def Qdm(p0:Int):Sp (Int):=oF [0,2,3,4,6,13] Tryz.func247 [.fn 248 [] [.snap [.int .u64 p0]]] (.bind 1 (.lp (λ(l3:Int×Int)=>Ext.l .normal [(0,.fn 248 [] [.snap [.int .u64 p0]]),(2,.int .u32 0),(3,.int .u64 l3.1),(4,.int .u64 l3.2)] []) (λl3=>.br 0 (decide ((0:Int) < l3.2)) (.cl 5005 (Qdk (Zl .u64 l3.1 l3.2) p0) λr4=>.br 0 r4 (.done (.inl ((Zl .u64 l3.1 l3.2),(Z5 .u64 l3.2 1)))) (.done (.inl (l3.1,(Z5 .u64 l3.2 1))))) (.done (.inr l3.1))) (0,68719476736)) (λ(e5:Int)=>Ext.l (.exit 0) [(2,.int .u32 0),(3,.int .u64 e5)] []) (λe5=>.done (O2 (U1 .u64 e5 4294967295))):TT (Int)) (λr=>.int .u32 r)
def Qdw(p0 p1:Int):Sp (Bool):=oF [0,1,3,4,5] Tryz.func249 [.int .u64 p0,.snap [.int .u64 p1]] (.cl 1003 (Wq p0 p0) λr8=>.Zz 2 [3] (.oR 2005 (decide (r8.1 < p1)) (.an 2009 (r8.1==p1) (.done (r8.2==0)))) zn λc9=>.done c9:TT (Bool)) (λr=>.bool r)
def tE(p0:Int):Sp (Int):=oF [0,2,3,4,6,13] Tryz.func247 [.fn 249 [] [.snap [.int .u64 p0]]] (.bind 1 (.lp (λ(l10:Int×Int)=>Ext.l .normal [(0,.fn 249 [] [.snap [.int .u64 p0]]),(2,.int .u32 0),(3,.int .u64 l10.1),(4,.int .u64 l10.2)] []) (λl10=>.br 0 (decide ((0:Int) < l10.2)) (.cl 5005 (Qdw (Zl .u64 l10.1 l10.2) p0) λr11=>.br 0 r11 (.done (.inl ((Zl .u64 l10.1 l10.2),(Z5 .u64 l10.2 1)))) (.done (.inl (l10.1,(Z5 .u64 l10.2 1))))) (.done (.inr l10.1))) (0,68719476736)) (λ(e12:Int)=>Ext.l (.exit 0) [(2,.int .u32 0),(3,.int .u64 e12)] []) (λe12=>.done (O2 (U1 .u64 e12 4294967295))):TT (Int)) (λr=>.int .u32 r)
def Qko :TT (Int×Int×Int×Int×Int×Int×Int×Int):=.Qq 2 (Qh.MZ (ty:=J1) 213 1 (List.replicate 64 (0:Int))) λ_=>.bind 1 (.lp (λ(l14:Int×Int×Int×Int×Int×Int×Int×Int×(List Int)×Int×Int)=>Ext.of .normal [(0,.ptr 0 0 0),(1,.ptr 1 0 0),(2,.i l14.q.q.2.2),(3,.ptr 3 0 0)] [(0,⟨8,true,[(Rk l14)]⟩),(3,⟨1,true,[[.int .u64 l14.q.q.2.1]]⟩)] [Bt 1 J1 1 l14.q.q.1] (by rfl)) (λl14=>.br 0 (decide (l14.q.q.2.2 < 64)) (.bind 0 (.bind 2 (.lp (λ(l16:Bool×Int)=>Ext.of .normal [(0,.ptr 0 0 0),(1,.ptr 1 0 0),(2,.i l14.q.q.2.2),(3,.ptr 3 0 0),(4,.bool l16.1),(5,.int .u64 l16.2)] [(0,⟨8,true,[(Rk l14)]⟩),(3,⟨1,true,[[.int .u64 l14.q.q.2.1]]⟩)] [Bt 1 J1 1 l14.q.q.1] (by rfl)) (λl16=>.br 0 (decide ((Z4 (l16.2 * l16.2))<=l14.q.q.2.1)) (.Zz 9 [4] (.an 9003 l16.1 (.Qa 9005 (!(l16.2==0)) (.done ((Int.tmod l14.q.q.2.1 l16.2) != 0)))) zn λc17=>.done (.inl (c17,(Z4 (l16.2+1))))) (.done (.inr l16.1))) (true,2)) (λ(e18:Bool)=>Ext.of (.exit 2) [(0,.ptr 0 0 0),(1,.ptr 1 0 0),(2,.i l14.q.q.2.2),(3,.ptr 3 0 0),(4,.bool e18)] [(0,⟨8,true,[(Rk l14)]⟩),(3,⟨1,true,[[.int .u64 l14.q.q.2.1]]⟩)] [Bt 1 J1 1 l14.q.q.1] (by rfl)) (λe18=>.br 0 (!e18) (.done (l14.1,l14.2.1,l14.2.2.1,l14.2.2.2.1,l14.q.1,l14.q.2.1,l14.q.2.2.1,l14.q.2.2.2.1,l14.q.q.1,l14.q.q.2.2)) (.view 11003 (Qdm l14.q.q.2.1) [] λr19=>.Qq 11004 (Qh.Yi (e:=163) 213 (.tmp 1) (.tmp 26) 29 1 ⟨1,true,(List.map J1.c l14.q.q.1)⟩ 0 .i64 l14.q.q.2.2 64) λ_=>.row 11005 J1 l14.q.q.1 (0+l14.q.q.2.2.toNat) true λx20=>.re 11005 (Ji.put 1 1 J1 l14.q.q.1 (0+l14.q.q.2.2.toNat) r19) (.br 0 (decide (l14.q.q.2.2 < 8)) (.view 13003 (tE l14.q.q.2.1) [] λr21=>.Ko 13004 l14.q.q.2.2 [0,1,2,3,4,5,6,7] (λv=>bif v==0 then .done (r21,l14.2.1,l14.2.2.1,l14.2.2.2.1,l14.q.1,l14.q.2.1,l14.q.2.2.1,l14.q.2.2.2.1,(l14.q.q.1.set (0+l14.q.q.2.2.toNat) r19),(Q0 (l14.q.q.2.2+1))) else bif v==1 then .done (l14.1,r21,l14.2.2.1,l14.2.2.2.1,l14.q.1,l14.q.2.1,l14.q.2.2.1,l14.q.2.2.2.1,(l14.q.q.1.set (0+l14.q.q.2.2.toNat) r19),(Q0 (l14.q.q.2.2+1))) else bif v==2 then .done (l14.1,l14.2.1,r21,l14.2.2.2.1,l14.q.1,l14.q.2.1,l14.q.2.2.1,l14.q.2.2.2.1,(l14.q.q.1.set (0+l14.q.q.2.2.toNat) r19),(Q0 (l14.q.q.2.2+1))) else bif v==3 then .done (l14.1,l14.2.1,l14.2.2.1,r21,l14.q.1,l14.q.2.1,l14.q.2.2.1,l14.q.2.2.2.1,(l14.q.q.1.set (0+l14.q.q.2.2.toNat) r19),(Q0 (l14.q.q.2.2+1))) else bif v==4 then .done (l14.1,l14.2.1,l14.2.2.1,l14.2.2.2.1,r21,l14.q.2.1,l14.q.2.2.1,l14.q.2.2.2.1,(l14.q.q.1.set (0+l14.q.q.2.2.toNat) r19),(Q0 (l14.q.q.2.2+1))) else bif v==5 then .done (l14.1,l14.2.1,l14.2.2.1,l14.2.2.2.1,l14.q.1,r21,l14.q.2.2.1,l14.q.2.2.2.1,(l14.q.q.1.set (0+l14.q.q.2.2.toNat) r19),(Q0 (l14.q.q.2.2+1))) else bif v==6 then .done (l14.1,l14.2.1,l14.2.2.1,l14.2.2.2.1,l14.q.1,l14.q.2.1,r21,l14.q.2.2.2.1,(l14.q.q.1.set (0+l14.q.q.2.2.toNat) r19),(Q0 (l14.q.q.2.2+1))) else bif v==7 then .done (l14.1,l14.2.1,l14.2.2.1,l14.2.2.2.1,l14.q.1,l14.q.2.1,l14.q.2.2.1,r21,(l14.q.q.1.set (0+l14.q.q.2.2.toNat) r19),(Q0 (l14.q.q.2.2+1))) else .fail)) (.done (l14.1,l14.2.1,l14.2.2.1,l14.2.2.2.1,l14.q.1,l14.q.2.1,l14.q.2.2.1,l14.q.2.2.2.1,(l14.q.q.1.set (0+l14.q.q.2.2.toNat) r19),(Q0 (l14.q.q.2.2+1)))))))) (λ(e22:Int×Int×Int×Int×Int×Int×Int×Int×(List Int)×Int)=>Ext.of .normal [(0,.ptr 0 0 0),(1,.ptr 1 0 0),(2,.i e22.q.q.2),(3,.ptr 3 0 0)] [(0,⟨8,true,[(Rk e22)]⟩),(3,⟨1,true,[[.int .u64 l14.q.q.2.1]]⟩)] [Bt 1 J1 1 e22.q.q.1] (by rfl)) (λe22=>.gh 18 (.drop [3]) (.done (.inl (e22.1,e22.2.1,e22.2.2.1,e22.2.2.2.1,e22.q.1,e22.q.2.1,e22.q.2.2.1,e22.q.2.2.2.1,e22.q.q.1,(Z4 (l14.q.q.2.1+1)),e22.q.q.2))))) (.done (.inr (l14.q.q.1,l14.1,l14.2.1,l14.2.2.1,l14.2.2.2.1,l14.q.1,l14.q.2.1,l14.q.2.2.1,l14.q.2.2.2.1)))) (0,0,0,0,0,0,0,0,(List.replicate 64 (0:Int)),2,0)) (λ(e23:(List Int)×Int×Int×Int×Int×Int×Int×Int×Int)=>Ext.of (.exit 0) [(0,.ptr 0 0 0),(1,.ptr 1 0 0)] [(0,⟨8,true,[(Du e23.2)]⟩)] [Bt 1 J1 1 e23.1] (by rfl)) (λe23=>.fact (e23.1=J2) inferInstance λh24=>.Qq 17002 (Qh.DF 213 (.tmp 1) 40 1 ⟨1,true,(List.map J1.c e23.1)⟩ (.agg M8) (show 1 < J0 by decide) (by rw[h24];kernel_rfl)) λ_=>.Qq 17004 (Qh.Mz (ty:=J1) 213 (.tmp 1) (.tmp 40) 1 ⟨1,true,(List.map J1.c e23.1)⟩ (.agg M8) J2 (λ_=>rfl) (show 1 < J0 by decide) rfl rfl (by rw[wO,h24]) (by kernel_rfl) (by kernel_rfl)) λ_=>.done (e23.2.1,e23.2.2.1,e23.2.2.2.1,e23.q.1,e23.q.2.1,e23.q.2.2.1,e23.q.2.2.2.1,e23.q.q))
theorem Qwx :Jf Tryz.prog GG [0,1,2,3,4,5,7,14,25,31,38] Tryz.f207 [] (Ext.of .normal (U5 []) [] [] (by rfl)) (Qko) (λ(r:Int×Int×Int×Int×Int×Int×Int×Int)=>.Qc [.agg (Du r),.agg M8]) (λ(r:Int×Int×Int×Int×Int×Int×Int×Int)=>Ext.of .normal [] [] [] (by rfl)):=by unfold Jf;kernel_rfl
def Qhz :Sp (Int×Int×Int×Int×Int×Int×Int×Int):=.Zk 207 [] Z1 Tryz.func207 rfl (λ_=>rfl) (Qwx)
def Qmu :TT (Int×Int×Int×Int×Int×Int×Int×Int):=.cl 1001 Qhz λr25=>.Qq 1006 (Qh.MZ (ty:=J1) 213 2 (List.replicate 64 (0:Int))) λ_=>.Qq 1008 (Qh.Mz (ty:=J1) 213 (.tmp 2) (.tmp 6) 2 ⟨1,true,(List.map J1.c (List.replicate 64 (0:Int)))⟩ (.agg M8) J2 (λ_=>rfl) (show 1 < J0 by decide) rfl rfl (by kernel_rfl) (by kernel_rfl) (by kernel_rfl)) λ_=>.Qq 2002 (Qh.DF 213 (.tmp 2) 8 2 ⟨1,true,(List.map J1.c J2)⟩ (.agg M8)) λ_=>.done (r25.1,r25.2.1,r25.2.2.1,r25.2.2.2.1,r25.q.1,r25.q.2.1,r25.q.2.2.1,r25.q.2.2.2)
theorem Qwa :Jf Tryz.prog GG [0,1,2] Tryz.f154 [] (Ext.of .normal (U5 []) [] [] (by rfl)) (Qmu) (λ(r:Int×Int×Int×Int×Int×Int×Int×Int)=>.agg ((Du r)++M8)) (λ(r:Int×Int×Int×Int×Int×Int×Int×Int)=>Ext.of .normal [] [] [] (by rfl)):=by unfold Jf;kernel_rfl
def lY :Sp (Int×Int×Int×Int×Int×Int×Int×Int):=.Zk 154 [] Z1 Tryz.func154 rfl (λ_=>rfl) (Qwa)
def Ax(p0 p1:Int):Sp (Int):=oF [0,1,4,5] Tryz.func261 [.int .u32 p0,.i p1] (.Qa 2003 (decide ((0:Int)<=(U1 .u64 (Z4 p1) 31))) (.Qa 2007 (decide ((0:Int)<=(Z4 ((32:Int) - (U1 .u64 (Z4 p1) 31))))) (.done (Zl .u32 (E0 .u32 p0 (U1 .u64 (Z4 p1) 31)) (Z5 .u32 p0 (Z4 ((32:Int) - (U1 .u64 (Z4 p1) 31))))))):TT (Int)) (λr=>.int .u32 r)
abbrev W8:=Int×Int×Int×Int×Int×Int×Int×Int
def Bm(w:W8)(tl:ze)(ct:Int)(s:ze)(rest:ze):TT (Int×Int×Int×Int×Int×Int×Int×Int):=
 .Qq 3001 (Qh.MZ (ty:=J1) 213 7 (List.replicate 64 (0:Int))) λ_=>
 .bind 1
 (.lp (λ(l28:(List Int)×Int)=>Ext.of .normal [(3,.ptr 1000003 0 0),(5,.ptr 1000005 0 0),(6,.str s),(7,.ptr 7 0 0),(22,.i l28.2)] [(1000003,⟨1,true,[[.ptr 2000000 0 0]]⟩),(1700070,⟨1,true,[[.str rest]]⟩),(2000000,⟨10,true,[(W0 (Du w) [.str tl,.i ct])]⟩)] [BT.of 7 J1 1 l28.1 true,BT.of 1000005 J1 1 J2 true] (by rfl))
  (λl28=>
   .br 0 (decide (l28.2 < 64))
   (.br 0 (decide (l28.2 < 16))
    (.Qa 8007 ((decide (0<=(Q0 ((Q0 ((4:Int) * l28.2))+4)))&&decide ((Q0 ((Q0 ((4:Int) * l28.2))+4))<=(s.size:Int)))&&(decide (0<=(Q0 ((4:Int) * l28.2)))&&decide ((Q0 ((4:Int) * l28.2))<=((Q0 ((Q0 ((4:Int) * l28.2))+4)).toNat:Int)))) (.Qa 9003 (decide (0<=(0:Int)/\(0:Int) < ((s.extract ((Q0 ((4:Int) * l28.2)).toNat) ((Q0 ((Q0 ((4:Int) * l28.2))+4)).toNat)).size:Int))) (.Qa 9007 (decide (0<=(1:Int)/\(1:Int) < ((s.extract ((Q0 ((4:Int) * l28.2)).toNat) ((Q0 ((Q0 ((4:Int) * l28.2))+4)).toNat)).size:Int))) (.Qa 9012 (decide (0<=(2:Int)/\(2:Int) < ((s.extract ((Q0 ((4:Int) * l28.2)).toNat) ((Q0 ((Q0 ((4:Int) * l28.2))+4)).toNat)).size:Int))) (.Qa 9017 (decide (0<=(3:Int)/\(3:Int) < ((s.extract ((Q0 ((4:Int) * l28.2)).toNat) ((Q0 ((Q0 ((4:Int) * l28.2))+4)).toNat)).size:Int))) (.Qq 9020 (Qh.Yi (e:=163) 213 (.tmp 7) (.tmp 34) 53 7 ⟨1,true,(List.map J1.c l28.1)⟩ 0 .i64 l28.2 64) λ_=>
     .row 9021 J1 l28.1 (0+l28.2.toNat) true λx29=>
     .re 9021 (Ji.put 7 1 J1 l28.1 (0+l28.2.toNat) (Zl .u32 (Zl .u32 (Zl .u32 (E0 .u32 (O2 (QQ (s.extract ((Q0 ((4:Int) * l28.2)).toNat) ((Q0 ((Q0 ((4:Int) * l28.2))+4)).toNat)) 0)) 24) (E0 .u32 (O2 (QQ (s.extract ((Q0 ((4:Int) * l28.2)).toNat) ((Q0 ((Q0 ((4:Int) * l28.2))+4)).toNat)) 1)) 16)) (E0 .u32 (O2 (QQ (s.extract ((Q0 ((4:Int) * l28.2)).toNat) ((Q0 ((Q0 ((4:Int) * l28.2))+4)).toNat)) 2)) 8)) (O2 (QQ (s.extract ((Q0 ((4:Int) * l28.2)).toNat) ((Q0 ((Q0 ((4:Int) * l28.2))+4)).toNat)) 3)))) (.done (.inl ((l28.1.set (0+l28.2.toNat) (Zl .u32 (Zl .u32 (Zl .u32 (E0 .u32 (O2 (QQ (s.extract ((Q0 ((4:Int) * l28.2)).toNat) ((Q0 ((Q0 ((4:Int) * l28.2))+4)).toNat)) 0)) 24) (E0 .u32 (O2 (QQ (s.extract ((Q0 ((4:Int) * l28.2)).toNat) ((Q0 ((Q0 ((4:Int) * l28.2))+4)).toNat)) 1)) 16)) (E0 .u32 (O2 (QQ (s.extract ((Q0 ((4:Int) * l28.2)).toNat) ((Q0 ((Q0 ((4:Int) * l28.2))+4)).toNat)) 2)) 8)) (O2 (QQ (s.extract ((Q0 ((4:Int) * l28.2)).toNat) ((Q0 ((Q0 ((4:Int) * l28.2))+4)).toNat)) 3)))),(Q0 (l28.2+1)))))))))))
    (.Qq 10003 (Qh.Yi (e:=163) 213 (.tmp 7) (.tmp 55) 56 7 ⟨1,true,(List.map J1.c l28.1)⟩ 0 .i64 (Q0 (l28.2 - 15)) 64) λ_=>
     .row 10004 J1 l28.1 (0+(Q0 (l28.2 - 15)).toNat) true λx30=>
     .Qq 10007 (Qh.Yi (e:=163) 213 (.tmp 7) (.tmp 59) 60 7 ⟨1,true,(List.map J1.c l28.1)⟩ 0 .i64 (Q0 (l28.2 - 2)) 64) λ_=>
     .row 10008 J1 l28.1 (0+(Q0 (l28.2 - 2)).toNat) true λx31=>
     .Qq 11004 (Qh.Yi (e:=163) 213 (.tmp 7) (.tmp 64) 65 7 ⟨1,true,(List.map J1.c l28.1)⟩ 0 .i64 (Q0 (l28.2 - 16)) 64) λ_=>
     .row 11005 J1 l28.1 (0+(Q0 (l28.2 - 16)).toNat) true λx32=>
     .Qq 11008 (Qh.Yi (e:=163) 213 (.tmp 7) (.tmp 68) 69 7 ⟨1,true,(List.map J1.c l28.1)⟩ 0 .i64 (Q0 (l28.2 - 7)) 64) λ_=>
     .row 11009 J1 l28.1 (0+(Q0 (l28.2 - 7)).toNat) true λx33=>
     .cl 11012 (Ax x30 (-7)) λr34=>
     .cl 11014 (Ax x30 (-18)) λr35=>
     .cl 11021 (Ax x31 (-17)) λr36=>
     .cl 11023 (Ax x31 (-19)) λr37=>
     .Qq 11029 (Qh.Yi (e:=163) 213 (.tmp 7) (.tmp 62) 90 7 ⟨1,true,(List.map J1.c l28.1)⟩ 0 .i64 l28.2 64) λ_=>
     .row 11030 J1 l28.1 (0+l28.2.toNat) true λx38=>
     .re 11030 (Ji.put 7 1 J1 l28.1 (0+l28.2.toNat) (O2 ((O2 ((O2 (x32+x33))+(R2 .u32 (R2 .u32 r34 r35) (Z5 .u32 x30 3))))+(R2 .u32 (R2 .u32 r36 r37) (Z5 .u32 x31 10))))) (.done (.inl ((l28.1.set (0+l28.2.toNat) (O2 ((O2 ((O2 (x32+x33))+(R2 .u32 (R2 .u32 r34 r35) (Z5 .u32 x30 3))))+(R2 .u32 (R2 .u32 r36 r37) (Z5 .u32 x31 10))))),(Q0 (l28.2+1)))))))
   (.done (.inr l28.1)))
  ((List.replicate 64 (0:Int)),0))
 (λ(e39:(List Int))=>Ext.of (.exit 2) [(3,.ptr 1000003 0 0),(5,.ptr 1000005 0 0),(7,.ptr 7 0 0)] [(1000003,⟨1,true,[[.ptr 2000000 0 0]]⟩),(1700070,⟨1,true,[[.str rest]]⟩),(2000000,⟨10,true,[(W0 (Du w) [.str tl,.i ct])]⟩)] [BT.of 7 J1 1 e39 true,BT.of 1000005 J1 1 J2 true] (by rfl))
 (λe39=>
  .bind 1
  (.lp (λ(l49:Int×Int×Int×Int×Int×Int×Int×Int×Int)=>Ext.of .normal [(3,.ptr 1000003 0 0),(5,.ptr 1000005 0 0),(7,.ptr 7 0 0),(12,.ptr 12 0 0),(97,.i l49.q.q)] [(12,⟨8,true,[(Rk l49)]⟩),(1000003,⟨1,true,[[.ptr 2000000 0 0]]⟩),(1700070,⟨1,true,[[.str rest]]⟩),(2000000,⟨10,true,[(W0 (Du w) [.str tl,.i ct])]⟩)] [BT.of 7 J1 1 e39 true,BT.of 1000005 J1 1 J2 true] (by rfl))
   (λl49=>
    .br 0 (decide (l49.q.q < 64))
    (.cl 18004 (Ax l49.q.1 (-6)) λr50=>
     .cl 18006 (Ax l49.q.1 (-11)) λr51=>
     .cl 18009 (Ax l49.q.1 (-25)) λr52=>
     .Qq 18024 (Qh.Yi (e:=163) 213 (.tmp 5) (.tmp 126) 127 1000005 ⟨1,true,(List.map J1.c J2)⟩ 0 .i64 l49.q.q 64) λ_=>
     .row 18025 J1 J2 (0+l49.q.q.toNat) true λx53=>
     .Qq 18028 (Qh.Yi (e:=163) 213 (.tmp 7) (.tmp 130) 131 7 ⟨1,true,(List.map J1.c e39)⟩ 0 .i64 l49.q.q 64) λ_=>
     .row 18029 J1 e39 (0+l49.q.q.toNat) true λx54=>
     .cl 19002 (Ax l49.1 (-2)) λr55=>
     .cl 19004 (Ax l49.1 (-13)) λr56=>
     .cl 19007 (Ax l49.1 (-22)) λr57=>
     .done (.inl ((O2 ((O2 ((O2 ((O2 ((O2 (l49.q.2.2.2.1+(R2 .u32 (R2 .u32 r50 r51) r52)))+(R2 .u32 (U1 .u32 l49.q.1 l49.q.2.1) (U1 .u32 (R2 .u32 4294967295 l49.q.1) l49.q.2.2.1))))+x53))+x54))+(O2 ((R2 .u32 (R2 .u32 r55 r56) r57)+(R2 .u32 (R2 .u32 (U1 .u32 l49.1 l49.2.1) (U1 .u32 l49.1 l49.2.2.1)) (U1 .u32 l49.2.1 l49.2.2.1)))))),l49.1,l49.2.1,l49.2.2.1,(O2 (l49.2.2.2.1+(O2 ((O2 ((O2 ((O2 (l49.q.2.2.2.1+(R2 .u32 (R2 .u32 r50 r51) r52)))+(R2 .u32 (U1 .u32 l49.q.1 l49.q.2.1) (U1 .u32 (R2 .u32 4294967295 l49.q.1) l49.q.2.2.1))))+x53))+x54)))),l49.q.1,l49.q.2.1,l49.q.2.2.1,(Q0 (l49.q.q+1)))))
    (.done (.inr (l49.1,l49.2.1,l49.2.2.1,l49.2.2.2.1,l49.q.1,l49.q.2.1,l49.q.2.2.1,l49.q.2.2.2.1))))
   (w.1,w.2.1,w.2.2.1,w.2.2.2.1,w.q.1,w.q.2.1,w.q.2.2.1,w.q.2.2.2,0))
  (λ(e58:Int×Int×Int×Int×Int×Int×Int×Int)=>Ext.of (.exit 4) [(3,.ptr 1000003 0 0),(12,.ptr 12 0 0)] [(12,⟨8,true,[(Du e58)]⟩),(1000003,⟨1,true,[[.ptr 2000000 0 0]]⟩),(1700070,⟨1,true,[[.str rest]]⟩),(2000000,⟨10,true,[(W0 (Du w) [.str tl,.i ct])]⟩)] [BT.of 1000005 J1 1 J2 true] (by rfl))
  (λe58=>
   .tt (.tt (.tt (.tt (.tt (.tt (.tt (.tt (.ff (.done ((O2 (w.1+e58.1)),(O2 (w.2.1+e58.2.1)),(O2 (w.2.2.1+e58.2.2.1)),(O2 (w.2.2.2.1+e58.2.2.2.1)),(O2 (w.q.1+e58.q.1)),(O2 (w.q.2.1+e58.q.2.1)),(O2 (w.q.2.2.1+e58.q.2.2.1)),(O2 (w.q.2.2.2+e58.q.2.2.2))))))))))))))
def qT(w:W8)(tl:ze)(ct:Int)(s:ze)(rest:ze):Ext:=Ext.of .normal [(3,.ptr 1000003 0 0),(5,.ptr 1000005 0 0),(6,.str s)] [(1000003,⟨1,true,[[.ptr 2000000 0 0]]⟩),(1700070,⟨1,true,[[.str rest]]⟩),(2000000,⟨10,true,[(W0 (Du w) [.str tl,.i ct])]⟩)] [BT.of 1000005 J1 1 J2 true] (by rfl)
def pL(w:W8)(tl:ze)(ct:Int)(s:ze)(rest:ze):(Int×Int×Int×Int×Int×Int×Int×Int)->Ext:=λ(r:Int×Int×Int×Int×Int×Int×Int×Int)=>Ext.of .normal [] [(1000003,⟨1,true,[[.ptr 2000000 0 0]]⟩),(1700070,⟨1,true,[[.str rest]]⟩),(2000000,⟨10,true,[(W0 (Du r) [.str tl,.i ct])]⟩)] [BT.of 1000005 J1 1 J2 true] (by rfl)
theorem Qxl(w:W8)(tl:ze)(ct:Int)(s:ze)(rest:ze):Y3 Tryz.prog GG [3,5,6,7,8,9,10,11,12,13,14,15,16,17,18,22,23,26,97,98,179,180] 198 (I3 (cB (cR (cR (Tryz.f250.body.getD .skip))))) (qT w tl ct s rest) (Bm w tl ct s rest) (pL w tl ct s rest):=by unfold Y3;kernel_rfl
end Go.Proofs.YtjdieimefebnfaaGreatDoor
namespace Go.Proofs
open Go.Shelf
def Tryz.Re:Go.Shelf.Ren:=⟨fun|316=>103|n=>n,fun|9=>9|3=>3|4=>4|37=>57|0=>0|127=>168|5=>5|n=>n,fun|n=>n⟩
theorem Tryz.nN:LaysM.n316 Tryz.prog Tryz.Re where
 mixed:=by kernel_rfl
 f316:=Tryz.func103.trans (congrArg some (by kernel_rfl))
 t0:=Tryz.underlying0
 a0:=Tryz.isAgg0
 z0:=Tryz.sizeOf0
 v0:=Tryz.zeroValue0
 t3:=Tryz.underlying3
 a3:=Tryz.isAgg3
 z3:=Tryz.sizeOf3
 v3:=Tryz.zeroValue3
 t4:=Tryz.underlying4
 a4:=Tryz.isAgg4
 z4:=Tryz.sizeOf4
 v4:=Tryz.zeroValue4
 t9:=Tryz.underlying9
 a9:=Tryz.isAgg9
 z9:=Tryz.sizeOf9
 v9:=Tryz.zeroValue9
 t37:=Tryz.underlying57
 a37:=Tryz.isAgg57
 z37:=Tryz.sizeOf57
 v37:=Tryz.zeroValue57
 t127:=Tryz.underlying168
 a127:=Tryz.isAgg168
 z127:=Tryz.sizeOf168
 v127:=Tryz.zeroValue168
 t5:=Tryz.underlying5
 a5:=Tryz.isAgg5
 z5:=Tryz.sizeOf5
 v5:=Tryz.zeroValue5
 i0:=by kernel_rfl
 i3:=by kernel_rfl
 i4:=by kernel_rfl
 i5:=by kernel_rfl
 i9:=by kernel_rfl
 i37:=by kernel_rfl
 i127:=by kernel_rfl
end Go.Proofs
namespace Go.Proofs.YtjdieimefebnfaaGreatDoor
open Go Go.EV
def dU(p0:ze):TT Unit:=.Qa 0 (decide (p0.size<=281474976710656)) (.done ())
theorem Qax(p0:ze)(r:Unit)(h:(dU p0).run=some r):QR Tryz.prog GG 103 [.str p0] (Qm []) (.str p0) (Qm []):=by
 have h1:p0.size<=281474976710656:=by
  cases hd:decide (p0.size<=281474976710656) with
  | true=>simpa using hd
  | false=>
   unfold dU at h;rw[hd] at h;cases h
 exact RN aM (λw=>Any.stringslite_Clone Tryz.nN p0 w h1) (λ_ _ _ _=>.data (.str _))
def Qdi(p0:ze):Sp Unit:=⟨103,[.str p0],[],(dU p0).run,λ_=>.str p0,λ_=>[],[],λ_ _ h=>by simp at h,λr h=>Qax p0 r h⟩
def FP:List (Nat×V):=[(3,.ptr 1000003 0 0),(5,.ptr 1000005 0 0),(20,.fn 267 [] [.ptr 1700070 0 0])]
def mxR(w:W8)(tl:ze)(ct:Int):List V:=[.int .u32 w.1,.int .u32 w.2.1,.int .u32 w.2.2.1,.int .u32 w.2.2.2.1,.int .u32 w.q.1,.int .u32 w.q.2.1,.int .u32 w.q.2.2.1,.int .u32 w.q.2.2.2,.str tl,.int .i64 ct]
def mxL(w:W8)(tl:ze)(ct:Int)(rest:ze):List (Nat×Qd):=
 [(1000003,⟨1,true,[[.ptr 2000000 0 0]]⟩),(1700070,⟨1,true,[[.str rest]]⟩),(2000000,⟨10,true,[mxR w tl ct]⟩)]
def mxT:List BT:=[BT.of 1000005 J1 1 J2 true]
def sX(ts:List (Nat×V))(w:W8)(tl:ze)(ct:Int)(rest:ze):Ext:=Ext.of .normal ts (mxL w tl ct rest) mxT (by rfl)
def qO(w:W8)(tl:ze)(ct:Int)(rest:ze):List (Nat×Qd):=(sX [] w tl ct rest).bs
theorem W6{st:St}(x:Ext){n:Nat}(hok:x.ok=true)(hn:st.n=n)(h:KO x st=x.ts/\KL x st=x.bs.map λp=>(p.1,some p.2)):QU GG st (x.D n).st:=by
 grind [ZD]
noncomputable def mK:Code:=cB (cR (cR (Tryz.f250.body.getD .skip)))
def mM:Code:=MS mK
section
variable (w:W8) (tl:ze) (ct:Int) (s rest:ze)
theorem kMa:Y3 Tryz.prog GG [3,5,6,20,21] 198 mM (sX ((21,.str s) :: FP) w tl ct rest) (.done ():TT Unit) (λ_=>qT w tl ct s rest):=by unfold Y3;kernel_rfl
end
theorem uM(w:W8)(tl:ze)(ct:Int)(s rest:ze){r:W8}(hb:(Bm w tl ct s rest).run=some r) :
  JT Tryz.prog GG 198 (Zw FP) [21] mM (I3 mK) (Qm (qO w tl ct rest)) [.str s] (λe b'=>e=.normal/\b'=Qm (qO r tl ct rest)):=by
 refine⟨((qT w tl ct s rest).D 198).st,?_,?_⟩
 ·have h:=(kMa w tl ct s rest).tv Z1 (r:=()) rfl (by rfl);have e:((sX ((21,.str s) :: FP) w tl ct rest).D 198).st=Ks (E6 198 (Zw FP) (Qm (qO w tl ct rest))) ([21].zip [.str s]):=by
   rw[W1 (by rfl)];exact(Uu 198 FP _ 21 (.str s)).symm
  rw[e] at h;exact h
 ·refine((Qxl w tl ct s rest).tv Z1 hb (by rfl)).mono λe s' hg=>?_;obtain⟨rfl,g⟩:=hg;refine⟨_,198,⟨rfl,rfl⟩,?_⟩;have e:((pL w tl ct s rest r).D 198).st=E6 198 (λ_=>.undef) (Qm (qO r tl ct rest)):=by
   rw[W1 (by rfl)];rfl
  grind
def GJ(l:Nat):List V:=[.QP l,.ptr 1700070 0 0]
noncomputable def cBk:Code:=Tryz.f267.body.getD .skip
def cBL:Code:=cB (cB cBk)
def bR0:Code:=cL (cL cBL)
def Qhs:Array Oper:=Oo (cL (cB (cL (cR cBL))))
def bR1:Code:=cR (cR cBL)
theorem eBk:cBk=.block 0 (.loop cBL):=by kernel_rfl
theorem eBL:cBL=.seq (.seq bR0 (.cond (.tmp 5) .skip (.exit 0))) (.seq (.block 1 (.seq (.region 2 Qhs false) (.cond (.tmp 12) .ret .skip))) bR1):=by kernel_rfl
section
variable (l:Nat) (w:W8) (tl:ze) (ct:Int) (rest:ze)
def tBk:List (Nat×V):=[(0,.QP l),(1,.ptr 1700070 0 0)]
def iD:Ext:=sX (tBk l) w tl ct rest
def bC:Ext:=sX (tBk l++[(5,.bool (decide ((64:Int)<=(rest.size:Int))))]) w tl ct rest
def Qui:Ext:=sX (tBk l++[(8,.QP l),(10,.str (rest.extract 0 64))]) w tl ct rest
theorem kB0:Y3 Tryz.prog GG [0,1,5] 13 bR0 (iD l w tl ct rest) (.done ():TT Unit) (λ_=>bC l w tl ct rest):=by unfold Y3;kernel_rfl
def gB2:TT Unit:=.Qa 2003 (decide (0<=(64:Int))&&decide ((64:Int)<=(rest.size:Int))) (.done ())
theorem kB2:K5 Tryz.prog GG [0,1,8,10] 13 2 Qhs 3 (iD l w tl ct rest) (gB2 rest) (λ_=>Qui l w tl ct rest):=by unfold K5;kernel_rfl
def gB1:TT Unit:=.Qa 1002 (decide (0<=(64:Int))&&decide ((64:Int)<=(rest.size:Int))) (.done ())
theorem kB1:Y3 Tryz.prog GG [0,1] 13 bR1 (iD l w tl ct rest) (gB1 rest) (λ_=>iD l w tl ct (rest.extract 64 rest.size)):=by unfold Y3;kernel_rfl
end
def ZJ(tl:ze)(ct:Int)(x:W8×ze):Option ((W8×ze)⊕W8):=
 bif decide ((64:Int)<=(x.2.size:Int)) then
  (match (Bm x.1 tl ct (x.2.extract 0 64) x.2).run with
  | none=>none
  | some w=>some (.inl (w,x.2.extract 64 x.2.size)))
 else some (.inr x.1)
def Vc(w:W8)(tl:ze)(ct:Int)(s:ze):Option W8:=I0 (ZJ tl ct) Yv (w,s)
def Qx3:YL:=⟨198,Zw FP,#[21],mM,I3 mK⟩
theorem rZ(w:W8)(tl:ze)(ct:Int)(s:ze){r:W8}(h:Vc w tl ct s=some r) :
  UM Tryz.prog GG cBk 13 GJ (Qm (qO w tl ct s)) Qx3 (λe b=>e=.normal/\∃rest,b=Qm (qO r tl ct rest)):=by
 refine UM.of λl=>?_;have e0:U3 13 (GJ l) (Qm (qO w tl ct s))=((sX (U5 (GJ l)) w tl ct s).D 13).st:=(B9 (x:=sX (U5 (GJ l)) w tl ct s) (by rfl) (by rfl) 13).symm;rw[e0,eBk];show YT _ _ _ _ _ ⟨.normal,((iD l w tl ct s).D 13).st⟩ _;refine YT.block ?_;refine YT.loop (λm s=>s.x=.normal/\∃y:W8×ze,QU GG s.st ((iD l y.1 tl ct y.2).D 13).st/\I0 (ZJ tl ct) m y=some r) (λm s hI=>?_) (n:=Yv) ⟨rfl,(w,s),QU.same _,h⟩;obtain⟨x,st⟩:=s;obtain⟨rfl,⟨v,o⟩,g,hit⟩:=hI;refine YT.XI g ?_;cases m with
 | zero=>simp[I0] at hit
 | succ m=>
  rw[ZH] at hit;rw[eBL];refine YT.seq (YT.seq (YT.piece (kB0 l v tl ct o) Z1 rfl (by rfl) λs g=>?_));show YT _ _ _ _ _ _ _;refine YT.XI g ?_;cases hc:decide ((64:Int)<=(o.size:Int)) with
  | false=>
   have hs0:ZJ tl ct (v,o)=some (.inr v):=by grind [ZJ]
   rw[hs0] at hit;obtain rfl:v=r:=wu hit;refine YT.cond (b:=false) (by show some (V.bool (decide ((64:Int)<=(o.size:Int))))=_;rw[hc]) (YT.exit ?_);refine⟨.inl rfl,13,Zw (bC l v tl ct o).ts,Qm (qO v tl ct o),?_,rfl,o,rfl⟩;show QU GG ((bC l v tl ct o).D 13).st _;rw[W1 (by rfl) 13];exact QU.same _
  | true=>
   have hrun:∀a:Nat,(T.Qa a (decide (0<=(64:Int))&&decide ((64:Int)<=(o.size:Int))) (.done ()):TT Unit).run=some ():=λa=>by
    rw[hc];rfl
   refine YT.cond (b:=true) (by show some (V.bool (decide ((64:Int)<=(o.size:Int))))=_;rw[hc]) (YT.skip ?_);show YT _ _ _ _ _ _ _;refine YT.XI (st':=((iD l v tl ct o).D 13).st) (W6 (iD l v tl ct o) (by rfl) rfl ⟨by rfl,by rfl⟩) ?_;cases h5:(Bm v tl ct (o.extract 0 64) o).run with
   | none=>grind [ZJ]
   | some v2=>
   have hs0:ZJ tl ct (v,o)=some (.inl (v2,o.extract 64 o.size)):=by grind [ZJ]
   rw[hs0] at hit;refine YT.seq (YT.block (YT.seq (YT.region ?_)));show J3 _ _ _ _ _ ([0,1,2]++[3,4]) _ _;refine J3.tv ((kB2 l v tl ct o).tv Z1 (hrun _) (by rfl)) λe st hq'=>⟨hq'.1,J3.XI hq'.2 ?_⟩;rw[W1 (x:=Qui l v tl ct o) (by rfl) 13];refine J3.KS (hi:=rfl) rfl rfl rfl rfl rfl rfl rfl ?_ ?_ ?_ rfl (uM v tl ct (o.extract 0 64) o h5) ?_ ?_
   ·exact λi=>L5 (by rfl) i
   ·exact λi=>L5 (by rfl) i
   ·intro p hp;have:p∈[21]:=hp;simp at this;subst this;exact(by decide:21 < 198)
   ·grind
   ·intro e b' h;obtain⟨rfl,rfl⟩:=h;refine J3.step rfl (J3.nil ?_);show YT _ _ _ _ _ _ _;refine YT.cond (b:=false) rfl (YT.skip ?_);show YT _ _ _ _ _ _ _;refine YT.XI (st':=((iD l v2 tl ct o).D 13).st) (W6 (iD l v2 tl ct o) (by rfl) rfl ⟨by rfl,by rfl⟩) ?_;refine YT.piece (kB1 l v2 tl ct o) Z1 (hrun _) (by rfl) λs g=>?_;exact⟨m,Nat.lt_succ_self m,rfl,(v2,o.extract 64 o.size),g,hit⟩
def Qwy:List (Nat×V):=[(3,.ptr 3 0 0),(5,.ptr 5 0 0)]
def mfL(w:W8)(tl:ze)(ct:Int):List (Nat×Qd):=[(3,⟨1,true,[[.ptr 1000000 0 0]]⟩),(1000000,⟨10,true,[mxR w tl ct]⟩)]
def nH(w:W8)(tl:ze)(ct:Int)(s:ze):List (Nat×Qd):=[(3,⟨1,true,[[.ptr 1000000 0 0]]⟩),(700070,⟨1,true,[[.str s]]⟩),(1000000,⟨10,true,[mxR w tl ct]⟩)]
def mfT:List BT:=[BT.of 5 J1 1 J2 true]
def Kv(w:W8)(tl:ze)(ct:Int)(s:ze):Ext:=Ext.of .normal (Qwy++[(20,.fn 267 [] [.ptr 700070 0 0])]) (nH w tl ct s) mfT (by rfl)
def eMf(w:W8)(tl:ze)(ct:Int):Ext:=Ext.of .normal Qwy (mfL w tl ct) mfT (by rfl)
theorem BV{α:Type}(ty:Ty α)(l:List α):(List.map ty.c l).map (S9 sh)=List.map ty.c l:=by
 have h:J9 (l.map ty.c):=ty.data l;have:(⟨0,true,List.map ty.c l⟩:Qd).Qb sh=⟨0,true,List.map ty.c l⟩:=(by grind [J9.Qb,List.map,sh])
 have:=congrArg Qd.rows this;exact this
theorem bW(w:W8)(tl:ze)(ct:Int)(s:ze):QZ (Qm (Kv w tl ct s).bs)=Qm (qO w tl ct s):=by
 rw[UO];have:((Kv w tl ct s).bs.map λp=>(sh p.1,p.2.Qb sh))=qO w tl ct s:=by
  simp only[Kv,Ext.of,nH,mfT,List.cons_append,List.nil_append,wE,List.map_nil,BT.of,Qd.Qb,BV];kernel_rfl
 rw[this]
theorem nI(w:W8)(tl:ze)(ct:Int)(s:ze){r:W8}(h:Vc w tl ct s=some r) :
  TV Tryz.prog GG (.rangeFunc (.tmp 20) #[21] mM (I3 mK)) ((Kv w tl ct s).D 198).st (λe st=>e=.normal/\QU GG st ((eMf r tl ct).D 198).st):=by
 have ht:(λi=>W3 sh (((Kv w tl ct s).D 198).st.t i))=Zw FP:=by
  have:((Kv w tl ct s).D 198).st.t=Zw (Kv w tl ct s).ts:=rfl;rw[this,Zv];have:((Kv w tl ct s).ts.map λp=>(p.1,W3 sh p.2))=FP:=by kernel_rfl
  rw[this]
 have hb:Tryz.f267.body=some cBk:=by kernel_rfl
 refine TV.AY (f:=267) (fi:=Tryz.f267) (c:=cBk) (first:=[]) (caps:=[.ptr 1700070 0 0]) (R:=λe b=>e=.normal/\∃rest,b=Qm (qO r tl ct rest)) ?_ Tryz.func267 hb (by kernel_rfl) (by kernel_rfl) ?_ (λi=>?_) ?_ ?_
 ·show some ((λi=>W3 sh (((Kv w tl ct s).D 198).st.t i)) 20)=_;rw[ht];rfl
 ·intro b k hk;obtain⟨q,h1,rfl,_⟩:=Ys (show Qm (Kv w tl ct s).bs b=some k from hk);show (((Kv w tl ct s).us).contains q.1 || Qw q.1)=true;simp only[Ext.us,wi,wz,zM];grind
 ·have:=congrFun ht i;rw[show W3 sh (((Kv w tl ct s).D 198).st.t i)=Zw FP i from this];exact L5 (by rfl) i
 ·have hbb:QZ ((Kv w tl ct s).D 198).st.b=Qm (qO w tl ct s):=bW w tl ct s;rw[ht,hbb];have e:max Tryz.f267.ntmps (([]:List V).length+1+[V.ptr 1700070 0 0].length)=13:=by kernel_rfl
  rw[e];exact rZ w tl ct s h
 ·intro e b' ho;obtain⟨rfl,rest,rfl⟩:=ho;refine⟨.inl rfl,Qm (Kv r tl ct rest).bs,(bW r tl ct rest).symm,?_,rfl,?_⟩
  ·show (D2 198 (Kv w tl ct s).ts (Kv r tl ct rest).bs (Kv w tl ct s).us).known;refine⟨λi b hm=>?_,λi k hk=>?_⟩
   ·have hm':b∈K1 (Zw (Kv w tl ct s).ts i):=hm;unfold Zw at hm';cases hf:(Kv w tl ct s).ts.find? (λp=>p.1==i) with
    | none=>grind [K1]
    | some p=>
     rw[hf] at hm';have all:((Kv w tl ct s).ts.all λp=>(K1 p.2).all λb=>(Kv w tl ct s).us.contains b)=true:=by rfl
     have:=zN.1 (zN.1 all p (ql hf)) b hm';show ((Kv w tl ct s).us.contains b || Qw b)=true;rw[this];rfl
   ·obtain⟨q,h1,rfl,rfl⟩:=Ys (show Qm (Kv r tl ct rest).bs i=some k from hk);have husl:(Kv r tl ct rest).us=(Kv w tl ct s).us:=rfl;refine⟨?_,λb hm=>?_⟩
    ·show ((Kv w tl ct s).us.contains q.1 || Qw q.1)=true;rw[<-husl];simp only[Ext.us,wi,wz,zM];grind
    ·have:q∈nH r tl ct rest++mfT.map λx=>(x.id,x.k):=h1;rcases ww.1 this with h2|h2
     ·have all:((nH r tl ct rest).all λq=>(D0 q.2.rows.flatten).all λb=>(Kv w tl ct s).us.contains b)=true:=by rfl
      have:=zN.1 (zN.1 all q h2) b hm;show ((Kv w tl ct s).us.contains b || Qw b)=true;rw[this];rfl
     ·have hdat:=GY _ h2;rw[hdat.refs] at hm;simp at hm
  ·show QU GG (D2 198 (Kv w tl ct s).ts (Kv r tl ct rest).bs (Kv w tl ct s).us) _;exact W6 (eMf r tl ct) (by rfl) rfl ⟨by rfl,by rfl⟩
def cW(w:W8)(tl:ze)(ct:Int)(s:ze):Sub Tryz.prog GG W8:=
 ⟨.rangeFunc (.tmp 20) #[21] mM (I3 mK),198,Kv w tl ct s,Vc w tl ct s,λr=>eMf r tl ct,λ_ h=>nI w tl ct s h⟩
structure EY where
 a0:Int
 a1:Int
 a2:Int
 a3:Int
 a4:Int
 a5:Int
 a6:Int
 a7:Int
structure Tl where
 fW:EY
 fX:ze
 fU:Int
structure JC where
 fA:Tl
structure U0 where
 fS:ze
 fB:Int
structure EZ where
 gi:U0
def Z8:Ty ze:=⟨λx=>[.str x],λx=>[.str x],λ_=>rfl,λ_=>rfl,λ_ _=>rfl,λ_=>rfl⟩
def Y2:Ty Int:=⟨λx=>[.int .u8 x],λx=>[.int .u8 x],λ_=>rfl,λ_=>rfl,λ_ _=>rfl,λ_=>rfl⟩
def Qmh(p0:List ze):TT (Bool):=.QC 1 (.lp (λ(l61:Int)=>Ext.l .normal [(2,.bool false),(5,Sl 1 Z8 p0),(6,.i (I5 Z8 p0)),(7,.i l61)] []) (λl61=>.br 0 (decide (l61 < (I5 Z8 p0))) (.row 3001 Z8 p0 l61.toNat (decide (0<=l61)) λx62=>.br 0 (decide ((4096:Int) < (x62.size:Int))) (.done (.inr (.inl ()))) (.done (.inl (Q0 (l61+1))))) (.done (.inr (.inr ())))) 0) (λ(e63:Unit)=>Ext.l .ret [(2,.bool true)] []) (λ(e64:Unit)=>Ext.l (.exit 0) [(2,.bool false)] []) (λe63=>.done true) (λe64=>.done false)
def TG(p0:List ze):Sp (Bool):=oF [0,2,4,5,6,7,8,13] Tryz.func153 [Sl 1 Z8 p0] (Qmh p0) (λr=>.bool r)
def Qdh(p0:ze):Sp (Unit):=.Zk 260 [] Z1 Tryz.func260 rfl (λ_=>rfl) (show Jf Pg GG [0,1,2] Tryz.f260 [.str p0] (Ext.of .normal (U5 [.str p0]) [] [] (by rfl)) (.done ():TT (Unit)) (λ(r:Unit)=>.fn 267 [] [.ptr 1 0 0]) (λ(r:Unit)=>Ext.of .normal [] [(1,⟨1,true,[[.str p0]]⟩)] [] (by rfl)) by unfold Jf;kernel_rfl)
def eG(p0:ze)(p1:JC):TT (Int×Int×Int×Int×Int×Int×Int×Int):=.Qq 2 (Qh.Dv (ty:=J1) 213 (.tmp 2) 5 J2) λ_=>.call 1002 (Qdh p0) [] [(1,500003)] λr66=>.gh 1 (.Qb 500003 700070) (.sub (cW (p1.fA.fW.a0,p1.fA.fW.a1,p1.fA.fW.a2,p1.fA.fW.a3,p1.fA.fW.a4,p1.fA.fW.a5,p1.fA.fW.a6,p1.fA.fW.a7) p1.fA.fX p1.fA.fU p0) λr67=>.done (r67.1,r67.2.1,r67.2.2.1,r67.2.2.2.1,r67.q.1,r67.q.2.1,r67.q.2.2.1,r67.q.2.2.2))
def Fi(p0:ze)(p1:JC):Sp (Int×Int×Int×Int×Int×Int×Int×Int):=.Zk 250 [] Z1 Tryz.func250 rfl (λ_=>rfl) (show Jf Pg GG [0,1,2,3,5,6,7,8,9,10,11,12,13,14,15,16,17,18,20,21,22,23,26,97,98,179,180] Tryz.f250 [.ptr zI 0 0,.str p0,.agg M8] (Ext.of .normal (U5 [.ptr zI 0 0,.str p0,.agg M8]) [(zI,⟨10,true,[[.int .u32 p1.fA.fW.a0,.int .u32 p1.fA.fW.a1,.int .u32 p1.fA.fW.a2,.int .u32 p1.fA.fW.a3,.int .u32 p1.fA.fW.a4,.int .u32 p1.fA.fW.a5,.int .u32 p1.fA.fW.a6,.int .u32 p1.fA.fW.a7,.str p1.fA.fX,.i p1.fA.fU]]⟩)] [] (by rfl)) (eG p0 p1) (λ(r:Int×Int×Int×Int×Int×Int×Int×Int)=>.Qc []) (λ(r:Int×Int×Int×Int×Int×Int×Int×Int)=>Ext.of .normal [] [(zI,⟨10,true,[(W0 (Du r) [.str p1.fA.fX,.i p1.fA.fU])]⟩)] [] (by rfl)) by unfold Jf;kernel_rfl)
def g59(p0:ze):TT (ze):=.cl 1002 (Qdi p0) λr69=>.done p0
def s59(p0:ze):Sp (ze):=oF [0,2] Tryz.func59 [.str p0] (g59 p0) (λr=>.str r)
def Qyc(p0:ze)(p1:JC):TT (Int×Int×Int×Int×Int×Int×Int×Int×ze×Int):=.Qq 1 (Qh.Dv (ty:=J1) 213 (.tmp 2) 5 J2) λ_=>.Qa 1007 (decide (p1.fA.fX.size+p0.size<=9223372036854775807)) (.Qq 2003 (Qh.DF 213 (.tmp 5) 16 5 ⟨1,true,(List.map J1.c J2)⟩ (.agg M8)) λ_=>.call 2004 (Fi (p1.fA.fX++p0) (JC.mk (Tl.mk (EY.mk p1.fA.fW.a0 p1.fA.fW.a1 p1.fA.fW.a2 p1.fA.fW.a3 p1.fA.fW.a4 p1.fA.fW.a5 p1.fA.fW.a6 p1.fA.fW.a7) p1.fA.fX p1.fA.fU))) [(zI,zI)] [] λr68=>.Qa 3007 (decide (0<=(Q0 ((Q0 (Int.tdiv ((p1.fA.fX++p0).size:Int) 64)) * 64)))&&decide ((Q0 ((Q0 (Int.tdiv ((p1.fA.fX++p0).size:Int) 64)) * 64))<=((p1.fA.fX++p0).size:Int))) (.cl 3008 (s59 ((p1.fA.fX++p0).extract ((Q0 ((Q0 (Int.tdiv ((p1.fA.fX++p0).size:Int) 64)) * 64)).toNat) ((p1.fA.fX++p0).size))) λr70=>.done (r68.1,r68.2.1,r68.2.2.1,r68.2.2.2.1,r68.q.1,r68.q.2.1,r68.q.2.2.1,r68.q.2.2.2,r70,(Q0 (p1.fA.fU+(p0.size:Int))))))
def tS(p0:ze)(p1:JC):Sp (Int×Int×Int×Int×Int×Int×Int×Int×ze×Int):=.Zk 209 [] Z1 Tryz.func209 rfl (λ_=>rfl) (show Jf Pg GG [0,1,2,5,6] Tryz.f209 [.ptr zI 0 0,.str p0,.agg M8] (Ext.of .normal (U5 [.ptr zI 0 0,.str p0,.agg M8]) [(zI,⟨10,true,[[.int .u32 p1.fA.fW.a0,.int .u32 p1.fA.fW.a1,.int .u32 p1.fA.fW.a2,.int .u32 p1.fA.fW.a3,.int .u32 p1.fA.fW.a4,.int .u32 p1.fA.fW.a5,.int .u32 p1.fA.fW.a6,.int .u32 p1.fA.fW.a7,.str p1.fA.fX,.i p1.fA.fU]]⟩)] [] (by rfl)) (Qyc p0 p1) (λ(r:Int×Int×Int×Int×Int×Int×Int×Int×ze×Int)=>.Qc []) (λ(r:Int×Int×Int×Int×Int×Int×Int×Int×ze×Int)=>Ext.of .normal [] [(zI,⟨10,true,[(W0 (Rk r) [.str r.q.q.1,.i r.q.q.2])]⟩)] [] (by rfl)) by unfold Jf;kernel_rfl)
def Qka(p0:JC):TT (ze):=.Qq 2 (Qh.Dv (ty:=J1) 213 (.tmp 1) 3 J2) λ_=>.Qa 1004 (decide (p0.fA.fX.size+(bs [128]).size<=9223372036854775807)) (.Qq 1011 (Qh.sF (ty:=Y2) (t:=57) (e:=5) (zv:=.int .u8 0) (zc:=.int .u8 0) (0:Int) (.tmp 20) (.tmp 20) 21 (Int.tmod (Q0 ((119:Int) - (p0.fA.fX.size:Int))) 64) (Int.tmod (Q0 ((119:Int) - (p0.fA.fX.size:Int))) 64) 1 (by kernel_rfl) (by kernel_rfl) (by kernel_rfl) rfl ⟨rfl,rfl,rfl⟩ (λ_ _=>by constructor)) λ_=>.Qq 1012 (Qh.YP (ty:=Y2) (s:=57) (t:=9) (e:=5) (.tmp 21) 22 21 (List.replicate (Int.tmod (Q0 ((119:Int) - (p0.fA.fX.size:Int))) 64).toNat (0:Int)) ((Int.tmod (Q0 ((119:Int) - (p0.fA.fX.size:Int))) 64).toNat) (hn:=(by simp))) λ_=>.Qa 1013 (decide ((p0.fA.fX++(bs [128])).size+(strOfNums (List.replicate (Int.tmod (Q0 ((119:Int) - (p0.fA.fX.size:Int))) 64).toNat (0:Int))).size<=9223372036854775807)) (.tt (.Qa 6008 (decide (((p0.fA.fX++(bs [128]))++(strOfNums (List.replicate (Int.tmod (Q0 ((119:Int) - (p0.fA.fX.size:Int))) 64).toNat (0:Int)))).size+(strOfNums [(Qk (Z5 .u64 (Z4 ((Z4 p0.fA.fU) * 8)) 56))]).size<=9223372036854775807)) (.tt (.gh 8 (.drop [38]) (.Qa 6008 (decide ((((p0.fA.fX++(bs [128]))++(strOfNums (List.replicate (Int.tmod (Q0 ((119:Int) - (p0.fA.fX.size:Int))) 64).toNat (0:Int))))++(strOfNums [(Qk (Z5 .u64 (Z4 ((Z4 p0.fA.fU) * 8)) 56))])).size+(strOfNums [(Qk (Z5 .u64 (Z4 ((Z4 p0.fA.fU) * 8)) 48))]).size<=9223372036854775807)) (.tt (.gh 8 (.drop [38]) (.Qa 6008 (decide (((((p0.fA.fX++(bs [128]))++(strOfNums (List.replicate (Int.tmod (Q0 ((119:Int) - (p0.fA.fX.size:Int))) 64).toNat (0:Int))))++(strOfNums [(Qk (Z5 .u64 (Z4 ((Z4 p0.fA.fU) * 8)) 56))]))++(strOfNums [(Qk (Z5 .u64 (Z4 ((Z4 p0.fA.fU) * 8)) 48))])).size+(strOfNums [(Qk (Z5 .u64 (Z4 ((Z4 p0.fA.fU) * 8)) 40))]).size<=9223372036854775807)) (.tt (.gh 8 (.drop [38]) (.Qa 6008 (decide ((((((p0.fA.fX++(bs [128]))++(strOfNums (List.replicate (Int.tmod (Q0 ((119:Int) - (p0.fA.fX.size:Int))) 64).toNat (0:Int))))++(strOfNums [(Qk (Z5 .u64 (Z4 ((Z4 p0.fA.fU) * 8)) 56))]))++(strOfNums [(Qk (Z5 .u64 (Z4 ((Z4 p0.fA.fU) * 8)) 48))]))++(strOfNums [(Qk (Z5 .u64 (Z4 ((Z4 p0.fA.fU) * 8)) 40))])).size+(strOfNums [(Qk (Z5 .u64 (Z4 ((Z4 p0.fA.fU) * 8)) 32))]).size<=9223372036854775807)) (.tt (.gh 8 (.drop [38]) (.Qa 6008 (decide (((((((p0.fA.fX++(bs [128]))++(strOfNums (List.replicate (Int.tmod (Q0 ((119:Int) - (p0.fA.fX.size:Int))) 64).toNat (0:Int))))++(strOfNums [(Qk (Z5 .u64 (Z4 ((Z4 p0.fA.fU) * 8)) 56))]))++(strOfNums [(Qk (Z5 .u64 (Z4 ((Z4 p0.fA.fU) * 8)) 48))]))++(strOfNums [(Qk (Z5 .u64 (Z4 ((Z4 p0.fA.fU) * 8)) 40))]))++(strOfNums [(Qk (Z5 .u64 (Z4 ((Z4 p0.fA.fU) * 8)) 32))])).size+(strOfNums [(Qk (Z5 .u64 (Z4 ((Z4 p0.fA.fU) * 8)) 24))]).size<=9223372036854775807)) (.tt (.gh 8 (.drop [38]) (.Qa 6008 (decide ((((((((p0.fA.fX++(bs [128]))++(strOfNums (List.replicate (Int.tmod (Q0 ((119:Int) - (p0.fA.fX.size:Int))) 64).toNat (0:Int))))++(strOfNums [(Qk (Z5 .u64 (Z4 ((Z4 p0.fA.fU) * 8)) 56))]))++(strOfNums [(Qk (Z5 .u64 (Z4 ((Z4 p0.fA.fU) * 8)) 48))]))++(strOfNums [(Qk (Z5 .u64 (Z4 ((Z4 p0.fA.fU) * 8)) 40))]))++(strOfNums [(Qk (Z5 .u64 (Z4 ((Z4 p0.fA.fU) * 8)) 32))]))++(strOfNums [(Qk (Z5 .u64 (Z4 ((Z4 p0.fA.fU) * 8)) 24))])).size+(strOfNums [(Qk (Z5 .u64 (Z4 ((Z4 p0.fA.fU) * 8)) 16))]).size<=9223372036854775807)) (.tt (.gh 8 (.drop [38]) (.Qa 6008 (decide (((((((((p0.fA.fX++(bs [128]))++(strOfNums (List.replicate (Int.tmod (Q0 ((119:Int) - (p0.fA.fX.size:Int))) 64).toNat (0:Int))))++(strOfNums [(Qk (Z5 .u64 (Z4 ((Z4 p0.fA.fU) * 8)) 56))]))++(strOfNums [(Qk (Z5 .u64 (Z4 ((Z4 p0.fA.fU) * 8)) 48))]))++(strOfNums [(Qk (Z5 .u64 (Z4 ((Z4 p0.fA.fU) * 8)) 40))]))++(strOfNums [(Qk (Z5 .u64 (Z4 ((Z4 p0.fA.fU) * 8)) 32))]))++(strOfNums [(Qk (Z5 .u64 (Z4 ((Z4 p0.fA.fU) * 8)) 24))]))++(strOfNums [(Qk (Z5 .u64 (Z4 ((Z4 p0.fA.fU) * 8)) 16))])).size+(strOfNums [(Qk (Z5 .u64 (Z4 ((Z4 p0.fA.fU) * 8)) 8))]).size<=9223372036854775807)) (.tt (.gh 8 (.drop [38]) (.Qa 6008 (decide ((((((((((p0.fA.fX++(bs [128]))++(strOfNums (List.replicate (Int.tmod (Q0 ((119:Int) - (p0.fA.fX.size:Int))) 64).toNat (0:Int))))++(strOfNums [(Qk (Z5 .u64 (Z4 ((Z4 p0.fA.fU) * 8)) 56))]))++(strOfNums [(Qk (Z5 .u64 (Z4 ((Z4 p0.fA.fU) * 8)) 48))]))++(strOfNums [(Qk (Z5 .u64 (Z4 ((Z4 p0.fA.fU) * 8)) 40))]))++(strOfNums [(Qk (Z5 .u64 (Z4 ((Z4 p0.fA.fU) * 8)) 32))]))++(strOfNums [(Qk (Z5 .u64 (Z4 ((Z4 p0.fA.fU) * 8)) 24))]))++(strOfNums [(Qk (Z5 .u64 (Z4 ((Z4 p0.fA.fU) * 8)) 16))]))++(strOfNums [(Qk (Z5 .u64 (Z4 ((Z4 p0.fA.fU) * 8)) 8))])).size+(strOfNums [(Qk (Z5 .u64 (Z4 ((Z4 p0.fA.fU) * 8)) 0))]).size<=9223372036854775807)) (.ff (.Qq 7002 (Qh.DF 213 (.tmp 3) 42 3 ⟨1,true,(List.map J1.c J2)⟩ (.agg M8)) λ_=>.call 7003 (Fi ((((((((((p0.fA.fX++(bs [128]))++(strOfNums (List.replicate (Int.tmod (Q0 ((119:Int) - (p0.fA.fX.size:Int))) 64).toNat (0:Int))))++(strOfNums [(Qk (Z5 .u64 (Z4 ((Z4 p0.fA.fU) * 8)) 56))]))++(strOfNums [(Qk (Z5 .u64 (Z4 ((Z4 p0.fA.fU) * 8)) 48))]))++(strOfNums [(Qk (Z5 .u64 (Z4 ((Z4 p0.fA.fU) * 8)) 40))]))++(strOfNums [(Qk (Z5 .u64 (Z4 ((Z4 p0.fA.fU) * 8)) 32))]))++(strOfNums [(Qk (Z5 .u64 (Z4 ((Z4 p0.fA.fU) * 8)) 24))]))++(strOfNums [(Qk (Z5 .u64 (Z4 ((Z4 p0.fA.fU) * 8)) 16))]))++(strOfNums [(Qk (Z5 .u64 (Z4 ((Z4 p0.fA.fU) * 8)) 8))]))++(strOfNums [(Qk (Z5 .u64 (Z4 ((Z4 p0.fA.fU) * 8)) 0))])) p0) [(zI,2)] [] λr72=>.gh 1 (.XC wv 8 1) (.bind 0 (.lp (λ(l74:(List Int)×Int)=>Ext.of .normal [(4,.str zg),(8,Rf wv l74.1),(46,.agg (Du r72)),(47,.i l74.2)] [] [Bt wv Y2 1 l74.1] (by rfl)) (λl74=>.br 0 (decide (l74.2 < 8)) (.Ko 11001 l74.2 [0,1,2,3,4,5,6,7] (λv=>bif v==0 then .app 12014 Y2 l74.1 [(Qk (Z5 .u32 r72.1 24)),(Qk (Z5 .u32 r72.1 16)),(Qk (Z5 .u32 r72.1 8)),(Qk r72.1)] 1 false (by intro h;cases h) (.gh 0 (.drop [wv]) (.gh 0 (.Qb 63 wv) (.done (.inl ((l74.1++[(Qk (Z5 .u32 r72.1 24)),(Qk (Z5 .u32 r72.1 16)),(Qk (Z5 .u32 r72.1 8)),(Qk r72.1)]),(Q0 (l74.2+1))))))) else bif v==1 then .app 12014 Y2 l74.1 [(Qk (Z5 .u32 r72.2.1 24)),(Qk (Z5 .u32 r72.2.1 16)),(Qk (Z5 .u32 r72.2.1 8)),(Qk r72.2.1)] 1 false (by intro h;cases h) (.gh 0 (.drop [wv]) (.gh 0 (.Qb 63 wv) (.done (.inl ((l74.1++[(Qk (Z5 .u32 r72.2.1 24)),(Qk (Z5 .u32 r72.2.1 16)),(Qk (Z5 .u32 r72.2.1 8)),(Qk r72.2.1)]),(Q0 (l74.2+1))))))) else bif v==2 then .app 12014 Y2 l74.1 [(Qk (Z5 .u32 r72.2.2.1 24)),(Qk (Z5 .u32 r72.2.2.1 16)),(Qk (Z5 .u32 r72.2.2.1 8)),(Qk r72.2.2.1)] 1 false (by intro h;cases h) (.gh 0 (.drop [wv]) (.gh 0 (.Qb 63 wv) (.done (.inl ((l74.1++[(Qk (Z5 .u32 r72.2.2.1 24)),(Qk (Z5 .u32 r72.2.2.1 16)),(Qk (Z5 .u32 r72.2.2.1 8)),(Qk r72.2.2.1)]),(Q0 (l74.2+1))))))) else bif v==3 then .app 12014 Y2 l74.1 [(Qk (Z5 .u32 r72.2.2.2.1 24)),(Qk (Z5 .u32 r72.2.2.2.1 16)),(Qk (Z5 .u32 r72.2.2.2.1 8)),(Qk r72.2.2.2.1)] 1 false (by intro h;cases h) (.gh 0 (.drop [wv]) (.gh 0 (.Qb 63 wv) (.done (.inl ((l74.1++[(Qk (Z5 .u32 r72.2.2.2.1 24)),(Qk (Z5 .u32 r72.2.2.2.1 16)),(Qk (Z5 .u32 r72.2.2.2.1 8)),(Qk r72.2.2.2.1)]),(Q0 (l74.2+1))))))) else bif v==4 then .app 12014 Y2 l74.1 [(Qk (Z5 .u32 r72.q.1 24)),(Qk (Z5 .u32 r72.q.1 16)),(Qk (Z5 .u32 r72.q.1 8)),(Qk r72.q.1)] 1 false (by intro h;cases h) (.gh 0 (.drop [wv]) (.gh 0 (.Qb 63 wv) (.done (.inl ((l74.1++[(Qk (Z5 .u32 r72.q.1 24)),(Qk (Z5 .u32 r72.q.1 16)),(Qk (Z5 .u32 r72.q.1 8)),(Qk r72.q.1)]),(Q0 (l74.2+1))))))) else bif v==5 then .app 12014 Y2 l74.1 [(Qk (Z5 .u32 r72.q.2.1 24)),(Qk (Z5 .u32 r72.q.2.1 16)),(Qk (Z5 .u32 r72.q.2.1 8)),(Qk r72.q.2.1)] 1 false (by intro h;cases h) (.gh 0 (.drop [wv]) (.gh 0 (.Qb 63 wv) (.done (.inl ((l74.1++[(Qk (Z5 .u32 r72.q.2.1 24)),(Qk (Z5 .u32 r72.q.2.1 16)),(Qk (Z5 .u32 r72.q.2.1 8)),(Qk r72.q.2.1)]),(Q0 (l74.2+1))))))) else bif v==6 then .app 12014 Y2 l74.1 [(Qk (Z5 .u32 r72.q.2.2.1 24)),(Qk (Z5 .u32 r72.q.2.2.1 16)),(Qk (Z5 .u32 r72.q.2.2.1 8)),(Qk r72.q.2.2.1)] 1 false (by intro h;cases h) (.gh 0 (.drop [wv]) (.gh 0 (.Qb 63 wv) (.done (.inl ((l74.1++[(Qk (Z5 .u32 r72.q.2.2.1 24)),(Qk (Z5 .u32 r72.q.2.2.1 16)),(Qk (Z5 .u32 r72.q.2.2.1 8)),(Qk r72.q.2.2.1)]),(Q0 (l74.2+1))))))) else bif v==7 then .app 12014 Y2 l74.1 [(Qk (Z5 .u32 r72.q.2.2.2 24)),(Qk (Z5 .u32 r72.q.2.2.2 16)),(Qk (Z5 .u32 r72.q.2.2.2 8)),(Qk r72.q.2.2.2)] 1 false (by intro h;cases h) (.gh 0 (.drop [wv]) (.gh 0 (.Qb 63 wv) (.done (.inl ((l74.1++[(Qk (Z5 .u32 r72.q.2.2.2 24)),(Qk (Z5 .u32 r72.q.2.2.2 16)),(Qk (Z5 .u32 r72.q.2.2.2 8)),(Qk r72.q.2.2.2)]),(Q0 (l74.2+1))))))) else .fail)) (.done (.inr l74.1))) ([],0)) (λ(e75:(List Int))=>Ext.of (.exit 2) [(4,.str zg),(8,Rf wv e75)] [] [Bt wv Y2 1 e75] (by rfl)) (λe75=>.Qq 14002 (Qh.YP (ty:=Y2) (s:=57) (t:=9) (e:=5) (.tmp 65) 66 wv e75 e75.length (hn:=(by simp))) λ_=>.done (strOfNums e75)))))))))))))))))))))))))))))
def tR(p0:JC):Sp (ze):=oF [0,1,2,3,4,5,6,7,8,10,30,46,47,48] Tryz.func210 [.agg [.int .u32 p0.fA.fW.a0,.int .u32 p0.fA.fW.a1,.int .u32 p0.fA.fW.a2,.int .u32 p0.fA.fW.a3,.int .u32 p0.fA.fW.a4,.int .u32 p0.fA.fW.a5,.int .u32 p0.fA.fW.a6,.int .u32 p0.fA.fW.a7,.str p0.fA.fX,.i p0.fA.fU],.agg M8] (Qka p0) (λr=>.str r)
def Qmy(p0 p1 p2 p3 p4 p5 p6 p7:Int)(p8:List ze):TT (ze):=.bind 1 (.lp (λ(l66:Int×Int×Int×Int×Int×Int×Int×Int×ze×Int×Int)=>Ext.l .normal [(2,.ptr 2 0 0),(4,.str zg),(5,.ptr 5 0 0),(12,Sl 1 Z8 p8),(13,.i (I5 Z8 p8)),(14,.i l66.q.q.2.2)] [(2,⟨72,true,[([.int .u32 p0,.int .u32 p1,.int .u32 p2,.int .u32 p3,.int .u32 p4,.int .u32 p5,.int .u32 p6,.int .u32 p7]++M8)]⟩),(5,⟨10,true,[(W0 (Rk l66) [.str l66.q.q.1,.i l66.q.q.2.1])]⟩)]) (λl66=>.br 0 (decide (l66.q.q.2.2 < (I5 Z8 p8))) (.row 4001 Z8 p8 l66.q.q.2.2.toNat (decide (0<=l66.q.q.2.2)) λx67=>.call 5004 (tS x67 (JC.mk (Tl.mk (EY.mk l66.1 l66.2.1 l66.2.2.1 l66.2.2.2.1 l66.q.1 l66.q.2.1 l66.q.2.2.1 l66.q.2.2.2.1) l66.q.q.1 l66.q.q.2.1))) [(zI,5)] [] λr69=>.done (.inl (r69.1,r69.2.1,r69.2.2.1,r69.2.2.2.1,r69.q.1,r69.q.2.1,r69.q.2.2.1,r69.q.2.2.2.1,r69.q.q.1,r69.q.q.2,(Q0 (l66.q.q.2.2+1))))) (.done (.inr (l66.1,l66.2.1,l66.2.2.1,l66.2.2.2.1,l66.q.1,l66.q.2.1,l66.q.2.2.1,l66.q.2.2.2.1,l66.q.q.1,l66.q.q.2.1)))) (p0,p1,p2,p3,p4,p5,p6,p7,zg,0,0)) (λ(e70:Int×Int×Int×Int×Int×Int×Int×Int×ze×Int)=>Ext.l (.exit 0) [(2,.ptr 2 0 0),(4,.str zg),(5,.ptr 5 0 0)] [(2,⟨72,true,[([.int .u32 p0,.int .u32 p1,.int .u32 p2,.int .u32 p3,.int .u32 p4,.int .u32 p5,.int .u32 p6,.int .u32 p7]++M8)]⟩),(5,⟨10,true,[(W0 (Rk e70) [.str e70.q.q.1,.i e70.q.q.2])]⟩)]) (λe70=>.cl 7004 (tR (JC.mk (Tl.mk (EY.mk e70.1 e70.2.1 e70.2.2.1 e70.2.2.2.1 e70.q.1 e70.q.2.1 e70.q.2.2.1 e70.q.2.2.2.1) e70.q.q.1 e70.q.q.2))) λr76=>.done r76)
def TF(p0 p1 p2 p3 p4 p5 p6 p7:Int)(p8:List ze):Sp (ze):=oF [0,1,2,4,5,7,12,13,14,15] Tryz.func156 [.agg ([.int .u32 p0,.int .u32 p1,.int .u32 p2,.int .u32 p3,.int .u32 p4,.int .u32 p5,.int .u32 p6,.int .u32 p7]++M8),Sl 1 Z8 p8] (Qmy p0 p1 p2 p3 p4 p5 p6 p7 p8) (λr=>.str r)
def Qki(p0:Int)(p1:ze):TT (ze):=.Qq 1001 (Qh.Uf (ty:=Y2) (t:=57) (e:=5) (k:=.u8) (.const (.int .i64 64)) (.const (.int .i64 64)) 6 64 1) λ_=>.Qq 2003 (Qh.xD (ty:=Y2) (dT:=57) (sT:=9) (elem:=5) (.tmp 7) (.tmp 8) 9 6 64 (List.replicate 64 (0:Int)) p1) λ_=>.bind 1 (.lp (λ(l82:(List Int)×Int)=>Ext.of .normal [(0,.int .u8 p0),(3,.str zg),(4,.ref 6 0 64),(11,.i 64),(12,.i l82.2)] [] [Bt 6 Y2 1 l82.1] (by rfl)) (λl82=>.br 0 (decide (l82.2 < 64)) (.Qa 6003 (bD l82.2 64) (.row 6004 Y2 l82.1 (0+l82.2.toNat) true λx83=>.Qa 6007 (bD l82.2 64) (.row 6008 Y2 l82.1 (0+l82.2.toNat) true λx84=>.re 6008 (Ji.put 6 1 Y2 l82.1 (0+l82.2.toNat) (R2 .u8 x83 p0)) (.done (.inl ((l82.1.set (0+l82.2.toNat) (R2 .u8 x83 p0)),(Q0 (l82.2+1)))))))) (.done (.inr l82.1))) ((P4 (List.replicate 64 (0:Int)) 0 (Q2 p1)),0)) (λ(e85:(List Int))=>Ext.of (.exit 0) [(3,.str zg),(4,.ref 6 0 64)] [] [Bt 6 Y2 1 e85] (by rfl)) (λe85=>.fact (e85.length=64) inferInstance λh86=>.Qq 8002 (Qh.YP (ty:=Y2) (s:=57) (t:=9) (e:=5) (.tmp 23) 24 6 e85 64 (hn:=h86)) λ_=>.done (strOfNums e85))
def oT(p0:Int)(p1:ze):Sp (ze):=oF [0,1,3,4,5,11,12,13] Tryz.func208 [.int .u8 p0,.snap [.str p1]] (Qki p0 p1) (λr=>.str r)
def Qmj(p0 p1 p2 p3 p4 p5 p6 p7:Int)(p8:ze)(p9:List ze):TT (ze):=.bind 0 (.br 0 (decide ((64:Int) < (p8.size:Int))) (.view 2004 (TF p0 p1 p2 p3 p4 p5 p6 p7 [p8]) [] λr77=>.done r77) (.done p8)) (λ(e78:ze)=>Ext.l .normal [(2,Sl 1 Z8 p9),(3,.ptr 3 0 0),(4,.ptr 4 0 0),(6,.str zg)] [(3,⟨72,true,[([.int .u32 p0,.int .u32 p1,.int .u32 p2,.int .u32 p3,.int .u32 p4,.int .u32 p5,.int .u32 p6,.int .u32 p7]++M8)]⟩),(4,⟨1,true,[[.str e78]]⟩)]) (λe78=>.view 4003 (oT 92 e78) [] λr87=>.view 4006 (oT 54 e78) [] λr88=>.app 4009 Z8 [r88] p9 16 true (by intros;rfl) (.view 4010 (TF p0 p1 p2 p3 p4 p5 p6 p7 ([r88]++p9)) [(Zb.o 24 Z8 ([r88]++p9))] λr89=>.view 4012 (TF p0 p1 p2 p3 p4 p5 p6 p7 [r87,r89]) [] λr90=>.done r90))
def Sh(p0 p1 p2 p3 p4 p5 p6 p7:Int)(p8:ze)(p9:List ze):Sp (ze):=oF [0,1,2,3,4,6,7,10] Tryz.func155 [.agg ([.int .u32 p0,.int .u32 p1,.int .u32 p2,.int .u32 p3,.int .u32 p4,.int .u32 p5,.int .u32 p6,.int .u32 p7]++M8),.str p8,Sl 1 Z8 p9] (Qmj p0 p1 p2 p3 p4 p5 p6 p7 p8 p9) (λr=>.str r)
def g94(p0 p1 p2:ze)(p3:Int):TT (ze×Int):=.view 1005 (TG [p0,p1,p2]) [] λr59=>.br 0 r59 (.done (zg,3)) (.Zz 3 [21] (.oR 3004 (decide (p3 < 0)) (.done (decide ((255:Int) < p3)))) zn λc60=>.br 0 c60 (.done (zg,2)) (.cl 5001 lY λr61=>.view 6005 (Sh r61.1 r61.2.1 r61.2.2.1 r61.2.2.2.1 r61.q.1 r61.q.2.1 r61.q.2.2.1 r61.q.2.2.2 p1 [p0]) [] λr91=>.bind 1 (.lp (λ(l94:ze×ze×Int)=>Ext.l .normal [(2,.str p2),(3,.i p3),(8,.str zg),(9,.i 0),(10,.ptr 10 0 0),(11,.str r91),(12,.str l94.1),(13,.str l94.2.1),(14,.i l94.2.2)] [(10,⟨72,true,[((Du r61)++M8)]⟩)]) (λl94=>.br 0 (decide ((l94.2.1.size:Int) < p3)) (.view 10010 (Sh r61.1 r61.2.1 r61.2.2.1 r61.2.2.2.1 r61.q.1 r61.q.2.1 r61.q.2.2.1 r61.q.2.2.2 r91 [l94.1,p2,(strOfNums [(Qk l94.2.2)])]) [] λr95=>.Qa 11003 (decide (l94.2.1.size+r95.size<=9223372036854775807)) (.done (.inl (r95,(l94.2.1++r95),(Q0 (l94.2.2+1)))))) (.done (.inr l94.2.1))) (zg,zg,1)) (λ(e96:ze)=>Ext.l (.exit 1) [(3,.i p3),(8,.str zg),(9,.i 0),(13,.str e96)] []) (λe96=>.Qa 12003 (decide (0<=p3)&&decide (p3<=(e96.size:Int))) (.done ((e96.extract 0 p3.toNat),0)))))
def s94(p0 p1 p2:ze)(p3:Int):Sp (ze×Int):=oF [0,1,2,3,8,9,10,11,12,13,14,15,21,37] Tryz.func94 [.str p0,.str p1,.str p2,.i p3] (g94 p0 p1 p2 p3) (λr=>.Qc [.str r.1,.i r.2])
def g95(p0:ze):TT (ze×Int):=.view 1003 (TG [p0]) [] λr97=>.br 0 r97 (.done (zg,3)) (.cl 3001 lY λr98=>.view 3004 (TF r98.1 r98.2.1 r98.2.2.1 r98.2.2.2.1 r98.q.1 r98.q.2.1 r98.q.2.2.1 r98.q.2.2.2 [p0]) [] λr99=>.done (r99,0))
def s95(p0:ze):Sp (ze×Int):=oF [0,2,3,6] Tryz.func95 [.str p0] (g95 p0) (λr=>.Qc [.str r.1,.i r.2])
def g96(p0 p1:ze):TT (ze×Int):=.view 1004 (TG [p0,p1]) [] λr100=>.br 0 r100 (.done (zg,3)) (.cl 3001 lY λr101=>.view 3005 (Sh r101.1 r101.2.1 r101.2.2.1 r101.2.2.2.1 r101.q.1 r101.q.2.1 r101.q.2.2.1 r101.q.2.2.2 p0 [p1]) [] λr102=>.done (r102,0))
def s96(p0 p1:ze):Sp (ze×Int):=oF [0,1,4,5,9] Tryz.func96 [.str p0,.str p1] (g96 p0 p1) (λr=>.Qc [.str r.1,.i r.2])
def Qyf(p0 p1:Int):TT (ze×Int):=.Zz 1 [8] (.oR 1004 (decide (p0 < 1)) (.oR 1008 (decide ((7:Int) < p0)) (.done (decide (p1 < 0))))) zn λc103=>.br 0 c103 (.done (zg,2)) (.Qa 3004 (decide ((0:Int)<=(Q0 ((8:Int) * p0)))) (.br 0 ((Z5 .i64 p1 (Q0 ((8:Int) * p0))) != 0) (.done (zg,6)) (.Qq 5002 (Qh.sF (ty:=Y2) (t:=57) (e:=5) (zv:=.int .u8 0) (zc:=.int .u8 0) (0:Int) (.tmp 25) (.tmp 25) 26 p0 p0 1 (by kernel_rfl) (by kernel_rfl) (by kernel_rfl) rfl ⟨rfl,rfl,rfl⟩ (λ_ _=>by constructor)) λ_=>.gh 8 (.len 26 ((List.replicate p0.toNat (0:Int)).length) [p0.toNat] (by simp)) (.bind 1 (.lp (λ(l106:(List Int)×Int)=>Ext.of .normal [(0,.i p0),(1,.i p1),(4,.str zg),(5,.i 0),(6,Rf 26 l106.1),(28,.i ((List.replicate p0.toNat (0:Int)).length:Int)),(29,.i l106.2)] [] [Bt 26 Y2 1 l106.1] (by rfl)) (λl106=>.br 0 (decide (l106.2 < ((List.replicate p0.toNat (0:Int)).length:Int))) (.Qa 9009 (decide ((0:Int)<=(Q0 ((8:Int) * (Q0 ((Q0 (p0 - 1)) - l106.2)))))) (.Qa 9011 (bD l106.2 l106.1.length) (.row 9012 Y2 l106.1 (0+l106.2.toNat) true λx107=>.re 9012 (Ji.put 26 1 Y2 l106.1 (0+l106.2.toNat) (Qk (Z5 .i64 p1 (Q0 ((8:Int) * (Q0 ((Q0 (p0 - 1)) - l106.2))))))) (.gh 12 (.len 26 ((l106.1.set (0+l106.2.toNat) (Qk (Z5 .i64 p1 (Q0 ((8:Int) * (Q0 ((Q0 (p0 - 1)) - l106.2))))))).length) [l106.1.length] (by simp)) (.done (.inl ((l106.1.set (0+l106.2.toNat) (Qk (Z5 .i64 p1 (Q0 ((8:Int) * (Q0 ((Q0 (p0 - 1)) - l106.2))))))),(Q0 (l106.2+1))))))))) (.done (.inr l106.1))) ((List.replicate p0.toNat (0:Int)),0)) (λ(e108:(List Int))=>Ext.of (.exit 1) [(4,.str zg),(5,.i 0),(6,Rf 26 e108)] [] [Bt 26 Y2 1 e108] (by rfl)) (λe108=>.Qq 11002 (Qh.YP (ty:=Y2) (s:=57) (t:=9) (e:=5) (.tmp 44) 45 26 e108 e108.length (hn:=(by simp))) λ_=>.done ((strOfNums e108),0))))))
def tI(p0 p1:Int):Sp (ze×Int):=oF [0,1,4,5,6,7,8,19,28,29,30] Tryz.func229 [.i p0,.i p1] (Qyf p0 p1) (λr=>.Qc [.str r.1,.i r.2])
def Qwv(p0:U0):TT (EZ×Int):=.Zz 1 [14] (.oR 1005 (decide (p0.fB < 0)) (.done (decide ((p0.fS.size:Int) < p0.fB)))) zn λc109=>.br 0 c109 (.done ((EZ.mk (U0.mk zg 0)),2)) (.done ((EZ.mk p0),0))
def oG(p0:U0):Sp (EZ×Int):=oF [0,1,2,3,14] Tryz.func256 [.agg [.str p0.fS,.i p0.fB]] (Qwv p0) (λr=>.Qc [.agg [.str r.1.gi.fS,.i r.1.gi.fB],.i r.2])
def Qhq(p0:ze):Sp (ze):=oF [0,2] Tryz.func240 [.str p0] (.done p0:TT (ze)) (λr=>.str r)
def Qyl(p0:U0)(p1 p2 p3:Int):TT (ze×U0×Int):=.cl 1002 (oG p0) λr110=>.br 0 (r110.2 != 0) (.done (zg,(U0.mk zg 0),r110.2)) (.Zz 4 [25] (.oR 4005 (decide (p1 < p2)) (.done (decide (p3 < p1)))) zn λc111=>.br 0 c111 (.done (zg,(U0.mk zg 0),2)) (.br 0 (decide ((Q0 ((r110.1.gi.fS.size:Int) - r110.1.gi.fB)) < p1)) (.done (zg,(U0.mk zg 0),7)) (.Qa 8013 ((decide (0<=(Q0 (r110.1.gi.fB+p1)))&&decide ((Q0 (r110.1.gi.fB+p1))<=(r110.1.gi.fS.size:Int)))&&(decide (0<=r110.1.gi.fB)&&decide (r110.1.gi.fB<=((Q0 (r110.1.gi.fB+p1)).toNat:Int)))) (.cl 8014 (Qhq (r110.1.gi.fS.extract r110.1.gi.fB.toNat ((Q0 (r110.1.gi.fB+p1)).toNat))) λr112=>.done (r112,(U0.mk r110.1.gi.fS (Q0 (r110.1.gi.fB+p1))),0)))))
def tX(p0:U0)(p1 p2 p3:Int):Sp (ze×U0×Int):=oF [0,1,2,3,4,5,10,11,12,13,19,25,36] Tryz.func239 [.agg [.str p0.fS,.i p0.fB],.i p1,.i p2,.i p3,.fn 240 [] []] (Qyl p0 p1 p2 p3) (λr=>.Qc [.str r.1,.agg [.str r.2.1.fS,.i r.2.1.fB],.i r.2.2])
def Qyv(p0:U0)(p1:Int):TT (ze×U0×Int):=.cl 1005 (tX p0 p1 0 (if (0:Int) > p1 then (0:Int) else p1)) λr113=>.done (r113.1,r113.2.1,r113.2.2)
def jB(p0:U0)(p1:Int):Sp (ze×U0×Int):=oF [0,1,2,4,5,6] Tryz.func196 [.agg [.str p0.fS,.i p0.fB],.i p1] (Qyv p0 p1) (λr=>.Qc [.str r.1,.agg [.str r.2.1.fS,.i r.2.1.fB],.i r.2.2])
def Qk5(p0:ze):TT (Int):=.Qq 2002 (Qh.octets (ty:=Y2) (s:=9) (t:=57) (e:=5) (.tmp 6) 7 p0) λ_=>.bind 1 (.lp (λ(l118:Int×Int)=>Ext.of .normal [(2,.i 0),(3,.i l118.1),(7,.ref 7 0 ((Q2 p0).length)),(8,.i ((Q2 p0).length:Int)),(9,.i l118.2)] [] [BT.of 7 Y2 1 (Q2 p0) true] (by rfl)) (λl118=>.br 0 (decide (l118.2 < ((Q2 p0).length:Int))) (.Qa 4001 (decide (0<=l118.2)&&decide (l118.2 < ((Q2 p0).length:Int))) (.row 4002 Y2 (Q2 p0) (0+l118.2.toNat) true λx119=>.done (.inl ((Zl .i64 (E0 .i64 l118.1 8) (Q0 x119)),(Q0 (l118.2+1)))))) (.done (.inr l118.1))) (0,0)) (λ(e120:Int)=>Ext.l (.exit 0) [(2,.i 0),(3,.i e120)] []) (λe120=>.done e120)
def oP(p0:ze):Sp (Int):=oF [0,2,3,5,7,8,9,10] Tryz.func242 [.str p0] (Qk5 p0) (λr=>.int .i64 r)
def Qyo(p0:U0)(p1 p2 p3:Int):TT (Int×U0×Int):=.cl 1002 (oG p0) λr114=>.br 0 (r114.2 != 0) (.done (0,(U0.mk zg 0),r114.2)) (.Zz 4 [25] (.oR 4005 (decide (p1 < p2)) (.done (decide (p3 < p1)))) zn λc115=>.br 0 c115 (.done (0,(U0.mk zg 0),2)) (.br 0 (decide ((Q0 ((r114.1.gi.fS.size:Int) - r114.1.gi.fB)) < p1)) (.done (0,(U0.mk zg 0),7)) (.Qa 8013 ((decide (0<=(Q0 (r114.1.gi.fB+p1)))&&decide ((Q0 (r114.1.gi.fB+p1))<=(r114.1.gi.fS.size:Int)))&&(decide (0<=r114.1.gi.fB)&&decide (r114.1.gi.fB<=((Q0 (r114.1.gi.fB+p1)).toNat:Int)))) (.cl 8014 (oP (r114.1.gi.fS.extract r114.1.gi.fB.toNat ((Q0 (r114.1.gi.fB+p1)).toNat))) λr121=>.done (r121,(U0.mk r114.1.gi.fS (Q0 (r114.1.gi.fB+p1))),0)))))
def tD(p0:U0)(p1 p2 p3:Int):Sp (Int×U0×Int):=oF [0,1,2,3,4,5,10,11,12,13,19,25,36] Tryz.func241 [.agg [.str p0.fS,.i p0.fB],.i p1,.i p2,.i p3,.fn 242 [] []] (Qyo p0 p1 p2 p3) (λr=>.Qc [.i r.1,.agg [.str r.2.1.fS,.i r.2.1.fB],.i r.2.2])
def Qkg(p0:U0)(p1:Int):TT (Int×U0×Int):=.cl 1003 (tD p0 p1 1 7) λr122=>.done (r122.1,r122.2.1,r122.2.2)
def jS(p0:U0)(p1:Int):Sp (Int×U0×Int):=oF [0,1,2,4,5,6] Tryz.func198 [.agg [.str p0.fS,.i p0.fB],.i p1] (Qkg p0 p1) (λr=>.Qc [.i r.1,.agg [.str r.2.1.fS,.i r.2.1.fB],.i r.2.2])
structure Q5 where
 a0:Int
 a1:Int
 a2:Int
 a3:Int
 a4:Int
def O4(x:Q5):List V:=[.int .u64 x.a0,.int .u64 x.a1,.int .u64 x.a2,.int .u64 x.a3,.int .u64 x.a4]
structure KP where
 YY:Q5
 Qt:Q5
structure Y9 where
 fT:KP
 Qn:KP
 fu:Q5
def nD(x:Y9):List V:=[.int .u64 x.fT.YY.a0,.int .u64 x.fT.YY.a1,.int .u64 x.fT.YY.a2,.int .u64 x.fT.YY.a3,.int .u64 x.fT.YY.a4,.int .u64 x.fT.Qt.a0,.int .u64 x.fT.Qt.a1,.int .u64 x.fT.Qt.a2,.int .u64 x.fT.Qt.a3,.int .u64 x.fT.Qt.a4,.int .u64 x.Qn.YY.a0,.int .u64 x.Qn.YY.a1,.int .u64 x.Qn.YY.a2,.int .u64 x.Qn.YY.a3,.int .u64 x.Qn.YY.a4,.int .u64 x.Qn.Qt.a0,.int .u64 x.Qn.Qt.a1,.int .u64 x.Qn.Qt.a2,.int .u64 x.Qn.Qt.a3,.int .u64 x.Qn.Qt.a4,.int .u64 x.fu.a0,.int .u64 x.fu.a1,.int .u64 x.fu.a2,.int .u64 x.fu.a3,.int .u64 x.fu.a4]
def Qku(p0:Q5):TT (Q5):=.tt (.tt (.tt (.tt (.tt (.ff (.done (Q5.mk (Z4 ((U1 .u64 (Z4 (p0.a0+0)) 2251799813685247)+(Z4 ((19:Int) * (Z5 .u64 (Z4 (p0.a4+(Z5 .u64 (Z4 (p0.a3+(Z5 .u64 (Z4 (p0.a2+(Z5 .u64 (Z4 (p0.a1+(Z5 .u64 (Z4 (p0.a0+0)) 51))) 51))) 51))) 51))) 51))))) (U1 .u64 (Z4 (p0.a1+(Z5 .u64 (Z4 (p0.a0+0)) 51))) 2251799813685247) (U1 .u64 (Z4 (p0.a2+(Z5 .u64 (Z4 (p0.a1+(Z5 .u64 (Z4 (p0.a0+0)) 51))) 51))) 2251799813685247) (U1 .u64 (Z4 (p0.a3+(Z5 .u64 (Z4 (p0.a2+(Z5 .u64 (Z4 (p0.a1+(Z5 .u64 (Z4 (p0.a0+0)) 51))) 51))) 51))) 2251799813685247) (U1 .u64 (Z4 (p0.a4+(Z5 .u64 (Z4 (p0.a3+(Z5 .u64 (Z4 (p0.a2+(Z5 .u64 (Z4 (p0.a1+(Z5 .u64 (Z4 (p0.a0+0)) 51))) 51))) 51))) 51))) 2251799813685247))))))))
def Fo(p0:Q5):Sp (Q5):=oF [0,1,2,3,4,5,6] Tryz.func224 [.agg (O4 p0)] (Qku p0) (λr=>.agg (O4 r))
def Qkw(p0 p1:Q5):TT (Q5):=.tt (.tt (.tt (.tt (.tt (.ff (.cl 6002 (Fo (Q5.mk (Z4 (p0.a0+p1.a0)) (Z4 (p0.a1+p1.a1)) (Z4 (p0.a2+p1.a2)) (Z4 (p0.a3+p1.a3)) (Z4 (p0.a4+p1.a4)))) λr123=>.done r123))))))
def TO(p0 p1:Q5):Sp (Q5):=oF [0,1,2,3,4,5,6,7] Tryz.func222 [.agg (O4 p0),.agg (O4 p1)] (Qkw p0 p1) (λr=>.agg (O4 r))
def Qkh(p0 p1:Q5):TT (Q5):=.tt (.tt (.tt (.tt (.tt (.ff (.cl 7002 (Fo (Q5.mk (Z4 ((Z4 (p0.a0+(Z4 ((9007199254740988:Int) - p1.a0)))) - 72)) (Z4 (p0.a1+(Z4 ((9007199254740988:Int) - p1.a1)))) (Z4 (p0.a2+(Z4 ((9007199254740988:Int) - p1.a2)))) (Z4 (p0.a3+(Z4 ((9007199254740988:Int) - p1.a3)))) (Z4 (p0.a4+(Z4 ((9007199254740988:Int) - p1.a4)))))) λr124=>.done r124))))))
def TI(p0 p1:Q5):Sp (Q5):=oF [0,1,2,3,4,5,6,7] Tryz.func223 [.agg (O4 p0),.agg (O4 p1)] (Qkh p0 p1) (λr=>.agg (O4 r))
def Qkt(p0 p1:Q5):TT (Q5):=.tt (.tt (.ff (.cl 11003 (Wq p0.a0 p1.a0) λr125=>.Qq 13006 (adc (.tmp 50) (.tmp 51) (.const (.int .u64 0)) 52 0 r125.2 0) λr126=>.Qq 14007 (adc (.tmp 60) (.tmp 61) (.tmp 62) 63 0 r125.1 r126.2) λr127=>.tt (.ff (.cl 11003 (Wq p0.a0 p1.a1) λr128=>.Qq 13006 (adc (.tmp 50) (.tmp 51) (.const (.int .u64 0)) 52 0 r128.2 0) λr129=>.Qq 14007 (adc (.tmp 60) (.tmp 61) (.tmp 62) 63 0 r128.1 r129.2) λr130=>.tt (.ff (.cl 11003 (Wq p0.a0 p1.a2) λr131=>.Qq 13006 (adc (.tmp 50) (.tmp 51) (.const (.int .u64 0)) 52 0 r131.2 0) λr132=>.Qq 14007 (adc (.tmp 60) (.tmp 61) (.tmp 62) 63 0 r131.1 r132.2) λr133=>.tt (.ff (.cl 11003 (Wq p0.a0 p1.a3) λr134=>.Qq 13006 (adc (.tmp 50) (.tmp 51) (.const (.int .u64 0)) 52 0 r134.2 0) λr135=>.Qq 14007 (adc (.tmp 60) (.tmp 61) (.tmp 62) 63 0 r134.1 r135.2) λr136=>.tt (.ff (.cl 11003 (Wq p0.a0 p1.a4) λr137=>.Qq 13006 (adc (.tmp 50) (.tmp 51) (.const (.int .u64 0)) 52 0 r137.2 0) λr138=>.Qq 14007 (adc (.tmp 60) (.tmp 61) (.tmp 62) 63 0 r137.1 r138.2) λr139=>.ff (.tt (.tt (.ff (.cl 11003 (Wq p0.a1 p1.a0) λr140=>.Qq 13006 (adc (.tmp 50) (.tmp 51) (.const (.int .u64 0)) 52 r129.1 r140.2 0) λr141=>.Qq 14007 (adc (.tmp 60) (.tmp 61) (.tmp 62) 63 r130.1 r140.1 r141.2) λr142=>.tt (.ff (.cl 11003 (Wq p0.a1 p1.a1) λr143=>.Qq 13006 (adc (.tmp 50) (.tmp 51) (.const (.int .u64 0)) 52 r132.1 r143.2 0) λr144=>.Qq 14007 (adc (.tmp 60) (.tmp 61) (.tmp 62) 63 r133.1 r143.1 r144.2) λr145=>.tt (.ff (.cl 11003 (Wq p0.a1 p1.a2) λr146=>.Qq 13006 (adc (.tmp 50) (.tmp 51) (.const (.int .u64 0)) 52 r135.1 r146.2 0) λr147=>.Qq 14007 (adc (.tmp 60) (.tmp 61) (.tmp 62) 63 r136.1 r146.1 r147.2) λr148=>.tt (.ff (.cl 11003 (Wq p0.a1 p1.a3) λr149=>.Qq 13006 (adc (.tmp 50) (.tmp 51) (.const (.int .u64 0)) 52 r138.1 r149.2 0) λr150=>.Qq 14007 (adc (.tmp 60) (.tmp 61) (.tmp 62) 63 r139.1 r149.1 r150.2) λr151=>.tt (.tt (.cl 11003 (Wq p0.a1 (Z4 ((19:Int) * p1.a4))) λr152=>.Qq 13006 (adc (.tmp 50) (.tmp 51) (.const (.int .u64 0)) 52 r126.1 r152.2 0) λr153=>.Qq 14007 (adc (.tmp 60) (.tmp 61) (.tmp 62) 63 r127.1 r152.1 r153.2) λr154=>.ff (.tt (.tt (.ff (.cl 11003 (Wq p0.a2 p1.a0) λr155=>.Qq 13006 (adc (.tmp 50) (.tmp 51) (.const (.int .u64 0)) 52 r144.1 r155.2 0) λr156=>.Qq 14007 (adc (.tmp 60) (.tmp 61) (.tmp 62) 63 r145.1 r155.1 r156.2) λr157=>.tt (.ff (.cl 11003 (Wq p0.a2 p1.a1) λr158=>.Qq 13006 (adc (.tmp 50) (.tmp 51) (.const (.int .u64 0)) 52 r147.1 r158.2 0) λr159=>.Qq 14007 (adc (.tmp 60) (.tmp 61) (.tmp 62) 63 r148.1 r158.1 r159.2) λr160=>.tt (.ff (.cl 11003 (Wq p0.a2 p1.a2) λr161=>.Qq 13006 (adc (.tmp 50) (.tmp 51) (.const (.int .u64 0)) 52 r150.1 r161.2 0) λr162=>.Qq 14007 (adc (.tmp 60) (.tmp 61) (.tmp 62) 63 r151.1 r161.1 r162.2) λr163=>.tt (.tt (.cl 11003 (Wq p0.a2 (Z4 ((19:Int) * p1.a3))) λr164=>.Qq 13006 (adc (.tmp 50) (.tmp 51) (.const (.int .u64 0)) 52 r153.1 r164.2 0) λr165=>.Qq 14007 (adc (.tmp 60) (.tmp 61) (.tmp 62) 63 r154.1 r164.1 r165.2) λr166=>.tt (.tt (.cl 11003 (Wq p0.a2 (Z4 ((19:Int) * p1.a4))) λr167=>.Qq 13006 (adc (.tmp 50) (.tmp 51) (.const (.int .u64 0)) 52 r141.1 r167.2 0) λr168=>.Qq 14007 (adc (.tmp 60) (.tmp 61) (.tmp 62) 63 r142.1 r167.1 r168.2) λr169=>.ff (.tt (.tt (.ff (.cl 11003 (Wq p0.a3 p1.a0) λr170=>.Qq 13006 (adc (.tmp 50) (.tmp 51) (.const (.int .u64 0)) 52 r159.1 r170.2 0) λr171=>.Qq 14007 (adc (.tmp 60) (.tmp 61) (.tmp 62) 63 r160.1 r170.1 r171.2) λr172=>.tt (.ff (.cl 11003 (Wq p0.a3 p1.a1) λr173=>.Qq 13006 (adc (.tmp 50) (.tmp 51) (.const (.int .u64 0)) 52 r162.1 r173.2 0) λr174=>.Qq 14007 (adc (.tmp 60) (.tmp 61) (.tmp 62) 63 r163.1 r173.1 r174.2) λr175=>.tt (.tt (.cl 11003 (Wq p0.a3 (Z4 ((19:Int) * p1.a2))) λr176=>.Qq 13006 (adc (.tmp 50) (.tmp 51) (.const (.int .u64 0)) 52 r165.1 r176.2 0) λr177=>.Qq 14007 (adc (.tmp 60) (.tmp 61) (.tmp 62) 63 r166.1 r176.1 r177.2) λr178=>.tt (.tt (.cl 11003 (Wq p0.a3 (Z4 ((19:Int) * p1.a3))) λr179=>.Qq 13006 (adc (.tmp 50) (.tmp 51) (.const (.int .u64 0)) 52 r168.1 r179.2 0) λr180=>.Qq 14007 (adc (.tmp 60) (.tmp 61) (.tmp 62) 63 r169.1 r179.1 r180.2) λr181=>.tt (.tt (.cl 11003 (Wq p0.a3 (Z4 ((19:Int) * p1.a4))) λr182=>.Qq 13006 (adc (.tmp 50) (.tmp 51) (.const (.int .u64 0)) 52 r156.1 r182.2 0) λr183=>.Qq 14007 (adc (.tmp 60) (.tmp 61) (.tmp 62) 63 r157.1 r182.1 r183.2) λr184=>.ff (.tt (.tt (.ff (.cl 11003 (Wq p0.a4 p1.a0) λr185=>.Qq 13006 (adc (.tmp 50) (.tmp 51) (.const (.int .u64 0)) 52 r174.1 r185.2 0) λr186=>.Qq 14007 (adc (.tmp 60) (.tmp 61) (.tmp 62) 63 r175.1 r185.1 r186.2) λr187=>.tt (.tt (.cl 11003 (Wq p0.a4 (Z4 ((19:Int) * p1.a1))) λr188=>.Qq 13006 (adc (.tmp 50) (.tmp 51) (.const (.int .u64 0)) 52 r177.1 r188.2 0) λr189=>.Qq 14007 (adc (.tmp 60) (.tmp 61) (.tmp 62) 63 r178.1 r188.1 r189.2) λr190=>.tt (.tt (.cl 11003 (Wq p0.a4 (Z4 ((19:Int) * p1.a2))) λr191=>.Qq 13006 (adc (.tmp 50) (.tmp 51) (.const (.int .u64 0)) 52 r180.1 r191.2 0) λr192=>.Qq 14007 (adc (.tmp 60) (.tmp 61) (.tmp 62) 63 r181.1 r191.1 r192.2) λr193=>.tt (.tt (.cl 11003 (Wq p0.a4 (Z4 ((19:Int) * p1.a3))) λr194=>.Qq 13006 (adc (.tmp 50) (.tmp 51) (.const (.int .u64 0)) 52 r183.1 r194.2 0) λr195=>.Qq 14007 (adc (.tmp 60) (.tmp 61) (.tmp 62) 63 r184.1 r194.1 r195.2) λr196=>.tt (.tt (.cl 11003 (Wq p0.a4 (Z4 ((19:Int) * p1.a4))) λr197=>.Qq 13006 (adc (.tmp 50) (.tmp 51) (.const (.int .u64 0)) 52 r171.1 r197.2 0) λr198=>.Qq 14007 (adc (.tmp 60) (.tmp 61) (.tmp 62) 63 r172.1 r197.1 r198.2) λr199=>.ff (.ff (.tt (.Qq 22006 (adc (.tmp 76) (.tmp 77) (.const (.int .u64 0)) 78 r189.1 0 0) λr200=>.tt (.Qq 22006 (adc (.tmp 76) (.tmp 77) (.const (.int .u64 0)) 78 r192.1 (Zl .u64 (E0 .u64 (Z4 (r190.1+r200.2)) 13) (Z5 .u64 r200.1 51)) 0) λr201=>.tt (.Qq 22006 (adc (.tmp 76) (.tmp 77) (.const (.int .u64 0)) 78 r195.1 (Zl .u64 (E0 .u64 (Z4 (r193.1+r201.2)) 13) (Z5 .u64 r201.1 51)) 0) λr202=>.tt (.Qq 22006 (adc (.tmp 76) (.tmp 77) (.const (.int .u64 0)) 78 r198.1 (Zl .u64 (E0 .u64 (Z4 (r196.1+r202.2)) 13) (Z5 .u64 r202.1 51)) 0) λr203=>.tt (.Qq 22006 (adc (.tmp 76) (.tmp 77) (.const (.int .u64 0)) 78 r186.1 (Zl .u64 (E0 .u64 (Z4 (r199.1+r203.2)) 13) (Z5 .u64 r203.1 51)) 0) λr204=>.ff (.cl 27002 (Wq (Zl .u64 (E0 .u64 (Z4 (r187.1+r204.2)) 13) (Z5 .u64 r204.1 51)) 19) λr205=>.Qq 28004 (adc (.tmp 111) (.tmp 112) (.const (.int .u64 0)) 113 (U1 .u64 r200.1 2251799813685247) r205.2 0) λr206=>.cl 32002 (Fo (Q5.mk (U1 .u64 r206.1 2251799813685247) (Z4 ((U1 .u64 r201.1 2251799813685247)+(Zl .u64 (E0 .u64 (Z4 (r205.1+r206.2)) 13) (Z5 .u64 r206.1 51)))) (U1 .u64 r202.1 2251799813685247) (U1 .u64 r203.1 2251799813685247) (U1 .u64 r204.1 2251799813685247))) λr207=>.done r207)))))))))))))))))))))))))))))))))))))))))))))))))))))))))))))))))))
def Mx(p0 p1:Q5):Sp (Q5):=oF [0,1,2,3,4,5,6,7,8,9,10,11,12,13,14,15,16,17,18,19,20,21,22,23,26,27,28,35,69,70] Tryz.func183 [.agg (O4 p0),.agg (O4 p1)] (Qkt p0 p1) (λr=>.agg (O4 r))
def Qyg(p0:Bool)(p1 p2:Q5):TT (Q5):=.cl 3 (Mx p1 p1) λr209=>.br 0 p0 (.cl 2003 (Mx r209 p2) λr210=>.done r210) (.done r209)
def Sz(p0:Bool)(p1 p2:Q5):Sp (Q5):=.Zk 225 [] Z1 Tryz.func225 rfl (λ_=>rfl) (show Jf Pg GG [0,1,2,7] Tryz.f225 [.bool p0,.ptr zI 0 0,.ptr zR 0 0] (Ext.of .normal (U5 [.bool p0,.ptr zI 0 0,.ptr zR 0 0]) [(zI,⟨5,true,[(O4 p1)]⟩),(zR,⟨5,true,[(O4 p2)]⟩)] [] (by rfl)) (Qyg p0 p1 p2) (λ(r:Q5)=>.Qc []) (λ(r:Q5)=>Ext.of .normal [] [(zI,⟨5,true,[(O4 r)]⟩),(zR,⟨5,true,[(O4 p2)]⟩)] [] (by rfl)) by unfold Jf;kernel_rfl)
def Qkc(p0:Q5):TT (Q5):=.bind 1 (.lp (λ(l211:Q5×Int)=>Ext.l .normal [(2,.ptr 2 0 0),(3,.ptr 3 0 0),(4,.fn 225 [] [.ptr 3 0 0,.ptr 1 0 0]),(9,.i l211.2)] [(1,⟨5,true,[(O4 p0)]⟩),(2,⟨5,true,[(X9 5 (.int .u64 0) [])]⟩),(3,⟨5,true,[(O4 l211.1)]⟩)]) (λl211=>.br 0 (decide (l211.2 < 250)) (.call 5002 (Sz true l211.1 p0) [(zI,3),(zR,1)] [] λr213=>.done (.inl (r213,(Q0 (l211.2+1))))) (.done (.inr l211.1))) ((Q5.mk 1 0 0 0 0),0)) (λ(e214:Q5)=>Ext.l (.exit 0) [(2,.ptr 2 0 0),(3,.ptr 3 0 0),(4,.fn 225 [] [.ptr 3 0 0,.ptr 1 0 0])] [(1,⟨5,true,[(O4 p0)]⟩),(2,⟨5,true,[(X9 5 (.int .u64 0) [])]⟩),(3,⟨5,true,[(O4 e214)]⟩)]) (λe214=>.tt (.call 10003 (Sz false e214 p0) [(zI,3),(zR,1)] [] λr216=>.tt (.call 10003 (Sz true r216 p0) [(zI,3),(zR,1)] [] λr218=>.tt (.call 10003 (Sz false r218 p0) [(zI,3),(zR,1)] [] λr220=>.tt (.call 10003 (Sz true r220 p0) [(zI,3),(zR,1)] [] λr222=>.tt (.call 10003 (Sz true r222 p0) [(zI,3),(zR,1)] [] λr224=>.ff (.done r224)))))))
def vJ(p0:Q5):Sp (Q5):=oF [0,1,2,3,4,6,9,10,14,15,16] Tryz.func184 [.agg (O4 p0)] (Qkc p0) (λr=>.agg (O4 r))
def Qm0(p0:ze):TT (Q5):=.bind 1 (.lp (λ(l226:Q5×Int)=>Ext.l .normal [(0,.str p0),(2,.ptr 2 0 0),(3,.ptr 3 0 0),(5,.i l226.2)] [(2,⟨5,true,[(X9 5 (.int .u64 0) [])]⟩),(3,⟨5,true,[(O4 l226.1)]⟩)]) (λl226=>.br 0 (decide (l226.2 < 255)) (.Qa 5004 (decide (0<=(Q0 (Int.tdiv l226.2 8))/\(Q0 (Int.tdiv l226.2 8)) < (p0.size:Int))) (.Qa 5007 (decide ((0:Int)<=(Int.tmod l226.2 8))) (.br 0 ((U1 .u8 (Z5 .u8 (QQ p0 (Q0 (Int.tdiv l226.2 8))) (Int.tmod l226.2 8)) 1)==1) (.Ko 6003 (Q0 (Int.tdiv l226.2 51)) [0,1,2,3,4] (λv=>bif v==0 then .Qa 6007 (decide ((0:Int)<=(Int.tmod l226.2 51))) (.done (.inl ((Q5.mk (Zl .u64 l226.1.a0 (E0 .u64 1 (Int.tmod l226.2 51))) l226.1.a1 l226.1.a2 l226.1.a3 l226.1.a4),(Q0 (l226.2+1))))) else bif v==1 then .Qa 6007 (decide ((0:Int)<=(Int.tmod l226.2 51))) (.done (.inl ((Q5.mk l226.1.a0 (Zl .u64 l226.1.a1 (E0 .u64 1 (Int.tmod l226.2 51))) l226.1.a2 l226.1.a3 l226.1.a4),(Q0 (l226.2+1))))) else bif v==2 then .Qa 6007 (decide ((0:Int)<=(Int.tmod l226.2 51))) (.done (.inl ((Q5.mk l226.1.a0 l226.1.a1 (Zl .u64 l226.1.a2 (E0 .u64 1 (Int.tmod l226.2 51))) l226.1.a3 l226.1.a4),(Q0 (l226.2+1))))) else bif v==3 then .Qa 6007 (decide ((0:Int)<=(Int.tmod l226.2 51))) (.done (.inl ((Q5.mk l226.1.a0 l226.1.a1 l226.1.a2 (Zl .u64 l226.1.a3 (E0 .u64 1 (Int.tmod l226.2 51))) l226.1.a4),(Q0 (l226.2+1))))) else bif v==4 then .Qa 6007 (decide ((0:Int)<=(Int.tmod l226.2 51))) (.done (.inl ((Q5.mk l226.1.a0 l226.1.a1 l226.1.a2 l226.1.a3 (Zl .u64 l226.1.a4 (E0 .u64 1 (Int.tmod l226.2 51)))),(Q0 (l226.2+1))))) else .fail)) (.done (.inl (l226.1,(Q0 (l226.2+1)))))))) (.done (.inr l226.1))) ((Q5.mk 0 0 0 0 0),0)) (λ(e227:Q5)=>Ext.l (.exit 0) [(2,.ptr 2 0 0),(3,.ptr 3 0 0)] [(2,⟨5,true,[(X9 5 (.int .u64 0) [])]⟩),(3,⟨5,true,[(O4 e227)]⟩)]) (λe227=>.done e227)
def oV(p0:ze):Sp (Q5):=oF [0,2,3,4,5,6,16] Tryz.func179 [.str p0] (Qm0 p0) (λr=>.agg (O4 r))
def Qkb(p0:Q5):TT (ze):=.cl 1002 (Fo p0) λr228=>.cl 1003 (Fo r228) λr229=>.tt (.tt (.tt (.tt (.tt (.ff (.bind 0 (.br 0 (decide ((0:Int) < (Z5 .u64 (Z4 (r229.a4+(Z5 .u64 (Z4 (r229.a3+(Z5 .u64 (Z4 (r229.a2+(Z5 .u64 (Z4 (r229.a1+(Z5 .u64 (Z4 ((Z4 (r229.a0+19))+0)) 51))) 51))) 51))) 51))) 51))) (.done (Q5.mk (U1 .u64 (Z4 ((Z4 (r229.a0+19))+0)) 2251799813685247) (U1 .u64 (Z4 (r229.a1+(Z5 .u64 (Z4 ((Z4 (r229.a0+19))+0)) 51))) 2251799813685247) (U1 .u64 (Z4 (r229.a2+(Z5 .u64 (Z4 (r229.a1+(Z5 .u64 (Z4 ((Z4 (r229.a0+19))+0)) 51))) 51))) 2251799813685247) (U1 .u64 (Z4 (r229.a3+(Z5 .u64 (Z4 (r229.a2+(Z5 .u64 (Z4 (r229.a1+(Z5 .u64 (Z4 ((Z4 (r229.a0+19))+0)) 51))) 51))) 51))) 2251799813685247) (U1 .u64 (Z4 (r229.a4+(Z5 .u64 (Z4 (r229.a3+(Z5 .u64 (Z4 (r229.a2+(Z5 .u64 (Z4 (r229.a1+(Z5 .u64 (Z4 ((Z4 (r229.a0+19))+0)) 51))) 51))) 51))) 51))) 2251799813685247))) (.done r229)) (λ(e230:Q5)=>Ext.l .normal [(1,.ptr 1 0 0),(2,.str zg)] [(1,⟨5,true,[(O4 e230)]⟩)]) (λe230=>.Qq 14001 (Qh.Uf (ty:=Y2) (t:=57) (e:=5) (k:=.u8) (.const (.int .i64 32)) (.const (.int .i64 32)) 38 32 1) λ_=>.bind 1 (.lp (λ(l234:(List Int)×Int)=>Ext.of .normal [(1,.ptr 1 0 0),(2,.str zg),(6,.ref 38 0 32),(39,.i l234.2)] [(1,⟨5,true,[(O4 e230)]⟩)] [Bt 38 Y2 1 l234.1] (by rfl)) (λl234=>.br 0 (decide (l234.2 < 255)) (.Qa 18004 (decide (0<=(Q0 (Int.tdiv l234.2 8)))&&decide ((Q0 (Int.tdiv l234.2 8)) < (32:Int))) (.row 18005 Y2 l234.1 (0+(Q0 (Int.tdiv l234.2 8)).toNat) true λx235=>.Ko 18008 (Q0 (Int.tdiv l234.2 51)) [0,1,2,3,4] (λv=>bif v==0 then .Qa 18012 (decide ((0:Int)<=(Int.tmod l234.2 51))) (.Qa 18017 (decide ((0:Int)<=(Int.tmod l234.2 8))) (.Qa 18019 (decide (0<=(Q0 (Int.tdiv l234.2 8)))&&decide ((Q0 (Int.tdiv l234.2 8)) < (32:Int))) (.row 18020 Y2 l234.1 (0+(Q0 (Int.tdiv l234.2 8)).toNat) true λx236=>.re 18020 (Ji.put 38 1 Y2 l234.1 (0+(Q0 (Int.tdiv l234.2 8)).toNat) (Zl .u8 x235 (E0 .u8 (Qk (U1 .u64 (Z5 .u64 e230.a0 (Int.tmod l234.2 51)) 1)) (Int.tmod l234.2 8)))) (.done (.inl ((l234.1.set (0+(Q0 (Int.tdiv l234.2 8)).toNat) (Zl .u8 x235 (E0 .u8 (Qk (U1 .u64 (Z5 .u64 e230.a0 (Int.tmod l234.2 51)) 1)) (Int.tmod l234.2 8)))),(Q0 (l234.2+1)))))))) else bif v==1 then .Qa 18012 (decide ((0:Int)<=(Int.tmod l234.2 51))) (.Qa 18017 (decide ((0:Int)<=(Int.tmod l234.2 8))) (.Qa 18019 (decide (0<=(Q0 (Int.tdiv l234.2 8)))&&decide ((Q0 (Int.tdiv l234.2 8)) < (32:Int))) (.row 18020 Y2 l234.1 (0+(Q0 (Int.tdiv l234.2 8)).toNat) true λx237=>.re 18020 (Ji.put 38 1 Y2 l234.1 (0+(Q0 (Int.tdiv l234.2 8)).toNat) (Zl .u8 x235 (E0 .u8 (Qk (U1 .u64 (Z5 .u64 e230.a1 (Int.tmod l234.2 51)) 1)) (Int.tmod l234.2 8)))) (.done (.inl ((l234.1.set (0+(Q0 (Int.tdiv l234.2 8)).toNat) (Zl .u8 x235 (E0 .u8 (Qk (U1 .u64 (Z5 .u64 e230.a1 (Int.tmod l234.2 51)) 1)) (Int.tmod l234.2 8)))),(Q0 (l234.2+1)))))))) else bif v==2 then .Qa 18012 (decide ((0:Int)<=(Int.tmod l234.2 51))) (.Qa 18017 (decide ((0:Int)<=(Int.tmod l234.2 8))) (.Qa 18019 (decide (0<=(Q0 (Int.tdiv l234.2 8)))&&decide ((Q0 (Int.tdiv l234.2 8)) < (32:Int))) (.row 18020 Y2 l234.1 (0+(Q0 (Int.tdiv l234.2 8)).toNat) true λx238=>.re 18020 (Ji.put 38 1 Y2 l234.1 (0+(Q0 (Int.tdiv l234.2 8)).toNat) (Zl .u8 x235 (E0 .u8 (Qk (U1 .u64 (Z5 .u64 e230.a2 (Int.tmod l234.2 51)) 1)) (Int.tmod l234.2 8)))) (.done (.inl ((l234.1.set (0+(Q0 (Int.tdiv l234.2 8)).toNat) (Zl .u8 x235 (E0 .u8 (Qk (U1 .u64 (Z5 .u64 e230.a2 (Int.tmod l234.2 51)) 1)) (Int.tmod l234.2 8)))),(Q0 (l234.2+1)))))))) else bif v==3 then .Qa 18012 (decide ((0:Int)<=(Int.tmod l234.2 51))) (.Qa 18017 (decide ((0:Int)<=(Int.tmod l234.2 8))) (.Qa 18019 (decide (0<=(Q0 (Int.tdiv l234.2 8)))&&decide ((Q0 (Int.tdiv l234.2 8)) < (32:Int))) (.row 18020 Y2 l234.1 (0+(Q0 (Int.tdiv l234.2 8)).toNat) true λx239=>.re 18020 (Ji.put 38 1 Y2 l234.1 (0+(Q0 (Int.tdiv l234.2 8)).toNat) (Zl .u8 x235 (E0 .u8 (Qk (U1 .u64 (Z5 .u64 e230.a3 (Int.tmod l234.2 51)) 1)) (Int.tmod l234.2 8)))) (.done (.inl ((l234.1.set (0+(Q0 (Int.tdiv l234.2 8)).toNat) (Zl .u8 x235 (E0 .u8 (Qk (U1 .u64 (Z5 .u64 e230.a3 (Int.tmod l234.2 51)) 1)) (Int.tmod l234.2 8)))),(Q0 (l234.2+1)))))))) else bif v==4 then .Qa 18012 (decide ((0:Int)<=(Int.tmod l234.2 51))) (.Qa 18017 (decide ((0:Int)<=(Int.tmod l234.2 8))) (.Qa 18019 (decide (0<=(Q0 (Int.tdiv l234.2 8)))&&decide ((Q0 (Int.tdiv l234.2 8)) < (32:Int))) (.row 18020 Y2 l234.1 (0+(Q0 (Int.tdiv l234.2 8)).toNat) true λx240=>.re 18020 (Ji.put 38 1 Y2 l234.1 (0+(Q0 (Int.tdiv l234.2 8)).toNat) (Zl .u8 x235 (E0 .u8 (Qk (U1 .u64 (Z5 .u64 e230.a4 (Int.tmod l234.2 51)) 1)) (Int.tmod l234.2 8)))) (.done (.inl ((l234.1.set (0+(Q0 (Int.tdiv l234.2 8)).toNat) (Zl .u8 x235 (E0 .u8 (Qk (U1 .u64 (Z5 .u64 e230.a4 (Int.tmod l234.2 51)) 1)) (Int.tmod l234.2 8)))),(Q0 (l234.2+1)))))))) else .fail))) (.done (.inr l234.1))) ((List.replicate 32 (0:Int)),0)) (λ(e241:(List Int))=>Ext.of (.exit 2) [(2,.str zg),(6,.ref 38 0 32)] [] [Bt 38 Y2 1 e241] (by rfl)) (λe241=>.fact (e241.length=32) inferInstance λh242=>.Qq 20002 (Qh.YP (ty:=Y2) (s:=57) (t:=9) (e:=5) (.tmp 62) 63 38 e241 32 (hn:=h242)) λ_=>.done (strOfNums e241)))))))))
def vY(p0:Q5):Sp (ze):=oF [0,1,2,3,4,5,6,7,16,17,36,39,40] Tryz.func185 [.agg (O4 p0)] (Qkb p0) (λr=>.str r)
def Qkv(p0:ze):TT (ze):=.fact ((Q2 p0)=I1 (Ze p0)) inferInstance λh243=>.Qq 1002 (Qh.octets (ty:=Y2) (s:=9) (t:=57) (e:=5) (.tmp 4) 5 p0) λ_=>.Qq 1003 (Qh.bO (e:=5) 188 (.tmp 5) 6 5 ⟨1,true,(List.map Y2.c (Q2 p0))⟩ 32 ((Q2 p0).length)) λ_=>.Qq 1004 (Qh.DF 188 (.tmp 6) 7 5 ⟨1,true,(List.map Y2.c (Q2 p0))⟩ (.agg (yX (Ze p0))) (show 1 < J0 by decide) (by rw[h243];kernel_rfl)) λ_=>.Qq 1005 (Qh.MZ (ty:=Y2) 188 3 (I1 (λ_=>0))) λ_=>.Qq 1006 (Qh.Mz (ty:=Y2) 188 (.tmp 3) (.tmp 7) 3 ⟨1,true,(List.map Y2.c (I1 (λ_=>0)))⟩ (.agg (yX (Ze p0))) (I1 (Ze p0))) λ_=>.Qq 2001 (Qh.Yi (e:=5) 188 (.tmp 3) (.const (.int .i64 0)) 8 3 ⟨1,true,(List.map Y2.c (I1 (Ze p0)))⟩ 0 .i64 0 32) λ_=>.row 2002 Y2 (I1 (Ze p0)) 0 true λx244=>.Qq 2004 (Qh.Yi (e:=5) 188 (.tmp 3) (.const (.int .i64 0)) 11 3 ⟨1,true,(List.map Y2.c (I1 (Ze p0)))⟩ 0 .i64 0 32) λ_=>.row 2005 Y2 (I1 (Ze p0)) 0 true λx245=>.re 2005 (Ji.Qhl 3 Y2 (Ze p0) 0 (U1 .u8 x244 248)) (.Qq 3001 (Qh.Yi (e:=5) 188 (.tmp 3) (.const (.int .i64 31)) 12 3 ⟨1,true,(List.map Y2.c (I1 (U6 (Ze p0) 0 (U1 .u8 x244 248))))⟩ 0 .i64 31 32) λ_=>.row 3002 Y2 (I1 (U6 (Ze p0) 0 (U1 .u8 x244 248))) 31 true λx246=>.Qq 3005 (Qh.Yi (e:=5) 188 (.tmp 3) (.const (.int .i64 31)) 16 3 ⟨1,true,(List.map Y2.c (I1 (U6 (Ze p0) 0 (U1 .u8 x244 248))))⟩ 0 .i64 31 32) λ_=>.row 3006 Y2 (I1 (U6 (Ze p0) 0 (U1 .u8 x244 248))) 31 true λx247=>.re 3006 (Ji.Qhl 3 Y2 (U6 (Ze p0) 0 (U1 .u8 x244 248)) 31 (Zl .u8 (U1 .u8 x246 127) 64)) (.Qq 4001 (Qh.Qep (e:=5) 188 (.tmp 3) 17 3 ⟨1,true,(List.map Y2.c (I1 (U6 (U6 (Ze p0) 0 (U1 .u8 x244 248)) 31 (Zl .u8 (U1 .u8 x246 127) 64))))⟩ 32) λ_=>.Qq 4002 (Qh.YP (ty:=Y2) (s:=57) (t:=9) (e:=5) (.tmp 17) 18 3 (I1 (U6 (U6 (Ze p0) 0 (U1 .u8 x244 248)) 31 (Zl .u8 (U1 .u8 x246 127) 64))) 32 (hn:=(by rfl))) λ_=>.done (strOfNums (I1 (U6 (U6 (Ze p0) 0 (U1 .u8 x244 248)) 31 (Zl .u8 (U1 .u8 x246 127) 64))))))
def vU(p0:ze):Sp (ze):=oF [0,2,3] Tryz.func181 [.str p0] (Qkv p0) (λr=>.str r)
noncomputable def qK:Code:=(cB (cR (cL (cR (cR (cR (Tryz.f123.body.getD .skip)))))))
def iZ:Code:=MS qK
def GI:List (Nat×V):=[(5,.ptr 1000005 0 0),(6,.ptr 1000006 0 0),(19,.fn 221 [] [.ptr 1700070 0 0])]
def ReL(u:Q5)(y:Y9)(s:ze):List (Nat×Qd):=[(1000005,⟨5,true,[(O4 u)]⟩),(1000006,⟨25,true,[(nD y)]⟩),(1700070,⟨1,true,[[.str s]]⟩)]
def Pb(ts:List (Nat×V))(u:Q5)(y:Y9)(s:ze):Ext:=Ext.of .normal ts (ReL u y s) [] (by rfl)
def Qj1(p0:Y9):TT (Q5×Q5×Q5×Q5):=.cl 11 (TO p0.fT.YY p0.fT.Qt) λr262=>.cl 22 (TI p0.fT.YY p0.fT.Qt) λr263=>.cl 1003 (Mx r262 r262) λr264=>.cl 1006 (Mx r263 r263) λr265=>.cl 2003 (TI r264 r265) λr266=>.cl 3011 (TI p0.Qn.YY p0.Qn.Qt) λr267=>.cl 3013 (Mx r267 r262) λr268=>.cl 3024 (TO p0.Qn.YY p0.Qn.Qt) λr269=>.cl 3026 (Mx r269 r263) λr270=>.cl 4005 (Mx r264 r265) λr271=>.cl 4010 (Mx r266 (Q5.mk 121665 0 0 0 0)) λr272=>.cl 4011 (TO r264 r272) λr273=>.cl 4012 (Mx r266 r273) λr274=>.cl 5003 (TO r268 r270) λr275=>.cl 5006 (TI r268 r270) λr276=>.cl 6005 (Mx r275 r275) λr277=>.cl 6012 (Mx r276 r276) λr278=>.cl 6013 (Mx p0.fu r278) λr279=>.done (r271,r274,r277,r279)
def Qhy(p0:Y9):Sp (Q5×Q5×Q5×Q5):=.Zk 182 [] Z1 Tryz.func182 rfl (λ_=>rfl) (show Jf Pg GG [0,2,3,4,5,6,7,8,9,10] Tryz.f182 [.ptr zI 0 0] (Ext.of .normal (U5 [.ptr zI 0 0]) [(zI,⟨25,true,[(nD p0)]⟩)] [] (by rfl)) (Qj1 p0) (λ(r:Q5×Q5×Q5×Q5)=>.Qc []) (λ(r:Q5×Q5×Q5×Q5)=>Ext.of .normal [] [(zI,⟨25,true,[(W0 (O4 r.1) (W0 (O4 r.2.1) (W0 (O4 r.2.2.1) (W0 (O4 r.2.2.2) (O4 p0.fu)))))]⟩)] [] (by rfl)) by unfold Jf;kernel_rfl)
def Rs(u:Q5)(y:Y9)(s:ze)(v:Bool):TT (Y9):=
 .bind 1
 (.br 0 v
  (.done (y.Qn.YY,y.Qn.Qt,y.fT.YY,y.fT.Qt))
  (.done (y.fT.YY,y.fT.Qt,y.Qn.YY,y.Qn.Qt)))
 (λ(e248:Q5×Q5×Q5×Q5)=>Ext.l .normal [(6,.ptr 1000006 0 0),(7,.bool v)] [(1000005,⟨5,true,[(O4 u)]⟩),(1000006,⟨25,true,[(W0 (O4 e248.1) (W0 (O4 e248.2.1) (W0 (O4 e248.2.2.1) (W0 (O4 e248.2.2.2) (O4 y.fu)))))]⟩),(1700070,⟨1,true,[[.str s]]⟩)])
 (λe248=>
  .call 7001 (Qhy (Y9.mk (KP.mk e248.1 e248.2.1) (KP.mk e248.2.2.1 e248.2.2.2) y.fu)) [(1000000,1000006)] [] λr280=>
  .br 0 v
  (.done (Y9.mk (KP.mk r280.2.2.1 r280.2.2.2) (KP.mk r280.1 r280.2.1) y.fu))
  (.done (Y9.mk (KP.mk r280.1 r280.2.1) (KP.mk r280.2.2.1 r280.2.2.2) y.fu)))
theorem Qxh(u:Q5)(y:Y9)(s:ze)(v:Bool):Y3 Tryz.prog GG [5,6,7,21,29] 45 (I3 qK) (Pb [(5,.ptr 1000005 0 0),(6,.ptr 1000006 0 0),(7,.bool v)] u y s) (Rs u y s v) (λ(r:Y9)=>Pb [] u r s):=by unfold Y3;kernel_rfl
theorem Yu{n:Nat}{ts:List (Nat×V)}{bs:List (Nat×Qd)}{us:List Nat}(ht:(ts.all λp=>(K1 p.2).all (D2 n ts bs us).u)=true)(hb:(bs.all λp=>(D2 n ts bs us).u p.1&&(D0 p.2.rows.flatten).all (D2 n ts bs us).u)=true):(D2 n ts bs us).known where
 t:=λi b hm=>by
  have hm':b∈K1 (Zw ts i):=hm;unfold Zw at hm';cases hf:ts.find? (λp=>p.1==i) with
  | none=>rw[hf] at hm';simp[K1] at hm'
  | some p=>rw[hf] at hm';exact zN.1 (zN.1 ht p (ql hf)) b hm'
 b:=λi k hk=>by
  obtain⟨q,h1,rfl,rfl⟩:=Ys (show Qm bs i=some k from hk);have:=zN.1 hb q h1;simp only[zL] at this;exact⟨this.1,λb hm=>zN.1 this.2 b hm⟩
theorem Lx{n:Nat}{ts:List (Nat×V)}{bs:List (Nat×Qd)}{tb:List BT}{us:List Nat}(ht:(ts.all λp=>(K1 p.2).all (D2 n ts (bs++tb.map λx=>(x.id,x.k)) us).u)=true)
  (hb:(bs.all λp=>(D2 n ts (bs++tb.map λx=>(x.id,x.k)) us).u p.1&&(D0 p.2.rows.flatten).all (D2 n ts (bs++tb.map λx=>(x.id,x.k)) us).u)=true) (hc:(tb.all λx=>(D2 n ts (bs++tb.map λx=>(x.id,x.k)) us).u x.id)=true) :
  (D2 n ts (bs++tb.map λx=>(x.id,x.k)) us).known where
 t:=(Yu (n:=n) (ts:=ts) (bs:=[]) (us:=us) ht rfl).t
 b:=λi k hk=>by
  obtain⟨q,h1,rfl,rfl⟩:=Ys (show Qm (bs++tb.map λx=>(x.id,x.k)) i=some k from hk);rcases ww.1 h1 with h2|h2
  ·have:=zN.1 hb q h2;simp only[zL] at this;exact⟨this.1,λb hm=>zN.1 this.2 b hm⟩
  ·have hd:=GY _ h2;obtain⟨x,hx,rfl⟩:=zP.1 h2;exact⟨zN.1 hc x hx,λb hm=>by rw[hd.refs] at hm;simp at hm⟩
noncomputable def BY:Code:=Tryz.f206.body.getD .skip
def aL:Code:=cB (cB (cR BY))
def pK:Array Oper:=Oo (cL (cL aL))
def aR1:Code:=cR (cR aL)
theorem eAl:BY=.seq (cL BY) (.block 0 (.loop aL)):=by kernel_rfl
theorem eAL:aL=.seq (.seq (.region 1 pK false) (.cond (.tmp 14) .skip (.exit 0))) (.seq (.block 1 .skip) aR1):=by kernel_rfl
def VI(s:ze)(i:Int):TT (Option Int):=
 .br 1006 (decide (i < (s.size:Int))) (.Qa 1009 (decide (0<=i/\i < (s.size:Int))) (.done (some (QQ s i)))) (.done none)
noncomputable def cDg:Code:=Tryz.f221.body.getD .skip
def dL:Code:=cB (cB (cR cDg))
def dR0:Code:=cL (cL dL)
def Qer:Array Oper:=Oo (cL (cB (cL (cR dL))))
def dR1:Code:=cR (cR dL)
theorem eDg:cDg=.seq (cL cDg) (.block 0 (.loop dL)):=by kernel_rfl
theorem eDL:dL=.seq (.seq dR0 (.cond (.tmp 5) .skip (.exit 0))) (.seq (.block 1 (.seq (.region 3 Qer false) (.cond (.tmp 19) .ret .skip))) dR1):=by kernel_rfl
def gDg(s:ze)(i:Int):TT Bool:=
 .Qa 3005 (decide (0<=(Q0 (Int.tdiv i 8))/\(Q0 (Int.tdiv i 8)) < (s.size:Int))) (.Qa 3008 (decide ((0:Int)<=(Int.tmod i 8))) (.done ((U1 .u8 (Z5 .u8 (QQ s (Q0 (Int.tdiv i 8))) (Int.tmod i 8)) 1)==1)))
def iQ(u:Q5)(y:Y9)(s:ze):List (Nat×Qd):=(Pb [] u y s).bs
theorem Qxu(u:Q5)(y:Y9)(s:ze)(v:Bool):Y3 Tryz.prog GG [5,6,7,19,20] 45 iZ (Pb ((20,.bool v) :: GI) u y s) (.done ():TT Unit) (λ_=>Pb [(5,.ptr 1000005 0 0),(6,.ptr 1000006 0 0),(7,.bool v)] u y s):=by unfold Y3;kernel_rfl
theorem Qiq(u:Q5)(y:Y9)(s:ze)(v:Bool):(Pb ((20,.bool v) :: GI) u y s |>.D 45).st=Ks (E6 45 (Zw GI) (Qm (iQ u y s))) ([20].zip [.bool v]):=by
 rw[W1 (by rfl)];exact(Uu 45 GI _ 20 (.bool v)).symm
theorem Qdp(u:Q5)(y:Y9)(s:ze)(v:Bool){r:Y9}(hb:(Rs u y s v).run=some r) :
  JT Tryz.prog GG 45 (Zw GI) [20] iZ (I3 qK) (Qm (iQ u y s)) [.bool v] (λe b'=>e=.normal/\b'=Qm (iQ u r s)):=by
 refine⟨((Pb [(5,.ptr 1000005 0 0),(6,.ptr 1000006 0 0),(7,.bool v)] u y s).D 45).st,?_,?_⟩
 ·have h:=(Qxu u y s v).tv Z1 (r:=()) rfl (by rfl);rw[Qiq] at h;exact h
 ·refine((Qxh u y s v).tv Z1 hb (by rfl)).mono λe s' hg=>?_;obtain⟨rfl,g⟩:=hg;refine⟨_,45,⟨rfl,rfl⟩,?_⟩;rw[W1 (by rfl)] at g;exact g
section
variable (u:Q5) (l:Nat) (y:Y9) (s:ze) (i:Int)
def Ret:List (Nat×V):=[(0,.QP l),(1,.ptr 1700070 0 0),(3,.int .i64 i)]
def iP:Ext:=Pb (Ret l i) u y s
theorem Qxe:Y3 Tryz.prog GG [0,1,3] 20 (cL cDg) (Pb [(0,.QP l),(1,.ptr 1700070 0 0)] u y s) (.done ():TT Unit) (λ_=>iP u l y s 254):=by unfold Y3;kernel_rfl
theorem Qxm:Y3 Tryz.prog GG [0,1,3,5] 20 dR0 (iP u l y s i) (.done ():TT Unit) (λ_=>Pb (Ret l i++[(5,.bool (decide ((0:Int)<=i)))]) u y s):=by unfold Y3;kernel_rfl
theorem Qxk:K5 Tryz.prog GG [0,1,3,8,17] 20 3 Qer 10 (iP u l y s i) (gDg s i) (λr=>Pb (Ret l i++[(8,.QP l),(17,.bool r)]) u y s):=by unfold K5;kernel_rfl
theorem Qxw:Y3 Tryz.prog GG [0,1,3] 20 dR1 (iP u l y s i) (.done ():TT Unit) (λ_=>iP u l y s (Q0 (i - 1))):=by unfold Y3;kernel_rfl
end
def My(u:Q5)(s:ze)(x:Y9×Int):Option ((Y9×Int)⊕Y9):=
 bif decide ((0:Int)<=x.2) then
  (match (gDg s x.2).run with
  | none=>none
  | some b=>match (Rs u x.1 s b).run with
   | none=>none
   | some y=>some (.inl (y,Q0 (x.2 - 1))))
 else some (.inr x.1)
def mRe(u:Q5)(y:Y9)(s:ze):Option Y9:=I0 (My u s) Yv (y,254)
def yRe:YL:=⟨45,Zw GI,#[20],iZ,I3 qK⟩
theorem Qy9(u:Q5)(y:Y9)(s:ze){r:Y9}(h:mRe u y s=some r) :
    UM Tryz.prog GG cDg 20 (λl=>[.QP l,.ptr 1700070 0 0]) (Qm (iQ u y s)) yRe (λe b=>e=.normal/\b=Qm (iQ u r s)):=by
  refine UM.of λl=>?_;have e0:U3 20 [.QP l,.ptr 1700070 0 0] (Qm (iQ u y s))=((Pb (U5 [.QP l,.ptr 1700070 0 0]) u y s).D 20).st:=(B9 (x:=Pb (U5 [.QP l,.ptr 1700070 0 0]) u y s) (by rfl) (by rfl) 20).symm;rw[e0,eDg];show YT _ _ _ _ _ ⟨.normal,((Pb [(0,.QP l),(1,.ptr 1700070 0 0)] u y s).D 20).st⟩ _;refine YT.seq (YT.piece (Qxe u l y s) Z1 rfl (by rfl) λq g=>?_);show YT _ _ _ _ _ _ _;refine YT.XI g (YT.block ?_);refine YT.loop (λm st=>st.x=.normal/\∃z:Y9×Int,QU GG st.st ((iP u l z.1 s z.2).D 20).st/\I0 (My u s) m z=some r) (λm st hI=>?_) (n:=Yv) ⟨rfl,(y,254),QU.same _,h⟩;obtain⟨x,st⟩:=st;obtain⟨rfl,⟨v,i⟩,g,hit⟩:=hI;refine YT.XI g ?_;cases m with
  | zero=>simp[I0] at hit
  | succ m=>
    rw[ZH] at hit;rw[eDL];refine YT.seq (YT.seq (YT.piece (Qxm u l v s i) Z1 rfl (by rfl) λst g=>?_));show YT _ _ _ _ _ _ _;refine YT.XI g ?_;cases hc:decide ((0:Int)<=i) with
    | false=>
      have hs0:My u s (v,i)=some (.inr v):=by unfold My;simp only[hc];rfl
      rw[hs0] at hit;obtain rfl:v=r:=wu hit;refine YT.cond (b:=false) rfl (YT.exit ?_);refine⟨.inl rfl,20,Zw (Ret l i++[(5,.bool false)]),Qm (iQ u v s),?_,rfl,rfl⟩;show QU GG ((Pb (Ret l i++[(5,.bool false)]) u v s).D 20).st _;rw[W1 (by rfl) 20];exact QU.same _
    | true=>
      refine YT.cond (b:=true) rfl (YT.skip ?_);show YT _ _ _ _ _ _ _;refine YT.XI (st':=((iP u l v s i).D 20).st) (W6 (iP u l v s i) (by rfl) rfl ⟨by rfl,by rfl⟩) ?_;cases h4:(gDg s i).run with
      | none => have hs0 : My u s (v, i) = none := by unfold My; simp only [hc, h4]; rfl
                rw[hs0] at hit;simp at hit
      | some b=>
      cases h5:(Rs u v s b).run with
      | none => have hs0 : My u s (v, i) = none := by unfold My; simp only [hc, h4, h5]; rfl
                rw[hs0] at hit;simp at hit
      | some v2=>
      have hs0:My u s (v,i)=some (.inl (v2,Q0 (i - 1))):=by unfold My;simp only[hc,h4,h5];rfl
      rw[hs0] at hit;refine YT.seq (YT.block (YT.seq (YT.region ?_)));show J3 _ _ _ _ _ ([0,1,2,3,4,5,6,7,8,9]++[10,11]) _ _;refine J3.tv ((Qxk u l v s i).tv Z1 h4 (by rfl)) λe st hq'=>⟨hq'.1,J3.XI hq'.2 ?_⟩;have es:=W1 (x:=Pb (Ret l i++[(8,V.QP l),(17,V.bool b)]) u v s) (by rfl) 20;rw[es];refine J3.KS (hi:=rfl) rfl rfl rfl rfl rfl rfl rfl ?_ ?_ ?_ rfl (Qdp u v s b h5) ?_ ?_
      · exact λi=>L5 (by rfl) i
      · exact λi=>L5 (by rfl) i
      · intro p hp;have:p∈[20]:=hp;simp at this;subst this;exact(by decide:20 < 45)
      · exact λe b' h=>.inl h.1
      · intro e b' h;obtain⟨rfl,rfl⟩:=h;refine J3.step rfl (J3.nil ?_);show YT _ _ _ _ _ _ _;refine YT.cond (b:=false) rfl (YT.skip ?_);show YT _ _ _ _ _ _ _;refine YT.XI (st':=((iP u l v2 s i).D 20).st) (W6 (iP u l v2 s i) (by rfl) rfl ⟨by rfl,by rfl⟩) ?_;refine YT.piece (Qxw u l v2 s i) Z1 rfl (by rfl) λq g=>?_;exact⟨m,Nat.lt_succ_self m,rfl,(v2,Q0 (i - 1)),g,hit⟩
def Pd(u:Q5)(y:Y9)(s:ze):Ext:=Ext.of .normal [(5,.ptr 5 0 0),(6,.ptr 6 0 0),(19,.fn 221 [] [.ptr 700070 0 0])] [(5,⟨5,true,[(O4 u)]⟩),(6,⟨25,true,[(nD y)]⟩),(700070,⟨1,true,[[.str s]]⟩)] [] (by rfl)
def ReE(u:Q5):(Y9)->Ext
 | r=>Ext.of .normal [(5,.ptr 5 0 0),(6,.ptr 6 0 0)] [(5,⟨5,true,[(O4 u)]⟩),(6,⟨25,true,[(nD r)]⟩)] [] (by rfl)
theorem bRe(u:Q5)(y:Y9)(s:ze):QZ (Qm (Pd u y s).bs)=Qm (iQ u y s):=by
 rw[UO];have:((Pd u y s).bs.map λp=>(sh p.1,p.2.Qb sh))=iQ u y s:=by kernel_rfl
 rw[this]
theorem Qzv(u:Q5)(y:Y9)(s:ze){r:Y9}(h:mRe u y s=some r) :
  TV Tryz.prog GG (.rangeFunc (.tmp 19) #[20] iZ (I3 qK)) ((Pd u y s).D 45).st (λe st=>e=(ReE u r).ex/\QU GG st ((ReE u r).D 45).st):=by
 have ht:(λi=>W3 sh (((Pd u y s).D 45).st.t i))=Zw GI:=by
  have:((Pd u y s).D 45).st.t=Zw (Pd u y s).ts:=rfl;rw[this,Zv];have:((Pd u y s).ts.map λp=>(p.1,W3 sh p.2))=GI:=by kernel_rfl
  rw[this]
 have hb:Tryz.f221.body=some cDg:=by kernel_rfl
 refine TV.AY (f:=221) (fi:=Tryz.f221) (c:=cDg) (first:=[]) (caps:=[.ptr 1700070 0 0]) (R:=λe bw=>e=.normal/\bw=Qm (iQ u r s)) ?_ Tryz.func221 hb (by kernel_rfl) (by kernel_rfl) ?_ (λi=>?_) ?_ ?_
 ·show some ((λi=>W3 sh (((Pd u y s).D 45).st.t i)) 19)=_;rw[ht];rfl
 ·intro bq k hk;obtain⟨q,h1,rfl,_⟩:=Ys (show Qm (Pd u y s).bs bq=some k from hk);show ((((Pd u y s).us).contains q.1 || Qw q.1))=true;simp only[Ext.us,wi,wz,zM];exact .inl (zP.2 ⟨q,h1,rfl⟩)
 ·have:=congrFun ht i;rw[show W3 sh (((Pd u y s).D 45).st.t i)=Zw GI i from this];exact L5 (by rfl) i
 ·have hbb:QZ ((Pd u y s).D 45).st.b=Qm (iQ u y s):=bRe u y s;rw[ht,hbb];have e:max Tryz.f221.ntmps (([]:List V).length+1+[V.ptr 1700070 0 0].length)=20:=by kernel_rfl
  rw[e];exact Qy9 u y s h
 ·intro e b' ho;obtain⟨rfl,rfl⟩:=ho;refine⟨.inl rfl,Qm (Pd u r s).bs,(bRe u r s).symm,?_,rfl,?_⟩
  ·exact Yu (ts:=(Pd u y s).ts) (bs:=(Pd u r s).bs) (us:=(Pd u y s).us) (by rfl) (by rfl)
  ·exact W6 (ReE u r) (by rfl) rfl ⟨by rfl,by rfl⟩
def Qut(u:Q5)(y:Y9)(s:ze):Sub Tryz.prog GG (Y9):=
 ⟨.rangeFunc (.tmp 19) #[20] iZ (I3 qK),45,Pd u y s,mRe u y s,ReE u ,λ_ h=>Qzv u y s h⟩
def Qdd(p0:ze):Sp (Unit):=.Zk 180 [] Z1 Tryz.func180 rfl (λ_=>rfl) (show Jf Pg GG [0,1,2] Tryz.f180 [.str p0] (Ext.of .normal (U5 [.str p0]) [] [] (by rfl)) (.done ():TT (Unit)) (λ(r:Unit)=>.fn 221 [] [.ptr 1 0 0]) (λ(r:Unit)=>Ext.of .normal [] [(1,⟨1,true,[[.str p0]]⟩)] [] (by rfl)) by unfold Jf;kernel_rfl)
def dZ(p0 p1:ze):TT (ze):=.cl 1002 (oV p1) λr281=>.cl 3002 (vU p0) λr282=>.call 3003 (Qdd r282) [] [(1,500009)] λr283=>.gh 1 (.Qb 500009 700070) (.sub (Qut r281 (Y9.mk (KP.mk (Q5.mk 1 0 0 0 0) (Q5.mk 0 0 0 0 0)) (KP.mk r281 (Q5.mk 1 0 0 0 0)) r281) r282) λr284=>.cl 10007 (vJ r284.fT.Qt) λr285=>.cl 10008 (Mx r284.fT.YY r285) λr286=>.cl 10009 (vY r286) λr287=>.done r287)
def Fb(p0 p1:ze):Sp (ze):=oF [0,1,4,5,6,7,19,20,21,29] Tryz.func123 [.str p0,.str p1] (dZ p0 p1) (λr=>.str r)
def g67(p0:ze):TT (ze×Int):=.br 0 ((p0.size:Int) != 32) (.done (zg,2)) (.Qq 3002 (Qh.MZ (ty:=Y2) 188 4 (I1 (λ_=>0))) λ_=>.Qq 3003 (Qh.Mz (ty:=Y2) 188 (.tmp 4) (.tmp 8) 4 ⟨1,true,(List.map Y2.c (I1 (λ_=>0)))⟩ (.agg (W0 [.int .u8 9] (X9 31 (.int .u8 0) []))) (I1 (U6 (λ_=>0) 0 9))) λ_=>.Qq 4002 (Qh.Qep (e:=5) 188 (.tmp 4) 10 4 ⟨1,true,(List.map Y2.c (I1 (U6 (λ_=>0) 0 9)))⟩ 32) λ_=>.Qq 4003 (Qh.YP (ty:=Y2) (s:=57) (t:=9) (e:=5) (.tmp 10) 11 4 (I1 (U6 (λ_=>0) 0 9)) 32 (hn:=(by rfl))) λ_=>.cl 4004 (Fb p0 (strOfNums (I1 (U6 (λ_=>0) 0 9)))) λr288=>.done (r288,0))
def s67(p0:ze):Sp (ze×Int):=oF [0,2,3,4,7] Tryz.func67 [.str p0] (g67 p0) (λr=>.Qc [.str r.1,.i r.2])
def Qk2(p0 p1:ze):TT (ze×Int):=.Zz 1 [14] (.oR 1005 ((p0.size:Int) != 32) (.done ((p1.size:Int) != 32))) zn λc289=>.br 0 c289 (.done (zg,2)) (.cl 3003 (Fb p0 p1) λr290=>.fact ((Q2 r290)=I1 (Ze r290)) inferInstance λh291=>.Qq 4002 (Qh.octets (ty:=Y2) (s:=9) (t:=57) (e:=5) (.tmp 18) 19 r290) λ_=>.Qq 4003 (Qh.bO (e:=5) 188 (.tmp 19) 20 19 ⟨1,true,(List.map Y2.c (Q2 r290))⟩ 32 ((Q2 r290).length)) λ_=>.Qq 4004 (Qh.DF 188 (.tmp 20) 21 19 ⟨1,true,(List.map Y2.c (Q2 r290))⟩ (.agg (yX (Ze r290))) (show 1 < J0 by decide) (by rw[h291];kernel_rfl)) λ_=>.br 0 ((((Ze r290) 0)==0)&&((((Ze r290) 1)==0)&&((((Ze r290) 2)==0)&&((((Ze r290) 3)==0)&&((((Ze r290) 4)==0)&&((((Ze r290) 5)==0)&&((((Ze r290) 6)==0)&&((((Ze r290) 7)==0)&&((((Ze r290) 8)==0)&&((((Ze r290) 9)==0)&&((((Ze r290) 10)==0)&&((((Ze r290) 11)==0)&&((((Ze r290) 12)==0)&&((((Ze r290) 13)==0)&&((((Ze r290) 14)==0)&&((((Ze r290) 15)==0)&&((((Ze r290) 16)==0)&&((((Ze r290) 17)==0)&&((((Ze r290) 18)==0)&&((((Ze r290) 19)==0)&&((((Ze r290) 20)==0)&&((((Ze r290) 21)==0)&&((((Ze r290) 22)==0)&&((((Ze r290) 23)==0)&&((((Ze r290) 24)==0)&&((((Ze r290) 25)==0)&&((((Ze r290) 26)==0)&&((((Ze r290) 27)==0)&&((((Ze r290) 28)==0)&&((((Ze r290) 29)==0)&&((((Ze r290) 30)==0)&&((((Ze r290) 31)==0)&&true)))))))))))))))))))))))))))))))) (.done (zg,2)) (.done (r290,0)))
def tK(p0 p1:ze):Sp (ze×Int):=oF [0,1,4,5,6,14,23] Tryz.func252 [.str p0,.str p1] (Qk2 p0 p1) (λr=>.Qc [.str r.1,.i r.2])
end Go.Proofs.YtjdieimefebnfaaGreatDoor
