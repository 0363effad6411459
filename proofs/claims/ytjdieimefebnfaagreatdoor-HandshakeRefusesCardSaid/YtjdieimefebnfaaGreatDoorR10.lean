/- Guides and contracts, printed by a program. Guides and contracts, printed by a program. Guides and contracts, printed by a program. The table of a ha ..; no conditions. -/
import Derived.Test.YtjdieimefebnfaaGreatDoorR9
import Derived.Test.YtjdieimefebnfaaGreatDoorR6
import Derived.Test.YtjdieimefebnfaaGreatDoorR7
import Derived.KernelRfl
set_option linter.unusedVariables false
set_option linter.unusedSimpArgs false
set_option maxRecDepth 100000
noncomputable section
namespace Go.Proofs.YtjdieimefebnfaaGreatDoor
open Go Go.EV
structure H6 where
 Jb:Int
 Yf:Int
 ZK:Int
 Ur:Int
 Jz:Int
 QS:Int
 KW:Int
 UB:Bool
structure K7 where
 fA:ze
 fQ:ze
 fh:ze
structure Q2 where
 fq:Int
 fo:Int
 fk:Int
 gc:ze
 fh:ze
 fZ:ze
 fA:ze
 gb:ze
 fJ:(List ze)
 fm:Int
 fD:ze
 fj:K7
 fF:ze
 fM:(List Z0)
 fy:Y0
 ga:Int
structure Q8 where
 fe:Q2
 QY:ze
 QL:(List Z0)
def G3:Ty H6:=⟨λx=>[.i x.Jb,.i x.Yf,.i x.ZK,.i x.Ur,.i x.Jz,.i x.QS,.i x.KW,.bool x.UB],λx=>[.i x.Jb,.i x.Yf,.i x.ZK,.i x.Ur,.i x.Jz,.i x.QS,.i x.KW,.bool x.UB],λ_=>rfl,λ_=>rfl,λ_ _=>rfl,λ_=>rfl⟩
def Z1:Ty Z0:=⟨λx=>[.i x.fw,.i x.fX,.str x.fI],λx=>[.i x.fw,.i x.fX,.str x.fI],λ_=>rfl,λ_=>rfl,λ_ _=>rfl,λ_=>rfl⟩
def E8(s:Q2):List V:=[.int .i64 s.fq,.int .i64 s.fo,.int .i64 s.fk,.str s.gc,.str s.fh,.str s.fZ,.str s.fA,.str s.gb,.sl false 1 (List.map Z7.c s.fJ),.int .i64 s.fm,.str s.fD,.str s.fj.fA,.str s.fj.fQ,.str s.fj.fh,.str s.fF,.sl false 3 (List.map Z1.c s.fM),.int .i64 s.fy.fE,.int .i64 s.fy.fY,.int .i64 s.fy.fL,.int .i64 s.ga]
def A7(m:Q8):List V:=H8 (E8 m.fe) [.str m.QY,.sl false 3 (List.map Z1.c m.QL)]
def Qm9(p0:ze):TT (Bool):=.done ((p0.size:Int) != 32)
def vH(p0:ze):Sp (Bool):=oF [0,2] Tryz.func172 [.str p0] (Qm9 p0) (λr=>.bool r)
def eL(p0:List ze):TT (Int):=.QC 1 (.lp (λ(l505:Int)=>Ext.l .normal [(0,Sl 1 Z7 p0),(1,.fn 172 [] []),(4,.i 0),(7,.i (I3 Z7 p0)),(8,.i l505)] []) (λl505=>.br 0 (decide (l505 < (I3 Z7 p0))) (.row 4004 Z7 p0 l505.toNat (decide (0<=l505)) λx506=>.cl 4006 (vH x506) λr507=>.br 0 r507 (.done (.inr (.inl l505))) (.done (.inl (Q0 (l505+1))))) (.done (.inr (.inr ())))) 0) (λ(e508:Int)=>Ext.l .ret [(4,.i e508)] []) (λ(e509:Unit)=>Ext.l (.exit 0) [(4,.i 0)] []) (λe508=>.done e508) (λe509=>.done (-1))
def PB(p0:List ze):Sp (Int):=oF [0,1,4,5,7,8,9,16] Tryz.func173 [Sl 1 Z7 p0,.fn 172 [] []] (eL p0) (λr=>.int .i64 r)
def eN(p0:List ze):TT (Bool):=.cl 1003 (PB p0) λr510=>.done (decide ((0:Int)<=r510))
def Sy(p0:List ze):Sp (Bool):=oF [0,1,4] Tryz.func114 [Sl 1 Z7 p0,.fn 172 [] []] (eN p0) (λr=>.bool r)
def Qe9(p0:List ze):TT (Bool):=.cl 1002 (Sy p0) λr511=>.done (!r511)
def TW(p0:List ze):Sp (Bool):=oF [0,2] Tryz.func113 [Sl 1 Z7 p0] (Qe9 p0) (λr=>.bool r)
def Qxh :Sp ((List H6)):=oF [0] Tryz.func121 [] (.gh 0 (.share (Zp.o 12 G3 [(H6.mk 1 1 0 0 0 0 0 false),(H6.mk 2 1 0 0 0 0 0 false),(H6.mk 2 1 1 6 0 0 2 false),(H6.mk 1 2 1 1 0 0 1 true),(H6.mk 1 3 2 7 100 0 1 true),(H6.mk 2 4 1 7 168 1 3 true),(H6.mk 1 5 3 8 204 2 4 true),(H6.mk 1 6 3 8 240 2 0 false),(H6.mk 2 6 2 8 240 2 5 false),(H6.mk 1 7 0 8 0 0 0 false),(H6.mk 2 7 0 8 0 0 0 false)]) 0) (.done [(H6.mk 1 1 0 0 0 0 0 false),(H6.mk 2 1 0 0 0 0 0 false),(H6.mk 2 1 1 6 0 0 2 false),(H6.mk 1 2 1 1 0 0 1 true),(H6.mk 1 3 2 7 100 0 1 true),(H6.mk 2 4 1 7 168 1 3 true),(H6.mk 1 5 3 8 204 2 4 true),(H6.mk 1 6 3 8 240 2 0 false),(H6.mk 2 6 2 8 240 2 5 false),(H6.mk 1 7 0 8 0 0 0 false),(H6.mk 2 7 0 8 0 0 0 false)]):TT ((List H6))) (λr=>Sl 8 G3 r)
def s66 :Sp (Y0):=oF [0] Tryz.func66 [] (.done (Y0.mk (-1) 0 0):TT (Y0)) (λr=>.agg [.int .i64 r.fE,.int .i64 r.fY,.int .i64 r.fL])
def Qe6(p0:ze):TT (Int):=.cl 1002 (Fy p0) λr517=>.br 0 (!r517) (.done 5) (.done 0)
def Qq4(p0:ze):Sp (Int):=oF [0,2,5] Tryz.func116 [.str p0] (Qe6 p0) (λr=>.int .i64 r)
def Qe7(p0:ze):TT (Bool):=.cl 1002 (Qq4 p0) λr518=>.done (r518 != 0)
def Qq5(p0:ze):Sp (Bool):=oF [0,2] Tryz.func115 [.str p0] (Qe7 p0) (λr=>.bool r)
def eO(p0:List ze):TT (Int):=.QC 1 (.lp (λ(l520:Int)=>Ext.l .normal [(0,Sl 1 Z7 p0),(1,.fn 115 [] []),(4,.i 0),(7,.i (I3 Z7 p0)),(8,.i l520)] []) (λl520=>.br 0 (decide (l520 < (I3 Z7 p0))) (.row 4004 Z7 p0 l520.toNat (decide (0<=l520)) λx521=>.cl 4006 (Qq5 x521) λr522=>.br 0 r522 (.done (.inr (.inl l520))) (.done (.inl (Q0 (l520+1))))) (.done (.inr (.inr ())))) 0) (λ(e523:Int)=>Ext.l .ret [(4,.i e523)] []) (λ(e524:Unit)=>Ext.l (.exit 0) [(4,.i 0)] []) (λe523=>.done e523) (λe524=>.done (-1))
def PS(p0:List ze):Sp (Int):=oF [0,1,4,5,7,8,9,16] Tryz.func173 [Sl 1 Z7 p0,.fn 115 [] []] (eO p0) (λr=>.int .i64 r)
def eG(p0:List ze):TT (Bool):=.cl 1003 (PS p0) λr525=>.done (decide ((0:Int)<=r525))
def Sz(p0:List ze):Sp (Bool):=oF [0,1,4] Tryz.func114 [Sl 1 Z7 p0,.fn 115 [] []] (eG p0) (λr=>.bool r)
def Qm7(p0:List Int)(p1:Int):TT (Int):=.QC 1 (.lp (λ(l534:Int)=>Ext.l .normal [(0,Sl 1 Q5 p0),(1,.i p1),(4,.i 0),(7,.i (I3 Q5 p0)),(8,.i l534)] []) (λl534=>.br 0 (decide (l534 < (I3 Q5 p0))) (.row 4004 Q5 p0 l534.toNat (decide (0<=l534)) λx535=>.br 0 (p1==x535) (.done (.inr (.inl l534))) (.done (.inl (Q0 (l534+1))))) (.done (.inr (.inr ())))) 0) (λ(e536:Int)=>Ext.l .ret [(4,.i e536)] []) (λ(e537:Unit)=>Ext.l (.exit 0) [(4,.i 0)] []) (λe536=>.done e536) (λe537=>.done (-1))
def vY(p0:List Int)(p1:Int):Sp (Int):=oF [0,1,4,5,7,8,9,16] Tryz.func176 [Sl 1 Q5 p0,.i p1] (Qm7 p0 p1) (λr=>.int .i64 r)
def Qe3(p0:List Int)(p1:Int):TT (Bool):=.cl 1003 (vY p0 p1) λr538=>.done (decide ((0:Int)<=r538))
def Qq3(p0:List Int)(p1:Int):Sp (Bool):=oF [0,1,4] Tryz.func119 [Sl 1 Q5 p0,.i p1] (Qe3 p0 p1) (λr=>.bool r)
def Qm5(p0:Q8)(p1:H6):TT (Int):=.br 0 (p1.QS==1) (.done (Q0 (p1.Jz+(p0.fe.fh.size:Int)))) (.br 0 (p1.QS==2) (.done (Q0 ((Q0 (p1.Jz+(p0.fe.fh.size:Int)))+(p0.fe.fj.fh.size:Int)))) (.done p1.Jz))
def vQ(p0:Q8)(p1:H6):Sp (Int):=oF [0,1,3,4,6,7,18] Tryz.func178 [.snap (A7 p0),.agg (G3.c p1)] (Qm5 p0 p1) (λr=>.int .i64 r)
def Qe1(p0:Q8)(p1:H6):TT (Bool):=.Zz 1 [67] (.oR 1010 (p0.fe.fq != p1.Jb) (.oR 1020 (p0.fe.fo != p1.Yf) (.oR 1030 (decide (p0.fe.fm < p1.ZK)) (.oR 1040 (decide (p1.Ur < p0.fe.fm)) (.cl 1048 (vQ p0 p1) λr543=>.oR 1052 ((p0.fe.fD.size:Int) != r543) (.done (!(p1.UB==(decide ((0:Int)<=p0.fe.fy.fE)))))))))) zm λc544=>.br 0 c544 (.done false) (.bind 0 (.br 0 (p1.QS==0) (.Zz 7 [5] (.an 7009 ((decide (p0.fe.fj.fA=zg))&&((decide (p0.fe.fj.fQ=zg))&&((decide (p0.fe.fj.fh=zg))&&true))) (.done (decide (p0.fe.fF=zg)))) zm λc545=>.done c545) (.br 0 (p1.QS==1) (.Zz 9 [5] (.view 9014 (TW [p0.fe.fj.fA,p0.fe.fj.fQ]) [] λr546=>.an 9016 r546 (.an 9025 (decide (p0.fe.fj.fh=zg)) (.done (decide (p0.fe.fF=zg))))) zm λc547=>.done c547) (.Zz 5 [5] (.view 5019 (TW [p0.fe.fj.fA,p0.fe.fj.fQ,p0.fe.fF]) [] λr548=>.an 5021 r548 (.cl 5027 (lZ p0.fe.fj.fh) λr549=>.done r549)) zm λc550=>.done c550))) (λ(e551:Bool)=>Ext.l .normal [(0,.snap (A7 p0)),(3,.ptr 3 0 0),(4,.bool false),(5,.bool e551)] [(3,⟨8,true,[(G3.c p1)]⟩)]) (λe551=>.br 0 (p1.KW==0) (.Zz 11 [4] (.an 11003 e551 (.done ((I3 Z1 p0.fe.fM)==0))) zm λc552=>.done c552) (.Zz 12 [4] (.an 12003 e551 (.an 12012 ((I3 Z1 p0.fe.fM)==1) (.row 12017 Z1 p0.fe.fM 0 true λx553=>.cl 12019 (s58 x553) λr554=>.an 12023 (r554==0) (.row 12028 Z1 p0.fe.fM 0 true λx555=>.an 12036 (x555.fw==p1.KW) (.row 12041 Z1 p0.fe.fM 0 true λx556=>.done (x556.fX==(Q0 (p0.fe.fm - 1)))))))) zm λc557=>.done c557)))
def Qq1(p0:Q8)(p1:H6):Sp (Bool):=oF [0,1,3,4,5,67,69,98,115,150] Tryz.func122 [.snap (A7 p0),.agg (G3.c p1)] (Qe1 p0 p1) (λr=>.bool r)
def Qm6(p0:List H6)(p1:Q8):TT (Int):=.QC 1 (.lp (λ(l559:Int)=>Ext.l .normal [(0,Sl 8 G3 p0),(1,.fn 122 [.snap (A7 p1)] []),(4,.i 0),(7,.i (I3 G3 p0)),(8,.i l559)] []) (λl559=>.br 0 (decide (l559 < (I3 G3 p0))) (.row 4004 G3 p0 l559.toNat (decide (0<=l559)) λx560=>.cl 4006 (Qq1 p1 x560) λr561=>.br 0 r561 (.done (.inr (.inl l559))) (.done (.inl (Q0 (l559+1))))) (.done (.inr (.inr ())))) 0) (λ(e562:Int)=>Ext.l .ret [(4,.i e562)] []) (λ(e563:Unit)=>Ext.l (.exit 0) [(4,.i 0)] []) (λe562=>.done e562) (λe563=>.done (-1))
def vZ(p0:List H6)(p1:Q8):Sp (Int):=oF [0,1,4,5,7,8,9,16] Tryz.func177 [Sl 8 G3 p0,.fn 122 [.snap (A7 p1)] []] (Qm6 p0 p1) (λr=>.int .i64 r)
def Qe2(p0:List H6)(p1:Q8):TT (Bool):=.cl 1003 (vZ p0 p1) λr564=>.done (decide ((0:Int)<=r564))
def Qq2(p0:List H6)(p1:Q8):Sp (Bool):=oF [0,1,4] Tryz.func120 [Sl 8 G3 p0,.fn 122 [.snap (A7 p1)] []] (Qe2 p0 p1) (λr=>.bool r)
def g65(p0:Q8):TT (Bool):=.bind 0 (.br 0 (p0.fe.fq==2) (.view 3007 (TW [p0.fe.gb]) [] λr512=>.done r512) (.done (decide (p0.fe.gb=zg)))) (λ(e513:Bool)=>Ext.l .normal [(0,.snap (A7 p0)),(2,.bool false),(3,.bool e513)] []) (λe513=>.bind 0 (.br 0 (p0.fe.fo==7) (.gh 0 (.Qs 33 600014) (.done [2,4,6,9,10])) (.gh 0 (.Qs 26 600014) (.done [0]))) (λ(e514:(List Int))=>Ext.of .normal [(0,.snap (A7 p0)),(2,.bool false),(3,.bool e513),(4,Rf 600014 e514)] [] [Bt 600014 Q5 1 e514] (by rfl)) (λe514=>.Zz 7 [5] (.an 7009 (decide ((I3 Z7 p0.fe.fJ)<=8)) (.cl 7014 (Sz p0.fe.fJ) λr526=>.done (!r526))) zm λc527=>.Zz 8 [6] (.an 8008 (decide ((0:Int)<=p0.fe.fk)) (.an 8016 (decide (p0.fe.fk<=1099511627776)) (.view 8032 (TW [p0.fe.gc,p0.fe.fZ,p0.fe.fA]) [] λr528=>.an 8035 r528 (.an 8038 e513 (.an 8041 c527 (.cl 8046 (lZ p0.fe.fh) λr529=>.done r529)))))) zm λc530=>.Zz 9 [2] (.an 9003 c530 (.cl 9008 (lQ p0.fe.fy) λr531=>.an 9012 (r531==0) (.view 9018 (Qq3 e514 p0.fe.ga) [(Zp.o 600014 Q5 e514)] λr539=>.an 9021 r539 (.cl 9021 Qxh λr540=>.cl 9024 (Qq2 r540 p0) λr565=>.done r565)))) zm λc566=>.done c566))
def s65(p0:Q8):Sp (Bool):=oF [0,2,3,4,5,6,18,32] Tryz.func65 [.snap (A7 p0)] (g65 p0) (λr=>.bool r)
def g28(p0:Q2):TT (Int):=.gh 4 (.tell 3 [(H8 (E8 p0) [.str zg,.sl false 3 (List.map Z1.c [])])]) (.view 2001 (s65 (Q8.mk p0 zg [])) [] λr512=>.br 0 (!r512) (.done 200) (.done 0))
def cV(p0:Q2):Sp (Int):=oF [0,1,2,3,7] Tryz.func28 [.agg (E8 p0)] (g28 p0) (λr=>.int .i64 r)
def g60(p0:List ze):TT Unit:=.app 3003 Z7 [] p0 16 true (by intros;rfl) (.done ())
theorem Qav:Y1 Tryz.prog GG [2] 8 (Ex Tryz.f60.body) (Ext.l .normal [(2,.Qu)] []) (.done ():TT Unit) (λ_=>Ext.l .ret [(2,.Qu)] []):=by unfold Y1;kernel_rfl
theorem Qi0(p0:List ze):Y1 Tryz.prog GG [0,2,5,6,7] 8 (Km Tryz.f60.body) (Ext.l .normal [(0,.sl false 1 (List.map Z7.c p0)),(2,.Qu)] []) (g60 p0) (λ_=>Ext.of .ret [(2,.ref 7 0 ([]++p0).length)] [] [BT.of 7 Z7 1 ([]++p0)] (by rfl)):=by unfold Y1;kernel_rfl
theorem k60(p0:(List ze)){r:Unit}(h:(g60 p0).run=some r):QR Tryz.prog GG 60 [.sl false 1 (List.map Z7.c p0)] (Qm []) (.ref 7 0 p0.length) (Qm [(7,⟨1,true,List.map Z7.c p0⟩)]):=
 Rb (ty:=Z7) (ops0:=Lx Tryz.f60.body) (ops1:=Ld Tryz.f60.body) (yes:=Ex Tryz.f60.body) (rest:=Km Tryz.f60.body) (t:=40) Q9 (by decide) Tryz.func60 (by kernel_rfl) (by kernel_rfl) (by kernel_rfl) (by kernel_rfl) (by kernel_rfl) (by kernel_rfl) (by kernel_rfl) (by kernel_rfl) (by kernel_rfl) Qav (Qi0 p0) (by rfl) h
def s60(p0:List ze):Sp Unit:=⟨60,[Sl 1 Z7 p0],[],(g60 p0).run,λ_=>Rf 7 p0,λ_=>[(7,⟨1,true,List.map Z7.c p0⟩)],[7],λ_ p hp _=>by rw[wG.1 hp];exact Z7.data _,λ_ h=>k60 p0 h⟩
def g30(p0:Int)(p1 p2 p3 p4 p5:ze)(p6:List ze)(p7:Int):TT (Q2×Int):=.call 1009 (s60 p6) [] [(7,500015)] λr513=>.cl 1010 s66 λr514=>.view 2002 (cV (Q2.mk p0 1 p7 p1 p2 p3 p4 p5 p6 0 zg (K7.mk zg zg zg) zg [] r514 0)) [(Zp.o 500015 Z7 p6)] λr515=>.br 0 (r515 != 0) (.done ((Q2.mk 0 0 0 zg zg zg zg zg [] 0 zg (K7.mk zg zg zg) zg [] (Y0.mk 0 0 0) 0),2)) (.cl 4002 (s46 p2) λr516=>.cl 5002 (s67 p1) λr517=>.Zz 6 [55] (.oR 6004 (r517.2 != 0) (.done (!decide (r517.1=r516.1.fH)))) zm λc518=>.br 0 c518 (.done ((Q2.mk 0 0 0 zg zg zg zg zg [] 0 zg (K7.mk zg zg zg) zg [] (Y0.mk 0 0 0) 0),2)) (.gh 0 (.share (Zp.o 500015 Z7 p6) 1) (.done ((Q2.mk p0 1 p7 p1 p2 p3 p4 p5 p6 0 zg (K7.mk zg zg zg) zg [] r514 0),0))))
def s30(p0:Int)(p1 p2 p3 p4 p5:ze)(p6:List ze)(p7:Int):Sp (Q2×Int):=oF [0,1,2,3,4,5,6,7,16,17,18,19,21,22,36,55] Tryz.func30 [.i p0,.str p1,.str p2,.str p3,.str p4,.str p5,Sl 1 Z7 p6,.i p7] (g30 p0 p1 p2 p3 p4 p5 p6 p7) (λr=>.Qc [.agg (E8 r.1),.i r.2])
def OC(p:Q8):List V:=(A7 p)
def s57(p0:Bool)(p1:Int):Sp (Unit):=oF [0,1,5] Tryz.func57 [.bool p0,.i p1] (.br 0 (!p0) (.fail) (.done ()):TT (Unit)) (λr=>.Qc [])
def Qki(p0:ze)(p1:Int):TT (ze):=.cl 1004 (s57 (p1==0) p1) λr521=>.done p0
def Fz(p0:ze)(p1:Int):Sp (ze):=oF [0,1,4] Tryz.func213 [.str p0,.i p1] (Qki p0 p1) (λr=>.str r)
def Qj3(p0:Q8):TT (ze):=.cl 1006 (s67 p0.fe.fZ) λr520=>.cl 1009 (Fz r520.1 r520.2) λr522=>.done r522
def jO(p0:Q8):Sp (ze):=oF [0,2] Tryz.func160 [.snap (A7 p0)] (Qj3 p0) (λr=>.str r)
def Qkl(p0:Y0)(p1:Int):TT (Y0):=.cl 1004 (s57 (p1==0) p1) λr527=>.done p0
def tO(p0:Y0)(p1:Int):Sp (Y0):=oF [0,1,2,4] Tryz.func211 [.agg [.i p0.fE,.i p0.fY,.i p0.fL],.i p1] (Qkl p0 p1) (λr=>.agg [.i r.fE,.i r.fY,.i r.fL])
def Qj4(p0 p1:Int)(p2:ze)(p3:Q8):TT (Int×Int×Int×Int×(List Z0)):=.cl 3002 s66 λr524=>.Zz 4 [54] (.an 4004 (p0 != 1) (.done (p0 != 6))) zm λc525=>.br 0 c525 (.cl 5007 (tI p3.fe.fk) λr526=>.cl 5010 (tO r526.1 r526.2) λr528=>.gh 0 (.share (Zp.o 30 Z1 [(Z0.mk p1 p3.fe.fm p2)]) 0) (.gh 0 (.share (Zp.o 32 Z1 [(Z0.mk p1 p3.fe.fm p2)]) 0) (.done (r528.fE,r528.fY,r528.fL,(Q0 (p3.fe.fm+1)),[(Z0.mk p1 p3.fe.fm p2)])))) (.gh 0 (.share (Zp.o 30 Z1 [(Z0.mk p1 p3.fe.fm p2)]) 0) (.gh 0 (.share (Zp.o 32 Z1 [(Z0.mk p1 p3.fe.fm p2)]) 0) (.done (r524.fE,r524.fY,r524.fL,(Q0 (p3.fe.fm+1)),[(Z0.mk p1 p3.fe.fm p2)]))))
def Fj(p0 p1:Int)(p2:ze)(p3:Q8):Sp (Int×Int×Int×Int×(List Z0)):=.Ze 159 [] Q9 Tryz.func159 rfl (λ_=>rfl) (show JT Pg GG [0,1,2,3,8,9,54] Tryz.f159 [.ptr zE 0 0,.i p0,.i p1,.str p2] (Ext.of .normal (U7 [.ptr zE 0 0,.i p0,.i p1,.str p2]) [(zE,⟨22,true,[(A7 p3)]⟩)] [] (by rfl)) (Qj4 p0 p1 p2 p3) (λ(r:Int×Int×Int×Int×(List Z0))=>.agg [.i p1,.i p3.fe.fm,.str p2]) (λ(r:Int×Int×Int×Int×(List Z0))=>Ext.of .normal [] [(zE,⟨22,true,[(A7 { p3 with fe:={ p3.fe with fo:=p0,fm:=r.2.2.2.1,fM:=r.q,fy:=⟨r.1,r.2.1,r.2.2.1⟩ },QL:=r.q })]⟩)] [] (by rfl)) by unfold JT;kernel_rfl)
def Qj9(p0:Q8):TT (Int×Int×(List Z0)×Int×Int×Int):=.view 8 (jO p0) [] λr523=>.Ql 9 (decide (p0.fe.fA.size+r523.size<=9223372036854775807)) (.call 10 (Fj 2 1 (p0.fe.fA++r523) p0) [(zE,zE)] [] λr529=>.done (2,r529.2.2.2.1,r529.q,r529.1,r529.2.1,r529.2.2.1))
def Qha(p0:Q8):Sp (Int×Int×(List Z0)×Int×Int×Int):=.Ze 106 [] Q9 Tryz.func106 rfl (λ_=>rfl) (show JT Pg GG [0] Tryz.f106 [.ptr zE 0 0] (Ext.of .normal (U7 [.ptr zE 0 0]) [(zE,⟨22,true,[(A7 p0)]⟩)] [] (by rfl)) (Qj9 p0) (λ(r:Int×Int×(List Z0)×Int×Int×Int)=>.Qc []) (λ(r:Int×Int×(List Z0)×Int×Int×Int)=>Ext.of .normal [] [(zE,⟨22,true,[(A7 { p0 with fe:={ p0.fe with fo:=r.1,fm:=r.2.1,fM:=r.2.2.1,fy:=⟨r.2.2.2.1,r.q.1,r.q.2⟩ },QL:=r.2.2.1 })]⟩)] [] (by rfl)) by unfold JT;kernel_rfl)
def eZ(p0:Bool)(p1:Int):TT ((Unit)⊕(Unit)):=.br 0 (!p0) (.Qq 1003 (Qh.Zh 124 (.tmp 7) 8 (.agg [.int .i64 p1]) (.agg #[.int .i64 p1]) rfl (by kernel_rfl)) λ_=>.Hn 1004 (.done (.inr ()))) (.done (.inl ()))
theorem Qwo(p0:Bool)(p1:Int):Hi Tryz.prog GG [0,1,5] Tryz.f57 [.bool p0,.i p1] (Ext.of .normal (U7 [.bool p0,.i p1]) [] [] (by rfl)) (eZ p0 p1) (λ(_:Unit)=>.Qc []) (λ(r:Unit)=>Ext.of .normal [] [] [] (by rfl)) (λ(r:Unit)=>K3 (.iface 124 (.agg #[.int .i64 p1]))) (λ(r:Unit)=>Ext.of .normal [] [] [] (by rfl)):=by unfold Hi;kernel_rfl
def X8(p0:Bool)(p1:Int):O8 Tryz.prog GG (Unit) (Unit):=.ofFn 57 [] Q9 Tryz.func57 rfl (λ_=>rfl) (λ_=>rfl) (Qwo p0 p1)
def Qyn(p0:Z0)(p1:Q8):TT (ze):=.Ql 2021 (decide ((strOfNums [(Qk p0.fw),(Qk (Z3 .i64 (p0.fI.size:Int) 16)),(Qk (Z3 .i64 (p0.fI.size:Int) 8)),(Qk (p0.fI.size:Int))]).size+p0.fI.size<=9223372036854775807)) (.Ql 2022 (decide (p1.fe.fD.size+((strOfNums [(Qk p0.fw),(Qk (Z3 .i64 (p0.fI.size:Int) 16)),(Qk (Z3 .i64 (p0.fI.size:Int) 8)),(Qk (p0.fI.size:Int))])++p0.fI).size<=9223372036854775807)) (.done (p1.fe.fD++((strOfNums [(Qk p0.fw),(Qk (Z3 .i64 (p0.fI.size:Int) 16)),(Qk (Z3 .i64 (p0.fI.size:Int) 8)),(Qk (p0.fI.size:Int))])++p0.fI))))
def Ah(p0:Z0)(p1:Q8):Sp (ze):=.Ze 214 [] Q9 Tryz.func214 rfl (λ_=>rfl) (show JT Pg GG [0,1,3,4] Tryz.f214 [.ptr zE 0 0,.agg (Z1.c p0)] (Ext.of .normal (U7 [.ptr zE 0 0,.agg (Z1.c p0)]) [(zE,⟨22,true,[(A7 p1)]⟩)] [] (by rfl)) (Qyn p0 p1) (λ(r:ze)=>.Qc []) (λ(r:ze)=>Ext.of .normal [] [(zE,⟨22,true,[(A7 { p1 with fe:={ p1.fe with fD:=r } })]⟩)] [] (by rfl)) by unfold JT;kernel_rfl)
def Qj2(p0:ze)(p1:Q8):TT ((Int×Int×ze×(List Z0)×Int×Int×Int)⊕(Int)):=.Qa 4 (X8 ((p0.size:Int)==32) 5) [] [] (λr530=>.Qa 1007 (X8 (decide (p1.fe.fm < 7)) 3) [] [] (λr531=>.view 2008 (jO p1) [] λr532=>.Ql 2009 (decide (p1.fe.fA.size+r532.size<=9223372036854775807)) (.Ql 2011 (decide ((p1.fe.fA++r532).size+p0.size<=9223372036854775807)) (.call 2012 (Fj 3 1 ((p1.fe.fA++r532)++p0) p1) [(zE,zE)] [] λr533=>.call 4003 (Ah (Z0.mk 1 p1.fe.fm ((p1.fe.fA++r532)++p0)) { p1 with fe:={ p1.fe with fo:=3,fm:=r533.2.2.2.1,fD:=zg,fM:=r533.q,fy:=Y0.mk r533.1 r533.2.1 r533.2.2.1 },QL:=r533.q }) [(zE,zE)] [] λr534=>.done (.inl (3,r533.2.2.2.1,r534,r533.q,r533.1,r533.2.1,r533.2.2.1))))) (λr535=>.done (.inr 3))) (λr536=>.done (.inr 5))
theorem Qi8(p0:ze)(p1:Q8):Hi Tryz.prog GG [0,1,4] Tryz.f161 [.ptr 1000000 0 0,.str p0] (Ext.of .normal (U7 [.ptr 1000000 0 0,.str p0]) [(1000000,⟨22,true,[(A7 p1)]⟩)] [] (by rfl)) (Qj2 p0 p1) (λ(r:Int×Int×ze×(List Z0)×Int×Int×Int)=>.Qc []) (λ(r:Int×Int×ze×(List Z0)×Int×Int×Int)=>Ext.of .normal [] [(1000000,⟨22,true,[(A7 { p1 with fe:={ p1.fe with fo:=r.1,fm:=r.2.1,fD:=r.2.2.1,fM:=r.2.2.2.1,fy:=⟨r.q.1,r.q.2.1,r.q.2.2⟩ },QL:=r.2.2.2.1 })]⟩)] [] (by rfl)) (λ(r:Int)=>K3 (.iface 124 (.agg #[.int .i64 r]))) (λ(r:Int)=>Ext.of .normal [] [(1000000,⟨22,true,[(A7 p1)]⟩)] [] (by rfl)):=by unfold Hi;kernel_rfl
def vI(p0:ze)(p1:Q8):O8 Pg GG (Int×Int×ze×(List Z0)×Int×Int×Int) (Int):=.ofFn 161 [] Q9 Tryz.func161 rfl (λ_=>rfl) (λ_=>rfl) (Qi8 p0 p1)
def Qyg(p0:ze)(p1:Q8):TT ((ze×ze×Int×Int×Int)⊕(Bool×Int)):=.cl 1002 (s46 p0) λr538=>.Qa 2003 (X8 (r538.2==0) 5) [] [] (λr539=>.cl 3012 (tH r538.1 p1.fe.fJ p1.fe.fk) λr540=>.br 0 (r540 != 0) (.Qq 5003 (Qh.Zh 171 (.tmp 31) 32 (.agg [.int .i64 r540]) (.agg #[.int .i64 r540]) rfl (by kernel_rfl)) λ_=>.Hn 5004 (.done (.inr (true,r540)))) (.done (.inl (r538.1.fp,r538.1.fH,r538.1.fC,r538.1.fB,r538.1.fP)))) (λr541=>.done (.inr (false,5)))
theorem Qi2(p0:ze)(p1:Q8):Hi Tryz.prog GG [0,1,4,5,6,7,29] Tryz.f215 [.ptr 1000000 0 0,.str p0] (Ext.of .normal (U7 [.ptr 1000000 0 0,.str p0]) [(1000000,⟨22,true,[(A7 p1)]⟩)] [] (by rfl)) (Qyg p0 p1) (λ(r:ze×ze×Int×Int×Int)=>.agg [.str r.1,.str r.2.1,.i r.2.2.1,.i r.2.2.2.1,.i r.q]) (λ(r:ze×ze×Int×Int×Int)=>Ext.of .normal [] [(1000000,⟨22,true,[(A7 p1)]⟩)] [] (by rfl)) (λ(r:Bool×Int)=>K3 (.iface (bif r.1 then 171 else 124) (.agg #[.int .i64 r.2]))) (λ(r:Bool×Int)=>Ext.of .normal [] [(1000000,⟨22,true,[(A7 p1)]⟩)] [] (by rfl)):=by unfold Hi;kernel_rfl
def tA(p0:ze)(p1:Q8):O8 Pg GG (ze×ze×Int×Int×Int) (Bool×Int):=.ofFn 215 [] Q9 Tryz.func215 rfl (λ_=>rfl) (λ_=>rfl) (Qi2 p0 p1)
def Qyl(p0 p1:ze):TT ((ze)⊕(Int)):=.cl 1003 (tU p0 p1) λr543=>.br 0 (r543.2 != 0) (.Qq 3003 (Qh.Zh 171 (.tmp 16) 17 (.agg [.int .i64 r543.2]) (.agg #[.int .i64 r543.2]) rfl (by kernel_rfl)) λ_=>.Hn 3004 (.done (.inr r543.2))) (.done (.inl r543.1))
theorem Qi1(p0 p1:ze):Hi Tryz.prog GG [0,1,4,5,6,14] Tryz.f217 [.str p0,.str p1] (Ext.of .normal (U7 [.str p0,.str p1]) [] [] (by rfl)) (Qyl p0 p1) (λ(r:ze)=>.str r) (λ(r:ze)=>Ext.of .normal [] [] [] (by rfl)) (λ(r:Int)=>K3 (.iface 171 (.agg #[.int .i64 r]))) (λ(r:Int)=>Ext.of .normal [] [] [] (by rfl)):=by unfold Hi;kernel_rfl
def jE(p0 p1:ze):O8 Pg GG (ze) (Int):=.ofFn 217 [] Q9 Tryz.func217 rfl (λ_=>rfl) (λ_=>rfl) (Qi1 p0 p1)
def Qyf(p0 p1 p2 p3:ze)(p4:Q8):TT (ze):=.Ql 4 (decide (p0.size+p1.size<=9223372036854775807)) (.Ql 7 (decide (p2.size+p3.size<=9223372036854775807)) (.cl 8 (s94 (p0++p1) (p2++p3) (bs [116,97,110,110,111,121,32,109,97,115,116,101,114]) 32) λr548=>.cl 11 (Fz r548.1 r548.2) λr549=>.done r549))
def tX(p0 p1 p2 p3:ze)(p4:Q8):Sp (ze):=.Ze 216 [] Q9 Tryz.func216 rfl (λ_=>rfl) (show JT Pg GG [0,1,2,3,4] Tryz.f216 [.ptr zE 0 0,.str p0,.str p1,.str p2,.str p3] (Ext.of .normal (U7 [.ptr zE 0 0,.str p0,.str p1,.str p2,.str p3]) [(zE,⟨22,true,[(A7 p4)]⟩)] [] (by rfl)) (Qyf p0 p1 p2 p3 p4) (λ(r:ze)=>.Qc []) (λ(r:ze)=>Ext.of .normal [] [(zE,⟨22,true,[(A7 { p4 with fe:={ p4.fe with fF:=r } })]⟩)] [] (by rfl)) by unfold JT;kernel_rfl)
def Qyo(p0:Q8)(p1 p2:ze):TT (ze):=.cl 1007 (s94 p0.fe.fF zg p1 32) λr552=>.cl 1010 (Fz r552.1 r552.2) λr553=>.cl 2003 (s95 p2) λr554=>.cl 2006 (Fz r554.1 r554.2) λr555=>.cl 2007 (s96 r553 r555) λr556=>.cl 2010 (Fz r556.1 r556.2) λr557=>.done r557
def jM(p0:Q8)(p1 p2:ze):Sp (ze):=oF [0,1,2,6,7] Tryz.func218 [.snap (A7 p0),.str p1,.str p2] (Qyo p0 p1 p2) (λr=>.str r)
def Qj1(p0:ze)(p1:Q8):TT ((Q2×(List Z0))⊕(ze×ze×ze×Bool×Int)):=.Qa 4 (X8 (decide ((64:Int) < (p0.size:Int))) 5) [] [] (λr537=>.Ql 1003 (decide (0<=(64:Int))&&decide ((64:Int)<=(p0.size:Int))) (.Qa 1004 (tA (p0.extract 64 p0.size) p1) [(zE,zE)] [] (λr542=>.Ql 2003 (decide (0<=(32:Int))&&decide ((32:Int)<=(p0.size:Int))) (.Ql 2005 ((decide (0<=(64:Int))&&decide ((64:Int)<=(p0.size:Int)))&&true) (.Ql 2007 (decide (0<=(64:Int))&&decide ((64:Int)<=(p0.size:Int))) (.Qa 3009 (jE p1.fe.fZ r542.2.1) [] [] (λr544=>.Qa 3021 (jE p1.fe.gc (p0.extract 32 64)) [] [] (λr545=>.call 3033 (tX r544 r545 p1.fe.fA (p0.extract 0 32) { p1 with fe:={ p1.fe with fj:=K7.mk (p0.extract 0 32) (p0.extract 32 64) (p0.extract 64 p0.size) } }) [(zE,zE)] [] λr550=>.call 4004 (Ah (Z0.mk 3 0 p0) { p1 with fe:={ p1.fe with fj:=K7.mk (p0.extract 0 32) (p0.extract 32 64) (p0.extract 64 p0.size),fF:=r550 } }) [(zE,zE)] [] λr551=>.Ql 5014 (decide (r551.size+p1.fe.fh.size<=9223372036854775807)) (.view 5015 (jM { p1 with fe:={ p1.fe with fD:=r551,fj:=K7.mk (p0.extract 0 32) (p0.extract 32 64) (p0.extract 64 p0.size),fF:=r550 } } (bs [99,108,105,101,110,116]) (r551++p1.fe.fh)) [] λr558=>.Ql 5021 (decide (r558.size+p1.fe.fh.size<=9223372036854775807)) (.call 5022 (Fj 5 4 (r558++p1.fe.fh) { p1 with fe:={ p1.fe with fD:=r551,fj:=K7.mk (p0.extract 0 32) (p0.extract 32 64) (p0.extract 64 p0.size),fF:=r550 } }) [(zE,zE)] [] λr559=>.call 5023 (Ah (Z0.mk 4 p1.fe.fm (r558++p1.fe.fh)) { p1 with fe:={ p1.fe with fo:=5,fm:=r559.2.2.2.1,fD:=r551,fj:=K7.mk (p0.extract 0 32) (p0.extract 32 64) (p0.extract 64 p0.size),fF:=r550,fM:=r559.q,fy:=Y0.mk r559.1 r559.2.1 r559.2.2.1 },QL:=r559.q }) [(zE,zE)] [] λr560=>.done (.inl ({ p1.fe with fo:=5,fm:=r559.2.2.2.1,fD:=r560,fj:=K7.mk (p0.extract 0 32) (p0.extract 32 64) (p0.extract 64 p0.size),fF:=r550,fM:=r559.q,fy:=Y0.mk r559.1 r559.2.1 r559.2.2.1 },r559.q))))) (λr561=>.done (.inr ((p0.extract 0 32),(p0.extract 32 64),(p0.extract 64 p0.size),true,r561)))) (λr562=>.done (.inr ((p0.extract 0 32),(p0.extract 32 64),(p0.extract 64 p0.size),true,r562))))))) (λr563=>.done (.inr (p1.fe.fj.fA,p1.fe.fj.fQ,p1.fe.fj.fh,r563.1,r563.2))))) (λr564=>.done (.inr (p1.fe.fj.fA,p1.fe.fj.fQ,p1.fe.fj.fh,false,5)))
theorem Qi7(p0:ze)(p1:Q8):Hi Tryz.prog GG [0,1,4] Tryz.f162 [.ptr 1000000 0 0,.str p0] (Ext.of .normal (U7 [.ptr 1000000 0 0,.str p0]) [(1000000,⟨22,true,[(A7 p1)]⟩)] [] (by rfl)) (Qj1 p0 p1) (λ(r:Q2×(List Z0))=>.Qc []) (λ(r:Q2×(List Z0))=>Ext.of .normal [] [(1000000,⟨22,true,[(H8 (E8 r.1) [.str p1.QY,.sl false 3 (List.map Z1.c r.2)])]⟩)] [] (by rfl)) (λ(r:ze×ze×ze×Bool×Int)=>K3 (.iface (bif r.2.2.2.1 then 171 else 124) (.agg #[.int .i64 r.q]))) (λ(r:ze×ze×ze×Bool×Int)=>Ext.of .normal [] [(1000000,⟨22,true,[(A7 { p1 with fe:={ p1.fe with fj:=⟨r.1,r.2.1,r.2.2.1⟩ } })]⟩)] [] (by rfl)):=by unfold Hi;kernel_rfl
def vA(p0:ze)(p1:Q8):O8 Pg GG (Q2×(List Z0)) (ze×ze×ze×Bool×Int):=.ofFn 162 [] Q9 Tryz.func162 rfl (λ_=>rfl) (λ_=>rfl) (Qi7 p0 p1)
def Qj0(p0:ze)(p1:Q8):TT ((ze×Int×Int×Int)⊕(Bool×Int)):=.Qa 4 (X8 ((p0.size:Int)==32) 5) [] [] (λr565=>.view 1008 (jM p1 (bs [115,101,114,118,101,114]) p1.fe.fD) [] λr566=>.br 0 (!decide (p0=r566)) (.Qq 2002 (Qh.Zh 171 (.tmp 17) 18 (.agg [.int .i64 9]) (.agg #[.int .i64 9]) rfl (by kernel_rfl)) λ_=>.Hn 2003 (.done (.inr (true,9)))) (.call 3004 (Ah (Z0.mk 5 0 p0) p1) [(zE,zE)] [] λr567=>.cl 4004 s66 λr568=>.done (.inl (r567,r568.fE,r568.fY,r568.fL)))) (λr569=>.done (.inr (false,5)))
theorem Qi6(p0:ze)(p1:Q8):Hi Tryz.prog GG [0,1,16] Tryz.f163 [.ptr 1000000 0 0,.str p0] (Ext.of .normal (U7 [.ptr 1000000 0 0,.str p0]) [(1000000,⟨22,true,[(A7 p1)]⟩)] [] (by rfl)) (Qj0 p0 p1) (λ(r:ze×Int×Int×Int)=>.Qc []) (λ(r:ze×Int×Int×Int)=>Ext.of .normal [] [(1000000,⟨22,true,[[.i p1.fe.fq,.i 6,.i p1.fe.fk,.str p1.fe.gc,.str p1.fe.fh,.str p1.fe.fZ,.str p1.fe.fA,.str p1.fe.gb,.sl false 1 (List.map Z7.c p1.fe.fJ),.i p1.fe.fm,.str r.1,.str p1.fe.fj.fA,.str p1.fe.fj.fQ,.str p1.fe.fj.fh,.str p1.fe.fF,.Qu,.i r.2.1,.i r.2.2.1,.i r.2.2.2,.i p1.fe.ga,.str p1.QY,.sl false 3 (List.map Z1.c p1.QL)]]⟩)] [] (by rfl)) (λ(r:Bool×Int)=>K3 (.iface (bif r.1 then 171 else 124) (.agg #[.int .i64 r.2]))) (λ(r:Bool×Int)=>Ext.of .normal [] [(1000000,⟨22,true,[(A7 p1)]⟩)] [] (by rfl)):=by unfold Hi;kernel_rfl
def Qhd(p0:ze)(p1:Q8):O8 Pg GG (ze×Int×Int×Int) (Bool×Int):=.ofFn 163 [] Q9 Tryz.func163 rfl (λ_=>rfl) (λ_=>rfl) (Qi6 p0 p1)
def Qyv(p0:ze)(p1:Q8):TT ((Q2×(List Z0))⊕(Int)):=.br 5 ((p0.size:Int)==64) (.Qa 9 (X8 true 5) [] [] (λr570=>.Ql 1011 (decide (0<=(64:Int))&&decide ((64:Int)<=(p0.size:Int))) (.Ql 1012 (decide (p1.QY.size+(p0.extract 0 64).size<=9223372036854775807)) (.cl 1013 (s96 p1.fe.gb (p1.QY++(p0.extract 0 64))) λr571=>.cl 1016 (Fz r571.1 r571.2) λr572=>.Ql 2002 (decide (0<=(64:Int))&&decide ((64:Int)<=(p0.size:Int))) (.br 0 (!decide ((p0.extract 64 p0.size)=r572)) (.Qa 3007 (X8 (decide (p1.fe.fm < 6)) 3) [] [] (λr573=>.call 4003 (Fj 1 2 r572 p1) [(zE,zE)] [] λr574=>.done (.inl ({ p1.fe with fo:=1,fm:=r574.2.2.2.1,fM:=r574.q,fy:=Y0.mk r574.1 r574.2.1 r574.2.2.1 },r574.q))) (λr575=>.done (.inr 3))) (.Ql 5003 (decide (0<=(32:Int))&&decide ((32:Int)<=(p0.size:Int))) (.Ql 5005 ((decide (0<=(64:Int))&&decide ((64:Int)<=(p0.size:Int)))&&true) (.call 6004 (Ah (Z0.mk 1 0 p0) { p1 with fe:={ p1.fe with fj:=K7.mk (p0.extract 0 32) (p0.extract 32 64) zg } }) [(zE,zE)] [] λr576=>.view 7009 (jO { p1 with fe:={ p1.fe with fD:=r576,fj:=K7.mk (p0.extract 0 32) (p0.extract 32 64) zg } }) [] λr577=>.Ql 7010 (decide (p1.fe.fA.size+r577.size<=9223372036854775807)) (.Ql 7016 (decide ((p1.fe.fA++r577).size+p1.fe.fh.size<=9223372036854775807)) (.call 7017 (Fj 4 3 ((p1.fe.fA++r577)++p1.fe.fh) { p1 with fe:={ p1.fe with fD:=r576,fj:=K7.mk (p0.extract 0 32) (p0.extract 32 64) zg } }) [(zE,zE)] [] λr578=>.call 7018 (Ah (Z0.mk 3 p1.fe.fm ((p1.fe.fA++r577)++p1.fe.fh)) { p1 with fe:={ p1.fe with fo:=4,fm:=r578.2.2.2.1,fD:=r576,fj:=K7.mk (p0.extract 0 32) (p0.extract 32 64) zg,fM:=r578.q,fy:=Y0.mk r578.1 r578.2.1 r578.2.2.1 },QL:=r578.q }) [(zE,zE)] [] λr579=>.done (.inl ({ p1.fe with fo:=4,fm:=r578.2.2.2.1,fD:=r579,fj:=K7.mk (p0.extract 0 32) (p0.extract 32 64) zg,fM:=r578.q,fy:=Y0.mk r578.1 r578.2.1 r578.2.2.1 },r578.q))))))))))) (λr580=>.fail)) (.Qa 9 (X8 ((p0.size:Int)==96) 5) [] [] (λr581=>.Ql 1011 (decide (0<=(64:Int))&&decide ((64:Int)<=(p0.size:Int))) (.Ql 1012 (decide (p1.QY.size+(p0.extract 0 64).size<=9223372036854775807)) (.cl 1013 (s96 p1.fe.gb (p1.QY++(p0.extract 0 64))) λr582=>.cl 1016 (Fz r582.1 r582.2) λr583=>.Ql 2002 (decide (0<=(64:Int))&&decide ((64:Int)<=(p0.size:Int))) (.br 0 (!decide ((p0.extract 64 p0.size)=r583)) (.Qa 3007 (X8 (decide (p1.fe.fm < 6)) 3) [] [] (λr584=>.call 4003 (Fj 1 2 r583 p1) [(zE,zE)] [] λr585=>.done (.inl ({ p1.fe with fo:=1,fm:=r585.2.2.2.1,fM:=r585.q,fy:=Y0.mk r585.1 r585.2.1 r585.2.2.1 },r585.q))) (λr586=>.done (.inr 3))) (.Ql 5003 (decide (0<=(32:Int))&&decide ((32:Int)<=(p0.size:Int))) (.Ql 5005 ((decide (0<=(64:Int))&&decide ((64:Int)<=(p0.size:Int)))&&true) (.call 6004 (Ah (Z0.mk 1 0 p0) { p1 with fe:={ p1.fe with fj:=K7.mk (p0.extract 0 32) (p0.extract 32 64) zg } }) [(zE,zE)] [] λr587=>.view 7009 (jO { p1 with fe:={ p1.fe with fD:=r587,fj:=K7.mk (p0.extract 0 32) (p0.extract 32 64) zg } }) [] λr588=>.Ql 7010 (decide (p1.fe.fA.size+r588.size<=9223372036854775807)) (.Ql 7016 (decide ((p1.fe.fA++r588).size+p1.fe.fh.size<=9223372036854775807)) (.call 7017 (Fj 4 3 ((p1.fe.fA++r588)++p1.fe.fh) { p1 with fe:={ p1.fe with fD:=r587,fj:=K7.mk (p0.extract 0 32) (p0.extract 32 64) zg } }) [(zE,zE)] [] λr589=>.call 7018 (Ah (Z0.mk 3 p1.fe.fm ((p1.fe.fA++r588)++p1.fe.fh)) { p1 with fe:={ p1.fe with fo:=4,fm:=r589.2.2.2.1,fD:=r587,fj:=K7.mk (p0.extract 0 32) (p0.extract 32 64) zg,fM:=r589.q,fy:=Y0.mk r589.1 r589.2.1 r589.2.2.1 },QL:=r589.q }) [(zE,zE)] [] λr590=>.done (.inl ({ p1.fe with fo:=4,fm:=r589.2.2.2.1,fD:=r590,fj:=K7.mk (p0.extract 0 32) (p0.extract 32 64) zg,fM:=r589.q,fy:=Y0.mk r589.1 r589.2.1 r589.2.2.1 },r589.q))))))))))) (λr591=>.done (.inr 5)))
theorem Qi5(p0:ze)(p1:Q8):Hi Tryz.prog GG [0,1,4,33] Tryz.f164 [.ptr 1000000 0 0,.str p0] (Ext.of .normal (U7 [.ptr 1000000 0 0,.str p0]) [(1000000,⟨22,true,[(A7 p1)]⟩)] [] (by rfl)) (Qyv p0 p1) (λ(r:Q2×(List Z0))=>.Qc []) (λ(r:Q2×(List Z0))=>Ext.of .normal [] [(1000000,⟨22,true,[(H8 (E8 r.1) [.str p1.QY,.sl false 3 (List.map Z1.c r.2)])]⟩)] [] (by rfl)) (λ(r:Int)=>K3 (.iface 124 (.agg #[.int .i64 r]))) (λ(r:Int)=>Ext.of .normal [] [(1000000,⟨22,true,[(A7 p1)]⟩)] [] (by rfl)):=by unfold Hi;kernel_rfl
def vX(p0:ze)(p1:Q8):O8 Pg GG (Q2×(List Z0)) (Int):=.ofFn 164 [] Q9 Tryz.func164 rfl (λ_=>rfl) (λ_=>rfl) (Qi5 p0 p1)
def Qyt(p0:ze)(p1:Q8):TT ((Int×Int×ze×ze×ze×(List Z0)×Int×Int×Int)⊕(ze×Bool×Int)):=.Qa 4 (X8 (decide ((32:Int) < (p0.size:Int))) 5) [] [] (λr592=>.Ql 1002 (decide (0<=(32:Int))&&decide ((32:Int)<=(p0.size:Int))) (.Ql 1004 (decide (0<=(32:Int))&&decide ((32:Int)<=(p0.size:Int))) (.Qa 2003 (tA (p0.extract 32 p0.size) p1) [(zE,zE)] [] (λr593=>.Qa 3013 (jE p1.fe.gc p1.fe.fj.fQ) [] [] (λr594=>.Qa 3021 (jE p1.fe.fZ r593.2.1) [] [] (λr595=>.call 3033 (tX r594 r595 p1.fe.fj.fA p1.fe.fA p1) [(zE,zE)] [] λr598=>.Ql 4009 (decide (p1.fe.fD.size+(p0.extract 32 p0.size).size<=9223372036854775807)) (.view 4010 (jM { p1 with fe:={ p1.fe with fF:=r598 } } (bs [99,108,105,101,110,116]) (p1.fe.fD++(p0.extract 32 p0.size))) [] λr599=>.br 0 (!decide ((p0.extract 0 32)=r599)) (.Qq 5002 (Qh.Zh 171 (.tmp 62) 63 (.agg [.int .i64 9]) (.agg #[.int .i64 9]) rfl (by kernel_rfl)) λ_=>.Hn 5003 (.done (.inr (r598,true,9)))) (.call 7004 (Ah (Z0.mk 4 0 p0) { p1 with fe:={ p1.fe with fj:=K7.mk p1.fe.fj.fA p1.fe.fj.fQ (p0.extract 32 p0.size),fF:=r598 } }) [(zE,zE)] [] λr600=>.view 8009 (jM { p1 with fe:={ p1.fe with fD:=r600,fj:=K7.mk p1.fe.fj.fA p1.fe.fj.fQ (p0.extract 32 p0.size),fF:=r598 } } (bs [115,101,114,118,101,114]) r600) [] λr601=>.call 8010 (Fj 6 5 r601 { p1 with fe:={ p1.fe with fD:=r600,fj:=K7.mk p1.fe.fj.fA p1.fe.fj.fQ (p0.extract 32 p0.size),fF:=r598 } }) [(zE,zE)] [] λr602=>.call 8011 (Ah (Z0.mk 5 p1.fe.fm r601) { p1 with fe:={ p1.fe with fo:=6,fm:=r602.2.2.2.1,fD:=r600,fj:=K7.mk p1.fe.fj.fA p1.fe.fj.fQ (p0.extract 32 p0.size),fF:=r598,fM:=r602.q,fy:=Y0.mk r602.1 r602.2.1 r602.2.2.1 },QL:=r602.q }) [(zE,zE)] [] λr603=>.done (.inl (6,r602.2.2.2.1,r603,(p0.extract 32 p0.size),r598,r602.q,r602.1,r602.2.1,r602.2.2.1))))) (λr604=>.done (.inr (p1.fe.fF,true,r604)))) (λr605=>.done (.inr (p1.fe.fF,true,r605)))) (λr606=>.done (.inr (p1.fe.fF,r606.1,r606.2)))))) (λr607=>.done (.inr (p1.fe.fF,false,5)))
theorem Qi4(p0:ze)(p1:Q8):Hi Tryz.prog GG [0,1,4,5,6,61] Tryz.f165 [.ptr 1000000 0 0,.str p0] (Ext.of .normal (U7 [.ptr 1000000 0 0,.str p0]) [(1000000,⟨22,true,[(A7 p1)]⟩)] [] (by rfl)) (Qyt p0 p1) (λ(r:Int×Int×ze×ze×ze×(List Z0)×Int×Int×Int)=>.Qc []) (λ(r:Int×Int×ze×ze×ze×(List Z0)×Int×Int×Int)=>Ext.of .normal [] [(1000000,⟨22,true,[(A7 { p1 with fe:={ p1.fe with fo:=r.1,fm:=r.2.1,fD:=r.2.2.1,fj:={ p1.fe.fj with fh:=r.2.2.2.1 },fF:=r.q.1,fM:=r.q.2.1,fy:=⟨r.q.2.2.1,r.q.2.2.2.1,r.q.q⟩ },QL:=r.q.2.1 })]⟩)] [] (by rfl)) (λ(r:ze×Bool×Int)=>K3 (.iface (bif r.2.1 then 171 else 124) (.agg #[.int .i64 r.2.2]))) (λ(r:ze×Bool×Int)=>Ext.of .normal [] [(1000000,⟨22,true,[(A7 { p1 with fe:={ p1.fe with fF:=r.1 } })]⟩)] [] (by rfl)):=by unfold Hi;kernel_rfl
def vD(p0:ze)(p1:Q8):O8 Pg GG (Int×Int×ze×ze×ze×(List Z0)×Int×Int×Int) (ze×Bool×Int):=.ofFn 165 [] Q9 Tryz.func165 rfl (λ_=>rfl) (λ_=>rfl) (Qi4 p0 p1)
def Qmh(p0:Bool)(p1:Int):TT (Bool):=.cl 1004 (s57 (p1==0) p1) λr609=>.done p0
def vE(p0:Bool)(p1:Int):Sp (Bool):=oF [0,1,4] Tryz.func166 [.bool p0,.i p1] (Qmh p0 p1) (λr=>.bool r)
def Qj7(p0:Q8):TT ((Int×Int×Int×(List Z0))⊕(Unit)):=.cl 11 (oS p0.fe.fy p0.fe.fk) λr608=>.cl 14 (vE r608.1 r608.2) λr610=>.br 0 (!r610) (.done (.inl (p0.fe.fy.fE,p0.fe.fy.fY,p0.fe.fy.fL,p0.QL))) (.cl 1011 (vM p0.fe.fy p0.fe.fk) λr611=>.br 0 (r611.2 != 0) (.Qq 3002 (Qh.Zh 171 (.tmp 35) 36 (.agg [.int .i64 6]) (.agg #[.int .i64 6]) rfl (by kernel_rfl)) λ_=>.Hn 3003 (.done (.inr ()))) (.done (.inl (r611.1.fE,r611.1.fY,r611.1.fL,p0.fe.fM))))
theorem Qiy(p0:Q8):Hi Tryz.prog GG [0,2,3,18,34] Tryz.f108 [.ptr 1000000 0 0] (Ext.of .normal (U7 [.ptr 1000000 0 0]) [(1000000,⟨22,true,[(A7 p0)]⟩)] [] (by rfl)) (Qj7 p0) (λ(r:Int×Int×Int×(List Z0))=>.Qc []) (λ(r:Int×Int×Int×(List Z0))=>Ext.of .normal [] [(1000000,⟨22,true,[(A7 { p0 with fe:={ p0.fe with fy:=⟨r.1,r.2.1,r.2.2.1⟩ },QL:=r.2.2.2 })]⟩)] [] (by rfl)) (λ(r:Unit)=>K3 (.iface 171 (.agg #[.int .i64 6]))) (λ(r:Unit)=>Ext.of .normal [] [(1000000,⟨22,true,[(A7 p0)]⟩)] [] (by rfl)):=by unfold Hi;kernel_rfl
def Qhx(p0:Q8):O8 Pg GG (Int×Int×Int×(List Z0)) (Unit):=.ofFn 108 [] Q9 Tryz.func108 rfl (λ_=>rfl) (λ_=>rfl) (Qiy p0)
def Qjq(p0:Int)(p1:Q8):TT (Int×Int×Int):=.cl 11 s66 λr612=>.done (r612.fE,r612.fY,r612.fL)
def Qhi(p0:Int)(p1:Q8):Sp (Int×Int×Int):=.Ze 105 [] Q9 Tryz.func105 rfl (λ_=>rfl) (show JT Pg GG [0,1] Tryz.f105 [.ptr zE 0 0,.i p0] (Ext.of .normal (U7 [.ptr zE 0 0,.i p0]) [(zE,⟨22,true,[(A7 p1)]⟩)] [] (by rfl)) (Qjq p0 p1) (λ(r:Int×Int×Int)=>.Qc []) (λ(r:Int×Int×Int)=>Ext.of .normal [] [(zE,⟨22,true,[(H8 [.i p1.fe.fq,.i 7,.i p1.fe.fk,.str p1.fe.gc,.str p1.fe.fh,.str p1.fe.fZ,.str p1.fe.fA,.str p1.fe.gb,Sl 1 Z7 p1.fe.fJ,.i p1.fe.fm] (X7 5 (.str zg) [.Qu,.i r.1,.i r.2.1,.i r.2.2,.i p0,.str p1.QY,.Qu]))]⟩)] [] (by rfl)) by unfold JT;kernel_rfl)
noncomputable def cHn:Code:=Tryz.f107.body.getD .skip
def hnC:Code:=cL (cR cHn)
def Yb:Array Oper:=Oq hnC
theorem eHn:hnC=.region 1 Yb true:=by kernel_rfl
def QW(n:Int):V:=.int .i64 n
def pm:V:=.ptr 1000000 0 0
def Ih(f:FuncId):V:=.fn f [pm] []
def X9:List (Nat×List V×List V):=[(4,[QW 1,QW 2,QW 2],[Ih 161]),(8,[QW 1,QW 3,QW 2],[Ih 161]),(12,[QW 1,QW 3,QW 3],[Ih 162]),(16,[QW 1,QW 5,QW 5],[Ih 163]),(20,[QW 2,QW 1,QW 1],[Ih 164]),(24,[QW 2,QW 4,QW 4],[Ih 165])]
def Wg:List Nat:=[1,2,3,5,6,7,9,10,11,13,14,15,17,18,19,21,22,23,25,26,27,28,29,30,31,32,33,34,35,36,37,38,40]
def Oa(s t k:Int)(r:List V):Bool:=match r with
 | [.int _ a,.int _ b,.int _ c]=>s==a&&(t==b&&(k==c&&true))
 | _=>false
section
variable (s t k q:Int) (body:ze) (tl:List V) (res:V)
def Ej:List (Nat×V):=[(0,pm),(3,.ptr 3 0 0)]
def Qie:List (Nat×Qd):=[(1000000,⟨22,true,[.int .i64 s :: .int .i64 t :: tl]⟩),(3,⟨3,true,[[.int .i64 k,.int .i64 q,.str body]]⟩)]
def hnS:St:=D0 46 Ej (Qie s t k q body tl) [1000000,3]
def CH:List (Nat×V):=[(5,.mp 5),(6,.agg [QW 1,QW 2,QW 2]),(7,pm),(8,Ih 161),(9,.agg [QW 1,QW 3,QW 2]),(10,pm),(11,Ih 161),(12,.agg [QW 1,QW 3,QW 3]),(13,pm),(14,Ih 162),(15,.agg [QW 1,QW 5,QW 5]),(16,pm),(17,Ih 163),
 (18,.agg [QW 2,QW 1,QW 1]),(19,pm),(20,Ih 164),(21,.agg [QW 2,QW 4,QW 4]),(22,pm),(23,Ih 165),(24,.mp 5),(25,pm),(26,pm),(27,pm),(28,pm),(29,QW s),(30,pm),(31,pm),(32,pm),(33,.ptr 1000000 0 1),(34,QW t),(35,.ptr 3 0 0),(36,QW k),(37,.agg [QW s,QW t,QW k]),(38,res),(4,res)]
def Qwb:List (Nat×V):=Ej++CH s t k res
def mG:St:={ hnS s t k q body tl with t:=λi=>Zk (Qwb s t k res) i }
def hnR(i:Nat):List EV.Loc:=((HF Tryz.prog GG Yb i (mG s t k q body tl res)).map (·.1)).getD []
def hnD(i:Nat):Nat:=(Yk Yb i).getD 0
theorem Qyq:(Wg.map λi=>HF Tryz.prog GG Yb i (mG s t k q body tl res))=Wg.map λi=>some (hnR s t k q body tl res i,[.t (hnD i) ((mG s t k q body tl res).t (hnD i))]):=by kernel_rfl
theorem rZ:(Wg.all λi=>(hnR s t k q body tl res i).all λl=>match l with|.t x=>Wv Yb i x|.b b=>b != 5)=true:=by kernel_rfl
theorem Qws:(Wg.map λi=>Yk Yb i)=Wg.map λi=>some (hnD i):=by kernel_rfl
theorem Qim(x:Nat)(h:∀j,j < Yb.size->Yk Yb j≠some x):(mG s t k q body tl res).t x=(hnS s t k q body tl).t x:=by
 have hk:((CH s t k res).all λp=>(List.range Yb.size).any λj=>Yk Yb j==some p.1)=true:=by kernel_rfl
 show Zk (Ej++CH s t k res) x=Zk Ej x;grind [List.any_eq_true,List.all_eq_true,List.mem_of_find?_eq_some,Zk,CH,absurd]
theorem Qwn(hhit:∀x,x∈X9->Oa s t k x.2.1=true->I2 false x.2.2=res)(hmiss:(∀x,x∈X9->Oa s t k x.2.1=false)->V.Zd=res) :
  aP Tryz.prog GG Yb (hnS s t k q body tl) (mG s t k q body tl res) 5 0 39 25 (Qwk true false 3 1) 226 225 223 X9 (Wg.map λi=>(i,hnR s t k q body tl res i)) [QW s,QW t,QW k] res .Zd (Oa s t k) where
 cov:=by
  have h:((List.range Yb.size).all λi=>i==0 || (i==39 || ((X9.any λx=>x.1==i) || Wg.contains i)))=true:=by kernel_rfl
  intro i hi;have:=zJ.1 h i (by simpa using hi);simp only[zZ,beq_iff_eq,List.any_eq_true,wj,zI] at this;rcases this with h|h|h|h
  ·exact .inl h
  ·grind
  ·grind
  ·exact .inr (.inr (.inr ⟨(i,_),zM.2 ⟨i,h,rfl⟩,rfl⟩))
 guard:=by
  have h:(Yb.toList.all λo=>o.guard.isNone)=true:=by kernel_rfl
  intro i o ho;have:=zJ.1 h o (by rw[<-Array.getElem?_toList] at ho;exact zX ho);simpa using this
 sf:=Qim s t k q body tl res
 sfn:=rfl
 sfb:=λ_ _=>⟨rfl,rfl⟩
 fresh:=⟨by rfl,by rfl⟩
 step:=by
  intro x hx;obtain⟨i,hi,rfl⟩:=zM.1 hx;exact⟨hnD i,List.map_inj_left.1 Qws i hi,List.map_inj_left.1 (Qyq s t k q body tl res) i hi⟩
 reads:=by
  intro x hx l hl;obtain⟨i,hi,rfl⟩:=zM.1 hx;have:=zJ.1 (zJ.1 (rZ s t k q body tl res) i hi) l hl;grind
 make:=by
  have h:(Yb[0]?).map (λo=>(o.op,o.dst))=some (.makeMap 226 none,some 5):=by kernel_rfl
  obtain⟨o,ho,he⟩:=zF.1 h;exact⟨o,ho,congrArg Prod.fst he,congrArg Prod.snd he,by show 5 < 46;decide,by rfl,by decide⟩
 maps:=⟨by kernel_rfl,by kernel_rfl,by kernel_rfl,λh=>(by cases h),λ_=>(by rfl)⟩
 put:=by
  intro x hx;simp only[X9,zV,wa,or_false] at hx;rcases hx with rfl|rfl|rfl|rfl|rfl|rfl
  ·exact Eb.of 5 6 8 (by kernel_rfl) (by rfl) (by kernel_rfl) (by kernel_rfl) (by kernel_rfl) ⟨rfl,rfl,by rfl⟩ (by kernel_rfl) (by kernel_rfl) (by kernel_rfl)
  ·exact Eb.of 5 9 11 (by kernel_rfl) (by rfl) (by kernel_rfl) (by kernel_rfl) (by kernel_rfl) ⟨rfl,rfl,by rfl⟩ (by kernel_rfl) (by kernel_rfl) (by kernel_rfl)
  ·exact Eb.of 5 12 14 (by kernel_rfl) (by rfl) (by kernel_rfl) (by kernel_rfl) (by kernel_rfl) ⟨rfl,rfl,by rfl⟩ (by kernel_rfl) (by kernel_rfl) (by kernel_rfl)
  ·exact Eb.of 5 15 17 (by kernel_rfl) (by rfl) (by kernel_rfl) (by kernel_rfl) (by kernel_rfl) ⟨rfl,rfl,by rfl⟩ (by kernel_rfl) (by kernel_rfl) (by kernel_rfl)
  ·exact Eb.of 5 18 20 (by kernel_rfl) (by rfl) (by kernel_rfl) (by kernel_rfl) (by kernel_rfl) ⟨rfl,rfl,by rfl⟩ (by kernel_rfl) (by kernel_rfl) (by kernel_rfl)
  ·exact Eb.of 5 21 23 (by kernel_rfl) (by rfl) (by kernel_rfl) (by kernel_rfl) (by kernel_rfl) ⟨rfl,rfl,by rfl⟩ (by kernel_rfl) (by kernel_rfl) (by kernel_rfl)
 look:=by
  have h:(Yb[39]?).map (λo=>(o.op,o.dst))=some (.lookup 226 (.tmp 24) (.tmp 37) false,some 38):=by kernel_rfl
  obtain⟨o,ho,he⟩:=zF.1 h;refine⟨o,24,37,38,ho,congrArg Prod.fst he,congrArg Prod.snd he,by show 38 < 46;decide,by rfl,by rfl,by rfl,by kernel_rfl,by kernel_rfl,by kernel_rfl,?_,by kernel_rfl,?_⟩
  ·grind
  have h2:(X9.all λx=>Gj Yb 25 x.1)=true:=by kernel_rfl
  grind
 self:=by kernel_rfl
 hit:=hhit
 Qwh:=hmiss
 apart:=by
  refine⟨by decide,?_,?_,?_⟩
  ·have h:(X9.all λx=>x.1 != 0&&x.1 != 39)=true:=by rfl
   grind
  ·intro x hx;obtain⟨i,hi,rfl⟩:=zM.1 hx;have h:(Wg.all λi=>i != 0)=true:=by rfl
   grind
  ·intro x y hx hy e;simp only[X9,zV,wa,or_false] at hx hy;grind
end
def iA(p:Q8)(n:Z0)(ts:List (Nat×V)):Ext:=Ext.of .normal ts [(1000000,⟨22,true,[OC p]⟩),(3,⟨3,true,[(Z1.c n)]⟩)] [] (by rfl)
theorem Qwp(p:Q8)(n:Z0)(res:V)(hhit:∀x,x∈X9->Oa p.fe.fq p.fe.fo n.fw x.2.1=true->I2 false x.2.2=res)(hmiss:(∀x,x∈X9->Oa p.fe.fq p.fe.fo n.fw x.2.1=false)->V.Zd=res)
  (hE:(iA p n (Ej++[(4,res)])).ok=true) (hc:X1 8 res res=res) :
  TV Tryz.prog GG hnC ((iA p n Ej).D 46).st (λe st=>e=.normal/\QU GG st ((iA p n (Ej++[(4,res)])).D 46).st):=by
 rw[eHn];refine TV.rO (st:=((iA p n Ej).D 46).st) Q9 (by kernel_rfl) (Qwn p.fe.fq p.fe.fo n.fw n.fX n.fI ((OC p).drop 2) res hhit hmiss) λst hn ht hb'=>⟨rfl,W4 _ hE hn ⟨?_,?_⟩⟩
 ·show [(0,X1 8 pm (st.t 0)),(3,X1 8 (.ptr 3 0 0) (st.t 3)),(4,X1 8 res (st.t 4))]=[(0,pm),(3,.ptr 3 0 0),(4,res)];rw[ht 0,ht 3,ht 4]
  show [(0,pm),(3,.ptr 3 0 0),(4,X1 8 res res)]=_;rw[hc]
 ·show [(1000000,xW [] 1000000 ⟨22,true,[OC p]⟩ (st.b 1000000)),(3,xW [] 3 ⟨3,true,[(Z1.c n)]⟩ (st.b 3))]=_;rw[(hb' 1000000 (by decide)).1,(hb' 3 (by decide)).1];rfl
theorem FR(s t k a b c:Int):Oa s t k [QW a,QW b,QW c]=true↔s=a/\t=b/\k=c:=by simp[Oa,QW]
theorem Qwr(p:Q8)(n:Z0)(x0:Nat×List V×List V)(f:FuncId)(a b c:Int)(h0:x0∈X9)(hk:x0.2.1=[QW a,QW b,QW c])(hf:∀x,x∈X9->x.2.1=[QW a,QW b,QW c]->x.2.2=[Ih f])(hq:Oa p.fe.fq p.fe.fo n.fw [QW a,QW b,QW c]=true) :
  TV Tryz.prog GG hnC ((iA p n Ej).D 46).st (λe st=>e=.normal/\QU GG st ((iA p n (Ej++[(4,Ih f)])).D 46).st):=by
 refine Qwp p n (Ih f) (λx hx h=>?_) (λh=>?_) (by rfl) (by rfl)
 ·have hx':x.2.1=[QW a,QW b,QW c]:=by
   obtain⟨e1,e2,e3⟩:=(FR _ _ _ _ _ _).1 hq;rw[e1,e2,e3] at h;simp only[X9,zV,wa,or_false] at hx;rcases hx with rfl|rfl|rfl|rfl|rfl|rfl<;>(obtain⟨rfl,rfl,rfl⟩:=(FR _ _ _ _ _ _).1 h;rfl)
  rw[hf x hx hx'];rfl
 grind
def DZ(p:Q8)(n:Z0)(f:FuncId)(a b c:Int)(x0:Nat×List V×List V)(h0:x0∈X9)(hk:x0.2.1=[QW a,QW b,QW c])(hf:∀x,x∈X9->x.2.1=[QW a,QW b,QW c]->x.2.2=[Ih f]):Sub Tryz.prog GG Unit:=
 ⟨hnC,46,iA p n Ej,bif Oa p.fe.fq p.fe.fo n.fw [QW a,QW b,QW c] then some () else none,λ_=>iA p n (Ej++[(4,Ih f)]),λr h=>by
  cases hq:Oa p.fe.fq p.fe.fo n.fw [QW a,QW b,QW c] with
  | false=>grind
  | true=>exact Qwr p n x0 f a b c h0 hk hf hq⟩
def yL(p:Q8)(n:Z0):Sub Tryz.prog GG Unit:=
 ⟨hnC,46,iA p n Ej,bif X9.all λx=>!Oa p.fe.fq p.fe.fo n.fw x.2.1 then some () else none,λ_=>iA p n (Ej++[(4,.Zd)]),λr h=>by
  cases hq:X9.all λx=>!Oa p.fe.fq p.fe.fo n.fw x.2.1 with
  | false=>grind
  | true=>
   refine Qwp p n .Zd (λx hx h=>?_) (λ_=>rfl) (by rfl) (by rfl);grind⟩
def cX(p:Q8)(n:Z0):Sub Tryz.prog GG Unit:=DZ p n 161 1 2 2 (4,[QW 1,QW 2,QW 2],[Ih 161]) (by simp[X9]) rfl (by
 intro x hx h;simp only[X9,zV,wa,or_false] at hx;rcases hx with rfl|rfl|rfl|rfl|rfl|rfl<;>first|rfl|(simp[QW] at h))
def cE(p:Q8)(n:Z0):Sub Tryz.prog GG Unit:=DZ p n 161 1 3 2 (8,[QW 1,QW 3,QW 2],[Ih 161]) (by simp[X9]) rfl (by
 intro x hx h;simp only[X9,zV,wa,or_false] at hx;rcases hx with rfl|rfl|rfl|rfl|rfl|rfl<;>first|rfl|(simp[QW] at h))
def cM(p:Q8)(n:Z0):Sub Tryz.prog GG Unit:=DZ p n 162 1 3 3 (12,[QW 1,QW 3,QW 3],[Ih 162]) (by simp[X9]) rfl (by
 intro x hx h;simp only[X9,zV,wa,or_false] at hx;rcases hx with rfl|rfl|rfl|rfl|rfl|rfl<;>first|rfl|(simp[QW] at h))
def cK(p:Q8)(n:Z0):Sub Tryz.prog GG Unit:=DZ p n 163 1 5 5 (16,[QW 1,QW 5,QW 5],[Ih 163]) (by simp[X9]) rfl (by
 intro x hx h;simp only[X9,zV,wa,or_false] at hx;rcases hx with rfl|rfl|rfl|rfl|rfl|rfl<;>first|rfl|(simp[QW] at h))
def cW(p:Q8)(n:Z0):Sub Tryz.prog GG Unit:=DZ p n 164 2 1 1 (20,[QW 2,QW 1,QW 1],[Ih 164]) (by simp[X9]) rfl (by
 intro x hx h;simp only[X9,zV,wa,or_false] at hx;rcases hx with rfl|rfl|rfl|rfl|rfl|rfl<;>first|rfl|(simp[QW] at h))
def cH(p:Q8)(n:Z0):Sub Tryz.prog GG Unit:=DZ p n 165 2 4 4 (24,[QW 2,QW 4,QW 4],[Ih 165]) (by simp[X9]) rfl (by
 intro x hx h;simp only[X9,zV,wa,or_false] at hx;rcases hx with rfl|rfl|rfl|rfl|rfl|rfl<;>first|rfl|(simp[QW] at h))
def Qj8(p0:Z0)(p1:Q8):TT ((Q2×(List Z0))⊕(ze×ze×ze×ze×Bool×Int)):=.br 999999 (Oa p1.fe.fq p1.fe.fo p0.fw [QW 1,QW 2,QW 2]) (.br 990001 true (.sub (cX p1 p0) λr641=>.Qa 2003 (X8 true 8) [] [] (λr642=>.Qa 3004 (vI p0.fI p1) [(zE,zE)] [] (λr643=>.done (.inl ({ p1.fe with fo:=r643.1,fm:=r643.2.1,fD:=r643.2.2.1,fM:=r643.2.2.2.1,fy:=Y0.mk r643.q.1 r643.q.2.1 r643.q.2.2 },r643.2.2.2.1))) (λr644=>.done (.inr (p1.fe.fj.fA,p1.fe.fj.fQ,p1.fe.fj.fh,p1.fe.fF,false,r644)))) (λr645=>.fail)) (.fail)) (.br 999999 (Oa p1.fe.fq p1.fe.fo p0.fw [QW 1,QW 3,QW 2]) (.br 990001 true (.sub (cE p1 p0) λr636=>.Qa 2003 (X8 true 8) [] [] (λr637=>.Qa 3004 (vI p0.fI p1) [(zE,zE)] [] (λr638=>.done (.inl ({ p1.fe with fo:=r638.1,fm:=r638.2.1,fD:=r638.2.2.1,fM:=r638.2.2.2.1,fy:=Y0.mk r638.q.1 r638.q.2.1 r638.q.2.2 },r638.2.2.2.1))) (λr639=>.done (.inr (p1.fe.fj.fA,p1.fe.fj.fQ,p1.fe.fj.fh,p1.fe.fF,false,r639)))) (λr640=>.fail)) (.fail)) (.br 999999 (Oa p1.fe.fq p1.fe.fo p0.fw [QW 1,QW 3,QW 3]) (.br 990001 true (.sub (cM p1 p0) λr631=>.Qa 2003 (X8 true 8) [] [] (λr632=>.Qa 3004 (vA p0.fI p1) [(zE,zE)] [] (λr633=>.done (.inl (r633.1,r633.2))) (λr634=>.done (.inr (r634.1,r634.2.1,r634.2.2.1,p1.fe.fF,r634.2.2.2.1,r634.q)))) (λr635=>.fail)) (.fail)) (.br 999999 (Oa p1.fe.fq p1.fe.fo p0.fw [QW 1,QW 5,QW 5]) (.br 990001 true (.sub (cK p1 p0) λr626=>.Qa 2003 (X8 true 8) [] [] (λr627=>.Qa 3004 (Qhd p0.fI p1) [(zE,zE)] [] (λr628=>.gh 0 (.tell zE [(X7 15 .undef [.sl false 3 (List.map Z1.c []),.undef,.undef,.undef,.undef,.undef,.undef])]) (.done (.inl ({ p1.fe with fo:=6,fD:=r628.1,fM:=[],fy:=Y0.mk r628.2.1 r628.2.2.1 r628.2.2.2 },p1.QL)))) (λr629=>.done (.inr (p1.fe.fj.fA,p1.fe.fj.fQ,p1.fe.fj.fh,p1.fe.fF,r629.1,r629.2)))) (λr630=>.fail)) (.fail)) (.br 999999 (Oa p1.fe.fq p1.fe.fo p0.fw [QW 2,QW 1,QW 1]) (.br 990001 true (.sub (cW p1 p0) λr621=>.Qa 2003 (X8 true 8) [] [] (λr622=>.Qa 3004 (vX p0.fI p1) [(zE,zE)] [] (λr623=>.done (.inl (r623.1,r623.2))) (λr624=>.done (.inr (p1.fe.fj.fA,p1.fe.fj.fQ,p1.fe.fj.fh,p1.fe.fF,false,r624)))) (λr625=>.fail)) (.fail)) (.br 999999 (Oa p1.fe.fq p1.fe.fo p0.fw [QW 2,QW 4,QW 4]) (.br 990001 true (.sub (cH p1 p0) λr616=>.Qa 2003 (X8 true 8) [] [] (λr617=>.Qa 3004 (vD p0.fI p1) [(zE,zE)] [] (λr618=>.done (.inl ({ p1.fe with fo:=r618.1,fm:=r618.2.1,fD:=r618.2.2.1,fj:=K7.mk p1.fe.fj.fA p1.fe.fj.fQ r618.2.2.2.1,fF:=r618.q.1,fM:=r618.q.2.1,fy:=Y0.mk r618.q.2.2.1 r618.q.2.2.2.1 r618.q.q },r618.q.2.1))) (λr619=>.done (.inr (p1.fe.fj.fA,p1.fe.fj.fQ,p1.fe.fj.fh,r619.1,r619.2.1,r619.2.2)))) (λr620=>.fail)) (.fail)) (.br 990001 true (.sub (yL p1 p0) λr613=>.Qa 2003 (X8 false 8) [] [] (λr614=>.fail) (λr615=>.done (.inr (p1.fe.fj.fA,p1.fe.fj.fQ,p1.fe.fj.fh,p1.fe.fF,false,8)))) (.fail)))))))
theorem Qij(p0:Z0)(p1:Q8):Hi Tryz.prog GG [0,1,3,4] Tryz.f107 [.ptr 1000000 0 0,.agg (Z1.c p0)] (Ext.of .normal (U7 [.ptr 1000000 0 0,.agg (Z1.c p0)]) [(1000000,⟨22,true,[(A7 p1)]⟩)] [] (by rfl)) (Qj8 p0 p1) (λ(r:Q2×(List Z0))=>.Qc []) (λ(r:Q2×(List Z0))=>Ext.of .normal [] [(1000000,⟨22,true,[(H8 (E8 r.1) [.str p1.QY,.sl false 3 (List.map Z1.c r.2)])]⟩)] [] (by rfl)) (λ(r:ze×ze×ze×ze×Bool×Int)=>K3 (.iface (bif r.q.1 then 171 else 124) (.agg #[.int .i64 r.q.2]))) (λ(r:ze×ze×ze×ze×Bool×Int)=>Ext.of .normal [] [(1000000,⟨22,true,[(A7 { p1 with fe:={ p1.fe with fj:=⟨r.1,r.2.1,r.2.2.1⟩,fF:=r.2.2.2.1 } })]⟩)] [] (by rfl)):=by unfold Hi;kernel_rfl
def Qq8(p0:Z0)(p1:Q8):O8 Pg GG (Q2×(List Z0)) (ze×ze×ze×ze×Bool×Int):=.ofFn 107 [] Q9 Tryz.func107 rfl (λ_=>rfl) (λ_=>rfl) (Qij p0 p1)
structure Q6 where
 fw:Int
 fk:Int
 fC:ze
 fO:Z0
noncomputable def bQ:Code:=Tryz.f62.body.getD .skip
def Qio(p:Q8)(v:Q6):TT (Unit):=
 .done ()
def qA(p:Q8)(v:Q6):Ext:=Ext.of .normal [(0,.ptr 1000000 0 0),(1,.agg [.i v.fw,.i v.fk,.str v.fC,.i v.fO.fw,.i v.fO.fX,.str v.fO.fI])] [(1000000,⟨22,true,[(A7 p)]⟩)] [] (by rfl)
def GD(p:Q8)(v:Q6):(Unit)->Ext:=λ(r:Unit)=>Ext.of .normal [(2,.ptr 2 0 0),(3,.ptr 3 0 0)] [(2,⟨1,true,[[.ptr 1000000 0 0]]⟩),(3,⟨6,true,[[.i v.fw,.i v.fk,.str v.fC,.i v.fO.fw,.i v.fO.fX,.str v.fO.fI]]⟩),(1000000,⟨22,true,[(A7 p)]⟩)] [] (by rfl)
theorem Qal(p:Q8)(v:Q6):Y1 Tryz.prog GG [0,1,2,3] 52 (cL bQ) (qA p v) (Qio p v) (GD p v):=by unfold Y1;kernel_rfl
def eQ(p:Q8)(v:Q6):TT ((Q2×(List Z0))⊕(ze×ze×ze×ze×Bool×Int)):=
 .br 0 (v.fw==1)
 (.br 4008 (p.fe.fq==1)
  (.Qa 4015 (X8 (p.fe.fo==1) 8) [] [] (λr646=>
    .call 5002 (Qha p) [(1000000,2000000)] [] λr648=>
    .done (.inl ({ p.fe with fo:=r648.1,fm:=r648.2.1,fM:=r648.2.2.1,fy:=Y0.mk r648.2.2.2.1 r648.q.1 r648.q.2 },r648.2.2.1)))
   (λr649=>
    .done (.inr (p.fe.fj.fA,p.fe.fj.fQ,p.fe.fj.fh,p.fe.fF,false,8))))
  (.Qa 4015 (X8 false 8) [] [] (λr650=>
    .fail)
   (λr651=>
    .done (.inr (p.fe.fj.fA,p.fe.fj.fQ,p.fe.fj.fh,p.fe.fF,false,8)))))
 (.br 0 (v.fw==2)
  (.Qa 7004 (Qq8 v.fO p) [(1000000,2000000)] [] (λr652=>
    .done (.inl (r652.1,r652.2)))
   (λr653=>
    .done (.inr (r653.1,r653.2.1,r653.2.2.1,r653.2.2.2.1,r653.q.1,r653.q.2))))
  (.br 0 (v.fw==3)
   (.Qa 9002 (Qhx p) [(1000000,2000000)] [] (λr654=>
     .done (.inl ({ p.fe with fy:=Y0.mk r654.1 r654.2.1 r654.2.2.1 },r654.2.2.2)))
    (λr655=>
     .done (.inr (p.fe.fj.fA,p.fe.fj.fQ,p.fe.fj.fh,p.fe.fF,true,6))))
   (.br 0 (v.fw==4)
    (.br 0 (p.fe.fq==2)
     (.done (.inl (p.fe,p.fe.fM)))
     (.done (.inl (p.fe,p.QL))))
    (.done (.inl (p.fe,p.QL))))))
def qX(p:Q8)(v:Q6):Ext:=Ext.of .normal [(2,.ptr 1000002 0 0),(3,.ptr 1000003 0 0),(4,.fn 104 [] [.ptr 1000002 0 0])] [(1000002,⟨1,true,[[.ptr 2000000 0 0]]⟩),(1000003,⟨6,true,[[.i v.fw,.i v.fk,.str v.fC,.i v.fO.fw,.i v.fO.fX,.str v.fO.fI]]⟩),(2000000,⟨22,true,[(A7 p)]⟩)] [] (by rfl)
def LJ(p:Q8)(v:Q6)(r:Q2×(List Z0)):Ext:=Ext.of .normal [(2,.ptr 1000002 0 0)] [(1000002,⟨1,true,[[.ptr 2000000 0 0]]⟩),(1000003,⟨6,true,[[.i v.fw,.i v.fk,.str v.fC,.i v.fO.fw,.i v.fO.fX,.str v.fO.fI]]⟩),(2000000,⟨22,true,[(H8 (E8 r.1) [.str p.QY,.sl false 3 (List.map Z1.c r.2)])]⟩)] [] (by rfl)
def LY(p:Q8)(v:Q6)(r:ze×ze×ze×ze×Bool×Int):Ext:=Ext.of (.panic (K3 (.iface (bif r.q.1 then 171 else 124) (.agg #[.int .i64 r.q.2])))) [(2,.ptr 1000002 0 0)] [(1000002,⟨1,true,[[.ptr 2000000 0 0]]⟩),(1000003,⟨6,true,[[.i v.fw,.i v.fk,.str v.fC,.i v.fO.fw,.i v.fO.fX,.str v.fO.fI]]⟩),(2000000,⟨22,true,[(A7 { p with fe:={ p.fe with fj:=⟨r.1,r.2.1,r.2.2.1⟩,fF:=r.2.2.2.1 } })]⟩)] [] (by rfl)
theorem Qao(p:Q8)(v:Q6):Y1 Tryz.prog GG [2,3,4,6,7,26,32,36,43] 52 (cR (cR bQ)) (qX p v) (eQ p v) (Sum.elim (LJ p v) (LY p v)):=by unfold Y1;kernel_rfl
def sR:Array Oper:=Oq (cL (cR bQ))
def Rx:Oper:=(sR[0]?).get (by kernel_rfl)
def dH:Oper:=(sR[1]?).get (by kernel_rfl)
theorem eEv:Tryz.f62.body=some ([cL bQ].foldr Code.seq (.seq (.region 1 #[Rx,dH] false) (cR (cR bQ)))):=by kernel_rfl
noncomputable def cEc:Code:=Tryz.f104.body.getD .skip
def Qeg:Array Oper:=Oq (cL cEc)
def Qo2:Oper:=(Qeg[0]?).get (by kernel_rfl)
theorem eEc:Tryz.f104.body=some (.seq (.region 0 #[Qo2] false) (cR cEc)):=by kernel_rfl
def Bq(e:Int):Value:=.iface 171 (.agg #[.int .i64 e])
def UT(e:Int):Value:=.iface 124 (.agg #[.int .i64 e])
def Us(v:Q6):List V:=[.int .i64 v.fw,.int .i64 v.fk,.str v.fC,.int .i64 v.fO.fw,.int .i64 v.fO.fX,.str v.fO.fI]
def Du(p:Q8)(v:Q6):List (Nat×Qd):=[(1000002,⟨1,true,[[.ptr 2000000 0 0]]⟩),(1000003,⟨6,true,[Us v]⟩),(2000000,⟨22,true,[OC p]⟩)]
def Mo:List V:=[.ptr 1000002 0 0]
def xEc(rv:Value)(h:Wl rv=true)(p:Q8)(v:Q6):Ext:=Ext.of .normal [(0,.ptr 1000002 0 0),(4,.Zh rv)] (Du p v) [] (by rfl)
def Te(p:Q8)(v:Q6):Ext:=Ext.of .normal [] (Du p v) [] (by rfl)
def dZ(p:Q8)(e:Int)(q:Int×Int×Int):Q8:=⟨⟨p.fe.fq,7,p.fe.fk,p.fe.gc,p.fe.fh,p.fe.fZ,p.fe.fA,p.fe.gb,p.fe.fJ,p.fe.fm,zg,⟨zg,zg,zg⟩,zg,[],⟨q.1,q.2.1,q.2.2⟩,e⟩,p.QY,[]⟩
def Qil:TT Unit:=.Qq 3001 (Qh.Qel 20 20 (.tmp 4) 6 (by kernel_rfl)) λ_=>.tt (.done ())
theorem Qaf(p:Q8)(v:Q6):Y1 Tryz.prog GG [0,4,6] 14 (cR cEc) (xEc .nilIface rfl p v) Qil (λ_=>Te p v):=by unfold Y1;kernel_rfl
theorem asF(e:Int)(w:World):∃v,(Instr.typeAssert (Bq e) 20 171 true).run Tryz.prog w=.ok (.tuple #[v,.bool true]) w/\∀γ bs u,Qz γ w bs u (.agg [.int .i64 e]) v:=⟨.agg #[.int .i64 e],by kernel_rfl,λ_ _ _=>.agg [.int .i64 e] [.int .i64 e] rfl λi c x hc hx=>by
 match i,hc,hx with
 | 0,hc,hx=>simp at hc hx;subst hc;subst hx;exact .data (.int _ _)
 | n+1,hc,hx=>simp at hc⟩
theorem asE(e:Int)(w:World):∃v,(Instr.typeAssert (UT e) 20 171 true).run Tryz.prog w=.ok (.tuple #[v,.bool false]) w/\∀γ bs u,Qz γ w bs u (.agg [.int .i64 0]) v:=⟨.agg #[.int .i64 0],by kernel_rfl,λ_ _ _=>.agg [.int .i64 0] [.int .i64 0] rfl λi c x hc hx=>by
 match i,hc,hx with
 | 0,hc,hx=>simp at hc hx;subst hc;subst hx;exact .data (.int _ _)
 | n+1,hc,hx=>simp at hc⟩
def rU(p:Q8)(e:Int):TT (Int×Int×Int):=.Qq 3001 (Qh.dD 20 20 (.tmp 4) 6 171 (.agg #[.int .i64 e]) (by kernel_rfl)) λ_=>.ff (.Qq 5001 (Qh.asserted (.tmp 4) 20 171 7 (Bq e) true (.agg [.int .i64 e]) (.agg [.int .i64 0]) λw=>by
 simp_all [asF]) λ_=>.tt (.call 7004 (Qhi e p) [(1000000,2000000)] [] λq=>.gh 0 (.tell 2000000 [[.undef,.undef,.undef,.undef,.undef,.undef,.undef,.undef,.undef,.undef,.undef,.undef,.undef,.undef,.undef,.sl false 3 [],.undef,.undef,.undef,.undef,.undef,.sl false 3 []]]) (.done q)))
theorem Qag(p:Q8)(v:Q6)(e:Int):Y1 Tryz.prog GG [0,1,2,3,4,5,6,8,9] 14 (cR cEc) (xEc (Bq e) rfl p v) (rU p e) (λq=>Te (dZ p e q) v):=by unfold Y1;kernel_rfl
def Qif(e:Int):TT Unit:=.Qq 3001 (Qh.dD 20 20 (.tmp 4) 6 124 (.agg #[.int .i64 e]) (by kernel_rfl)) λ_=>.ff (.Qq 5001 (Qh.asserted (.tmp 4) 20 171 7 (UT e) false (.agg [.int .i64 e]) (.agg [.int .i64 0]) λw=>by
 simp_all [asE]) λ_=>.ff (.Hn 2002 (.done ())))
theorem Qan(p:Q8)(v:Q6)(e:Int):Y1 Tryz.prog GG [0,1,2,3,4,5,6,8,9] 14 (cR cEc) (xEc (UT e) rfl p v) (Qif e) (λ_=>Ext.of (.panic (K3 (UT e))) [] (Du p v) [] (by rfl)):=by unfold Y1;kernel_rfl
theorem dK(p:Q8)(v:Q6):∀b k,Qm (Du p v) b=some k->X6 b=true:=λb k h=>by
 obtain⟨q,h1,rfl,_⟩:=Yg h;simp only[Du,zV,wa,or_false] at h1;rcases h1 with rfl|rfl|rfl
 ·grind [X6]
 ·grind [X6]
 grind [X6]
theorem ecD{u u':FrameMode}{rv:Value}(hi:Wl rv=true){p:Q8}{v:Q6}{kp:List Nat}{ρ:Type}{g:TT ρ}{E:ρ->Ext}{r:ρ}{ee:Value->Ending}{outs:zj}(hr:WM u rv u')(k:Y1 Tryz.prog GG kp 14 (cR cEc) (xEc rv hi p v) g E)(hg:g.run=some r)(hok:(E r).ok=true)
  (hex:(ee=.returned/\(E r).ex=.normal)\/∃ch,ee=(λ_=>.panicked ch)/\(E r).ex=.panic ch) (hb:∀b k,outs b=some k->Qm (E r).bs b=some k) :
  WX Tryz.prog GG 104 Mo (Qm (Du p v)) u ee u' outs:=by
 refine DF (n:=14) (l:=[]) (t1:=4) (rv:=rv) (S1:=((xEc rv hi p v).D 14).st) (ex:=λe=>e=(E r).ex) Tryz.func104 eEc (by kernel_rfl) rfl rfl (by kernel_rfl) (by kernel_rfl) (by kernel_rfl) (by decide) hi hr (by kernel_rfl) (U8.nil ⟨rfl,W4 (xEc rv hi p v) (by rfl) rfl ⟨by rfl,by rfl⟩⟩) ?_ ?_
 ·have h:=k.tv Q9 hg hok;exact h.mono λe s hq=>⟨hq.1,_,hq.2,λb k hk=>hb b k hk⟩
 ·rcases hex with⟨h1,h2⟩|⟨ch,h1,h2⟩
  ·grind
  simp_all
abbrev EvA:=Q2×List Z0
abbrev EvB:=ze×ze×ze×ze×Bool×Int
def evM(p:Q8)(r:EvA):Q8:=⟨r.1,p.QY,r.2⟩
def sN(p:Q8)(r:EvB):Q8:=⟨⟨p.fe.fq,p.fe.fo,p.fe.fk,p.fe.gc,p.fe.fh,p.fe.fZ,p.fe.fA,p.fe.gb,p.fe.fJ,p.fe.fm,p.fe.fD,⟨r.1,r.2.1,r.2.2.1⟩,r.2.2.2.1,p.fe.fM,p.fe.fy,p.fe.ga⟩,p.QY,p.QL⟩
def XX(p:Q8)(v:Q6):Ext:=Ext.of .normal [(2,.ptr 1000002 0 0),(3,.ptr 1000003 0 0)] (Du p v) [] (by rfl)
def LH(p:Q8)(v:Q6):Ext:=Ext.of .normal [] [(2,⟨1,true,[[.ptr 1000000 0 0]]⟩),(3,⟨6,true,[Us v]⟩),(1000000,⟨22,true,[OC p]⟩)] [] (by rfl)
def Ek(p:Q8):List (Nat×Qd):=[(1000000,⟨22,true,[OC p]⟩)]
theorem Qed{x:Ext}(h:x.us=[1000002,1000003,2000000]):(x.D 52).st.u=Qw:=funext λb=>by
 show (x.us.contains b || Qw b)=Qw b;rw[h];by_cases h1:b=1000002
 ·subst h1;rfl
 ·by_cases h2:b=1000003
  ·subst h2;rfl
  ·by_cases h3:b=2000000
   ·subst h3;rfl
   grind
theorem Bz(p:Q8)(v:Q6){q:EvA⊕EvB}{x:Ext}{u u' M:FrameMode}{ee EE:Value->Ending}{p1 p2:Q8}{res:V}{outs:zj}(hx:Sum.elim (LJ p v) (LY p v) q=x)(h2:(eQ p v).run=some q)(hok:x.ok=true)(hl:Go.EV.Left u x.ex)(hbs:(x.D 52).st.b=Qm (Du p1 v))(hus:x.us=[1000002,1000003,2000000])
  (hD:WX Tryz.prog GG 104 Mo (Qm (Du p1 v)) u ee u' (Qm (Du p2 v))) (hM:∀z,settled u' (ee z)=M) (hne:∀z,ee z≠.outgrown) (houts:∀b k,outs b=some k->Qm (LH p2 v).bs b=some k)
  (hend:(M=.returning/\EE=.returned/\res=.Qc [])\/∃ch,M=.panicking ch/\EE=(λ_=>.panicked ch)/\res=.undef) :
  WD Tryz.prog GG 62 [.ptr 1000000 0 0,.agg (Us v)] (Qm (Ek p)) EE res outs:=by
 subst hx;have e0:U4 52 [.ptr 1000000 0 0,.agg (Us v)] (Qm (Ek p))=((qA p v).D 52).st:=(B6 (x:=qA p v) (by rfl) (by rfl) 52).symm;have t0:=(Qal p v).tv Q9 (r:=()) rfl (by rfl);have t2:=(Qao p v).tv Q9 h2 hok;have hsh:QU GG ((GD p v ()).D 52).st.shift ((XX p v).D 52).st:=by
  have eT:((GD p v ()).ts.map λp=>(p.1,W1 sh p.2))=(XX p v).ts:=by kernel_rfl
  have eB:((GD p v ()).bs.map λp=>(sh p.1,p.2.Qs sh))=(XX p v).bs:=by kernel_rfl
  rw[Up,eT,eB];exact W4 (XX p v) (by rfl) rfl ⟨by rfl,by rfl⟩
 have hU:QU GG ⟨52,((Sum.elim (LJ p v) (LY p v) q).D 52).st.t,Qm (Du p2 v),λ_=>true⟩ ((LH p2 v).D 52).st.shift:=by
  have eT:((LH p2 v).ts.map λp=>(p.1,W1 sh p.2))=(Te p2 v).ts:=by kernel_rfl
  have eB:((LH p2 v).bs.map λp=>(sh p.1,p.2.Qs sh))=(Te p2 v).bs:=by kernel_rfl
  rw[Up,eT,eB,<-aV (x:=Te p2 v) _ (by rfl)];exact W4 (Te p2 v) (by rfl) rfl ⟨by rfl,by rfl⟩
 have st5:B8 Tryz.prog GG #[Rx,dH] 0 ((XX p v).D 52).st (((XX p v).D 52).st.put (some 4) (.fn 104 [] Mo)):=Zv (by rfl)
 have g0:E0 #[Rx,dH] ((XX p v).D 52).st Rx=some true:=by rfl
 have h0:I7 Tryz.prog GG Rx ((XX p v).D 52).st (((XX p v).D 52).st.put (some 4) (.fn 104 [] Mo)):=by
  unfold B8 at st5;simp only[show (#[Rx,dH]:Array Oper)[0]?=some Rx from rfl] at st5;rcases st5 with⟨_,h⟩|⟨h,_⟩
  ·exact h
  ·rw[g0] at h;simp at h
 have gB:QU GG (((XX p v).D 52).st.put (some 4) (.fn 104 [] Mo)) ((qX p v).D 52).st:=W4 (qX p v) (by rfl) rfl ⟨by rfl,by rfl⟩;refine DL (As:=[cL bQ]) (rest:=cR (cR bQ)) (rid:=1) (t:=4) (n:=52) (o0:=Rx) (o1:=dH) (caps:=Mo) (insD:=Qm (Du p1 v)) (outsD:=Qm (Du p2 v)) (S0:=((GD p v ()).D 52).st) (S1:=((XX p v).D 52).st) (S2:=((Sum.elim (LJ p v) (LY p v) q).D 52).st) (Sx:=((LH p2 v).D 52).st) (u:=u) (u':=u')
  Tryz.func62 eEv (by kernel_rfl) ?_ hsh h0 g0 (by kernel_rfl) (by kernel_rfl) (by rfl) (TV.ghost gB t2) hl (λc hc=>?_) (show 4 < 52 by decide) ⟨hbs,Qed hus⟩ (by grind [dK]) Tryz.func104 (by kernel_rfl) (by kernel_rfl) hD hM hne hU (Yj (ts:=(LH p2 v).ts) (bs:=(LH p2 v).bs) (us:=(LH p2 v).us) (by rfl) (by rfl)) rfl houts ?_
 ·rw[e0];show TV _ _ (cL bQ) _ _;exact t0
 ·simp only[Mo,zV,wa,or_false] at hc;subst hc;exact⟨1000002,_,rfl,by decide,rfl⟩
 ·rcases hend with⟨h1,h2,rfl⟩|h
  ·exact .inl ⟨h1,h2,by kernel_rfl,λγ w v h=>Qz.Is (γ:=γ) (γ':=γ) (by grind) h (by rfl)⟩
  grind
def evR(p:Q8)(v:Q6):Option (Q8⊕Int):=match (eQ p v).run with
 | some (.inl r)=>some (.inl (evM p r))
 | some (.inr r)=>bif r.q.1 then (match (rU (sN p r) r.q.2).run with|some q=>some (.inl (dZ (sN p r) r.q.2 q))|none=>none) else some (.inr r.q.2)
 | none=>none
def dW(e:Int):List PanicEntry:=[{ v:=UT e,recovered:=false },{ v:=UT e,recovered:=true }]
theorem Qea(p:Q8)(v:Q6){p':Q8}(h:evR p v=some (.inl p')):QR Tryz.prog GG 62 [.ptr 1000000 0 0,.agg (Us v)] (Qm (Ek p)) (.Qc []) (Qm (Ek p')):=by
 have sub:∀p2:Q8,∀b k,Qm (Ek p2) b=some k->Qm (LH p2 v).bs b=some k:=λp2 b k hk=>by
  obtain⟨z,h1,rfl,rfl⟩:=Yg hk;simp only[Ek,zV,wa,or_false] at h1;subst h1;rfl
 unfold evR at h;split at h
 ·rename_i r hr;obtain rfl:=Sum.inl.inj (wh h);exact Bz p v (p1:=evM p r) (p2:=evM p r) (u:=.returning) (u':=.returning) (M:=.returning) (ee:=.returned) (EE:=.returned) rfl hr (by rfl) (.inr (.inl ⟨rfl,rfl⟩)) rfl rfl (ecD rfl (.inl ⟨rfl,rfl,rfl⟩) (Qaf (evM p r) v) (r:=()) rfl (by rfl) (.inl ⟨rfl,rfl⟩) λ_ _ h=>h) (λ_=>rfl) (λ_ h=>by cases h) (sub _) (.inl ⟨rfl,rfl,rfl⟩)
 ·rename_i r hr;cases hf:r.q.1 with
  | false=>grind
  | true=>
   rw[hf] at h;simp only[cond_true] at h;split at h
   ·rename_i q hq;obtain rfl:=Sum.inl.inj (wh h);refine Bz p v (p1:=sN p r) (p2:=dZ (sN p r) r.q.2 q) (u:=.panicking (K3 (Bq r.q.2))) (u':=.panicking [{ v:=Bq r.q.2,recovered:=true }]) (M:=.returning) (ee:=.returned) (EE:=.returned) rfl hr (by rfl) (.inr (.inr ⟨_,rfl,?_⟩)) rfl rfl (ecD rfl (.inr ⟨Bq r.q.2,[],rfl,rfl,rfl⟩) (Qag (sN p r) v r.q.2) hq (by rfl) (.inl ⟨rfl,rfl⟩) λ_ _ h=>h) (λ_=>rfl) (λ_ h=>by cases h) (sub _) (.inl ⟨rfl,rfl,rfl⟩);grind [K3,Bq]
   ·cases h
 ·cases h
theorem Qje(p:Q8)(v:Q6){e:Int}(h:evR p v=some (.inr e)):WD Tryz.prog GG 62 [.ptr 1000000 0 0,.agg (Us v)] (Qm (Ek p)) (λ_=>.panicked (dW e)) .undef Oh:=by
 unfold evR at h;split at h
 ·cases h
 ·rename_i r hr;cases hf:r.q.1 with
  | true=>
   grind
  | false=>
   rw[hf] at h;obtain rfl:=Sum.inr.inj (wh h);refine Bz p v (p1:=sN p r) (p2:=sN p r) (u:=.panicking (K3 (UT r.q.2))) (u':=.panicking [{ v:=UT r.q.2,recovered:=true }]) (M:=.panicking (dW r.q.2)) (ee:=λ_=>.panicked (K3 (UT r.q.2))) (EE:=λ_=>.panicked (dW r.q.2)) rfl hr (by rfl) (.inr (.inr ⟨_,rfl,?_⟩)) rfl rfl (ecD rfl (.inr ⟨UT r.q.2,[],rfl,rfl,rfl⟩) (Qan (sN p r) v r.q.2) (r:=()) rfl (by rfl) (.inr ⟨_,rfl,rfl⟩) λ_ _ h=>h) (λ_=>rfl) (λ_ h=>by cases h) (by grind [Oh]) (by grind);grind [K3,UT]
 ·cases h
def cS(v:Q6)(p:Q8):O8 Pg GG Q8 Int:=⟨62,[.ptr zE 0 0,.agg (Us v)],Ek p,evR p v,λ_=>.Qc [],Ek,dW,λ_=>[],[],λ_ _ _ h=>by simp at h,λ_ _ _ h=>by simp at h,λ_ h=>Qea p v h,λ_ h=>Qje p v h⟩
def cG(b:Bool)(e:Int):List PanicEntry:=bif b then dW e else K3 (UT e)
noncomputable def sV:Code:=Tryz.f24.body.getD .skip
def Qix(s:Q2)(v:Q6):TT (Unit):=
 .done ()
def qE(s:Q2)(v:Q6):Ext:=Ext.of .normal [(0,.agg (E8 s)),(1,.agg [.i v.fw,.i v.fk,.str v.fC,.i v.fO.fw,.i v.fO.fX,.str v.fO.fI])] [] [] (by rfl)
def GM(s:Q2)(v:Q6):(Unit)->Ext:=λ(r:Unit)=>Ext.of .normal [(2,.ptr 2 0 0),(3,.ptr 3 0 0),(4,.ptr 4 0 0),(5,.ptr 5 0 0),(6,.ptr 6 0 0)] [(2,⟨20,true,[(E8 s)]⟩),(3,⟨6,true,[[.i v.fw,.i v.fk,.str v.fC,.i v.fO.fw,.i v.fO.fX,.str v.fO.fI]]⟩),(4,⟨20,true,[(H8 [.i 0,.i 0,.i 0] (X7 5 (.str zg) (H8 [.Qu,.i 0] (X7 5 (.str zg) (H8 [.Qu] (X7 4 (.int .i64 0) []))))))]⟩),(5,⟨1,true,[[.Qu]]⟩),(6,⟨1,true,[[.i 0]]⟩)] [] (by rfl)
theorem Qa4(s:Q2)(v:Q6):Y1 Tryz.prog GG [0,1,2,3,4,5,6] 76 (cL sV) (qE s v) (Qix s v) (GM s v):=by unfold Y1;kernel_rfl
def g61(p0:List Z0):TT Unit:=.app 3003 Z1 [] p0 32 true (by intros;rfl) (.done ())
theorem Qac:Y1 Tryz.prog GG [2] 8 (Ex Tryz.f61.body) (Ext.l .normal [(2,.Qu)] []) (.done ():TT Unit) (λ_=>Ext.l .ret [(2,.Qu)] []):=by unfold Y1;kernel_rfl
theorem Qat(p0:List Z0):Y1 Tryz.prog GG [0,2,5,6,7] 8 (Km Tryz.f61.body) (Ext.l .normal [(0,.sl false 3 (List.map Z1.c p0)),(2,.Qu)] []) (g61 p0) (λ_=>Ext.of .ret [(2,.ref 7 0 ([]++p0).length)] [] [BT.of 7 Z1 3 ([]++p0)] (by rfl)):=by unfold Y1;kernel_rfl
theorem k61(p0:(List Z0)){r:Unit}(h:(g61 p0).run=some r):QR Tryz.prog GG 61 [.sl false 3 (List.map Z1.c p0)] (Qm []) (.ref 7 0 p0.length) (Qm [(7,⟨3,true,List.map Z1.c p0⟩)]):=
 Rb (ty:=Z1) (ops0:=Lx Tryz.f61.body) (ops1:=Ld Tryz.f61.body) (yes:=Ex Tryz.f61.body) (rest:=Km Tryz.f61.body) (t:=43) Q9 (by decide) Tryz.func61 (by kernel_rfl) (by kernel_rfl) (by kernel_rfl) (by kernel_rfl) (by kernel_rfl) (by kernel_rfl) (by kernel_rfl) (by kernel_rfl) (by kernel_rfl) Qac (Qat p0) (by rfl) h
def s61(p0:List Z0):Sp Unit:=⟨61,[Sl 3 Z1 p0],[],(g61 p0).run,λ_=>Rf 7 p0,λ_=>[(7,⟨3,true,List.map Z1.c p0⟩)],[7],λ_ p hp _=>by rw[wG.1 hp];exact Z1.data _,λ_ h=>k61 p0 h⟩
def mV(s:Q2)(v:Q6):TT ((Q2×(List Z0))⊕(Bool×Int)):=
 .cl 2002 (cV s) λr656=>
 .Qa 2004 (X8 (r656==0) 200) [] [] (λr657=>
  .br 3005 (decide ((1:Int)<=v.fw))
  (.br 3010 (decide (v.fw<=4))
   (.br 3017 (decide (s.fk<=v.fk))
    (.br 3022 (decide (v.fk<=1099511627776))
     (.Qa 3027 (X8 (decide ((v.fC.size:Int)<=64)) 2) [] [] (λr658=>
       .br 4005 (v.fw != 2)
       (.Qa 4010 (X8 true 2) [] [] (λr659=>
         .cl 5004 (s59 v.fC) λr660=>
         .call 7003 (s60 s.fJ) [] [(7,500016)] λr661=>
         .call 7006 (s61 s.fM) [] [(7,500017)] λr662=>
         .gh 10 (.share (Zp.o 500016 Z7 s.fJ) 0) (.gh 10 (.share (Zp.o 500017 Z1 s.fM) 0) (.gh 10 (.tell 7 [(X7 21 .undef [.sl false 3 (List.map Z1.c [])])]) (.Qa 8002 (cS v (Q8.mk { s with fk:=v.fk } r660 [])) [(1000000,7)] [] (λr663=>
          .call 9005 (s61 r663.QL) [] [(7,500018)] λr664=>
          .gh 0 (.share (Zp.o 500018 Z1 r663.QL) 0) (.done (.inl (r663.fe,r663.QL))))
         (λr665=>
          .done (.inr (true,r665)))))))
        (λr666=>
         .fail))
       (.cl 4007 (s58 v.fO) λr667=>
        .Qa 4010 (X8 (r667==0) 2) [] [] (λr668=>
         .cl 5004 (s59 v.fC) λr669=>
         .call 7003 (s60 s.fJ) [] [(7,500019)] λr670=>
         .call 7006 (s61 s.fM) [] [(7,500020)] λr671=>
         .gh 10 (.share (Zp.o 500019 Z7 s.fJ) 0) (.gh 10 (.share (Zp.o 500020 Z1 s.fM) 0) (.gh 10 (.tell 7 [(X7 21 .undef [.sl false 3 (List.map Z1.c [])])]) (.Qa 8002 (cS v (Q8.mk { s with fk:=v.fk } r669 [])) [(1000000,7)] [] (λr672=>
          .call 9005 (s61 r672.QL) [] [(7,500021)] λr673=>
          .gh 0 (.share (Zp.o 500021 Z1 r672.QL) 0) (.done (.inl (r672.fe,r672.QL))))
         (λr674=>
          .done (.inr (true,r674)))))))
        (λr675=>
         .done (.inr (false,2)))))
      (λr676=>
       .done (.inr (false,2))))
     (.Qa 3027 (X8 false 2) [] [] (λr677=>
       .fail)
      (λr678=>
       .done (.inr (false,2)))))
    (.Qa 3027 (X8 false 2) [] [] (λr679=>
      .fail)
     (λr680=>
      .done (.inr (false,2)))))
   (.Qa 3027 (X8 false 2) [] [] (λr681=>
     .fail)
    (λr682=>
     .done (.inr (false,2)))))
  (.Qa 3027 (X8 false 2) [] [] (λr683=>
    .fail)
   (λr684=>
    .done (.inr (false,2)))))
 (λr685=>
  .done (.inr (false,200)))
def qM(s:Q2)(v:Q6):Ext:=Ext.of .normal [(2,.ptr 1000002 0 0),(3,.ptr 1000003 0 0),(4,.ptr 1000004 0 0),(5,.ptr 1000005 0 0),(6,.ptr 1000006 0 0),(8,.fn 56 [] [.ptr 1000004 0 0,.ptr 1000005 0 0,.ptr 1000006 0 0])] [(1000002,⟨20,true,[(E8 s)]⟩),(1000003,⟨6,true,[[.i v.fw,.i v.fk,.str v.fC,.i v.fO.fw,.i v.fO.fX,.str v.fO.fI]]⟩),(1000004,⟨20,true,[(H8 [.i 0,.i 0,.i 0] (X7 5 (.str zg) (H8 [.Qu,.i 0] (X7 5 (.str zg) (H8 [.Qu] (X7 4 (.int .i64 0) []))))))]⟩),(1000005,⟨1,true,[[.Qu]]⟩),(1000006,⟨1,true,[[.i 0]]⟩)] [] (by rfl)
def LZ(s:Q2)(v:Q6)(r:Q2×(List Z0)):Ext:=Ext.of .ret [(4,.ptr 1000004 0 0),(5,.ptr 1000005 0 0),(6,.ptr 1000006 0 0)] [(1000002,⟨20,true,[(E8 s)]⟩),(1000003,⟨6,true,[[.i v.fw,.i v.fk,.str v.fC,.i v.fO.fw,.i v.fO.fX,.str v.fO.fI]]⟩),(1000004,⟨20,true,[(E8 r.1)]⟩),(1000005,⟨1,true,[[.sl false 3 (List.map Z1.c r.2)]]⟩),(1000006,⟨1,true,[[.i 0]]⟩)] [] (by rfl)
def LQ(s:Q2)(v:Q6)(r:Bool×Int):Ext:=Ext.of (.panic (cG r.1 r.2)) [(4,.ptr 1000004 0 0),(5,.ptr 1000005 0 0),(6,.ptr 1000006 0 0)] [(1000002,⟨20,true,[(E8 s)]⟩),(1000003,⟨6,true,[[.i v.fw,.i v.fk,.str v.fC,.i v.fO.fw,.i v.fO.fX,.str v.fO.fI]]⟩),(1000004,⟨20,true,[(H8 [.i 0,.i 0,.i 0] (X7 5 (.str zg) (H8 [.Qu,.i 0] (X7 5 (.str zg) (H8 [.Qu] (X7 4 (.int .i64 0) []))))))]⟩),(1000005,⟨1,true,[[.Qu]]⟩),(1000006,⟨1,true,[[.i 0]]⟩)] [] (by rfl)
theorem Qa3(s:Q2)(v:Q6):Y1 Tryz.prog GG [2,3,4,5,6,7,8] 76 (cR (cR sV)) (qM s v) (mV s v) (Sum.elim (LZ s v) (LQ s v)):=by unfold Y1;kernel_rfl
def pG:Array Oper:=Oq (cL (cR sV))
def Nq:Oper:=(pG[0]?).get (by kernel_rfl)
def yS:Oper:=(pG[1]?).get (by kernel_rfl)
theorem eSt:Tryz.f24.body=some ([cL sV].foldr Code.seq (.seq (.region 1 #[Nq,yS] false) (cR (cR sV)))):=by kernel_rfl
noncomputable def cSc:Code:=Tryz.f56.body.getD .skip
def Nx:Array Oper:=Oq (cL cSc)
def Qhh:Oper:=(Nx[0]?).get (by kernel_rfl)
theorem eSc:Tryz.f56.body=some (.seq (.region 0 Nx false) (cR cSc)):=by kernel_rfl
abbrev qJ:=Q2×List Z0×Int
def HP(h:Q2):List V:=[.int .i64 h.fq,.int .i64 h.fo,.int .i64 h.fk,.str h.gc,.str h.fh,.str h.fZ,.str h.fA,.str h.gb,.sl false 1 (h.fJ.map Z7.c),.int .i64 h.fm,.str h.fD,.str h.fj.fA,.str h.fj.fQ,.str h.fj.fh,.str h.fF,.sl false 3 (h.fM.map Z1.c),.int .i64 h.fy.fE,.int .i64 h.fy.fY,.int .i64 h.fy.fL,.int .i64 h.ga]
def PA:Q2:=⟨0,0,0,zg,zg,zg,zg,zg,[],0,zg,⟨zg,zg,zg⟩,zg,[],⟨0,0,0⟩,0⟩
def bF:List V:=[.int .i64 0,.int .i64 0,.int .i64 0,.str zg,.str zg,.str zg,.str zg,.str zg,.Qu,.int .i64 0,.str zg,.str zg,.str zg,.str zg,.str zg,.Qu,.int .i64 0,.int .i64 0,.int .i64 0,.int .i64 0]
def Ay(s:Q2)(v:Q6)(row:List V)(l:V)(e:Int):List (Nat×Qd):=[(1000002,⟨20,true,[HP s]⟩),(1000003,⟨6,true,[Us v]⟩),(1000004,⟨20,true,[row]⟩),(1000005,⟨1,true,[[l]]⟩),(1000006,⟨1,true,[[.int .i64 e]]⟩)]
def Ny(s:Q2)(v:Q6)(r:qJ):List (Nat×Qd):=Ay s v (HP r.1) (.sl false 3 (r.2.1.map Z1.c)) r.2.2
def Nz(s:Q2)(v:Q6)(e:Int):List (Nat×Qd):=Ay s v bF .Qu e
def JH:List V:=[.ptr 1000004 0 0,.ptr 1000005 0 0,.ptr 1000006 0 0]
def Qhu:List (Nat×V):=[(0,.ptr 1000004 0 0),(1,.ptr 1000005 0 0),(2,.ptr 1000006 0 0)]
def Tk(rv:Value)(h:Wl rv=true)(bs:List (Nat×Qd)):Ext:=Ext.of .normal (Qhu++[(6,.Zh rv)]) bs [] (by simp)
def GA(b:Bool)(e:Int)(bs:List (Nat×Qd)):Ext:=Ext.of .normal (Qhu++[(3,.ptr 3 0 0),(4,.bool b)]) ((3,⟨1,true,[[.i e]]⟩) :: bs) [] (by simp)
def Tm(bs:List (Nat×Qd)):Ext:=Ext.of .normal [] bs [] (by simp)
theorem asS(e:Int)(w:World):∃v,(Instr.typeAssert (UT e) 20 124 true).run Tryz.prog w=.ok (.tuple #[v,.bool true]) w/\∀γ bs u,Qz γ w bs u (.agg [.int .i64 e]) v:=⟨.agg #[.int .i64 e],by kernel_rfl,λ_ _ _=>.agg [.int .i64 e] [.int .i64 e] rfl λi c x hc hx=>by
 match i,hc,hx with
 | 0,hc,hx=>simp at hc hx;subst hc;subst hx;exact .data (.int _ _)
 | n+1,hc,hx=>simp at hc⟩
theorem asZ(w:World):∃v,(Instr.typeAssert .nilIface 20 124 true).run Tryz.prog w=.ok (.tuple #[v,.bool false]) w/\∀γ bs u,Qz γ w bs u (.agg [.int .i64 0]) v:=⟨.agg #[.int .i64 0],by kernel_rfl,λ_ _ _=>.agg [.int .i64 0] [.int .i64 0] rfl λi c x hc hx=>by
 match i,hc,hx with
 | 0,hc,hx=>simp at hc hx;subst hc;subst hx;exact .data (.int _ _)
 | n+1,hc,hx=>simp at hc⟩
def Qii:TT Unit:=.Qq 2 (Qh.asserted (.tmp 6) 20 124 7 .nilIface false (.agg [.int .i64 0]) (.agg [.int .i64 0]) λw=>by
 simp_all [asZ]) λ_=>.done ()
def Qia(e:Int):TT Unit:=.Qq 2 (Qh.asserted (.tmp 6) 20 124 7 (UT e) true (.agg [.int .i64 e]) (.agg [.int .i64 0]) λw=>by
 simp_all [asS]) λ_=>.done ()
theorem Qa6(s:Q2)(v:Q6)(r:qJ):K0 Tryz.prog GG [0,1,2,3,4] 14 0 (C6 Nx 6) 8 (Tk .nilIface rfl (Ny s v r)) Qii (λ_=>GA false 0 (Ny s v r)):=by unfold K0;kernel_rfl
theorem Qa5(s:Q2)(v:Q6)(e:Int):K0 Tryz.prog GG [0,1,2,3,4] 14 0 (C6 Nx 6) 8 (Tk (UT e) rfl (Nz s v 0)) (Qia e) (λ_=>GA true e (Nz s v 0)):=by unfold K0;kernel_rfl
def Qk0:TT Unit:=.ff (.done ())
def Qwv:TT Unit:=.tt (.done ())
theorem Qwa(s:Q2)(v:Q6)(r:qJ):Y1 Tryz.prog GG [0,1,2,3,4,10] 14 (cR cSc) (GA false 0 (Ny s v r)) Qk0 (λ_=>Tm (Ny s v r)):=by unfold Y1;kernel_rfl
theorem Qwx(s:Q2)(v:Q6)(e:Int):Y1 Tryz.prog GG [0,1,2,3,4,10] 14 (cR cSc) (GA true e (Nz s v 0)) Qwv (λ_=>Tm (Nz s v e)):=by unfold Y1;kernel_rfl
theorem yT(s:Q2)(v:Q6)(row:List V)(l:V)(e:Int):∀b k,Qm (Ay s v row l e) b=some k->X6 b=true:=λb k h=>by
 obtain⟨q,h1,rfl,_⟩:=Yg h;simp only[Ay,zV,wa,or_false] at h1;rcases h1 with rfl|rfl|rfl|rfl|rfl
 ·grind [X6]
 ·grind [X6]
 ·grind [X6]
 ·grind [X6]
 grind [X6]
theorem stD{u u':FrameMode}{rv:Value}{b:Bool}{e:Int}{bs bs':List (Nat×Qd)}{g g2:TT Unit}(hi:Wl rv=true)(hr:WM u rv u')(k:K0 Tryz.prog GG [0,1,2,3,4] 14 0 (C6 Nx 6) 8 (Tk rv hi bs) g (λ_=>GA b e bs))(hg:g.run=some ())
  (k2:Y1 Tryz.prog GG [0,1,2,3,4,10] 14 (cR cSc) (GA b e bs) g2 (λ_=>Tm bs')) (hg2:g2.run=some ()) (hok:(GA b e bs).ok=true) (hok2:(Tm bs').ok=true)
  (h0:QU GG ((U4 14 JH (Qm bs)).put (some 6) (.Zh rv)) ((Tk rv hi bs).D 14).st) :
  WX Tryz.prog GG 56 JH (Qm bs) u .returned u' (Qm bs'):=by
 refine DF (n:=14) (l:=List.range' 1 7) (t1:=6) (rv:=rv) (S1:=((GA b e bs).D 14).st) (ex:=λe=>e=.normal) Tryz.func56 eSc (by kernel_rfl) (o0:=Qhh) (by kernel_rfl) (by kernel_rfl) (by kernel_rfl) (by kernel_rfl) (by kernel_rfl) (by decide) hi hr (by kernel_rfl) (U8.ghost h0 ?_) ?_ (by grind)
 ·exact K0.uK (o0:=Qhh) (by kernel_rfl) (by kernel_rfl) (by kernel_rfl) k Q9 hg hok
 ·exact(k2.tv Q9 hg2 hok2).mono λe s hq=>⟨hq.1,_,hq.2,λb k hk=>by
   have e0:(Tm bs').bs=bs':=wK bs'
   show Qm (Tm bs').bs b=some k;grind⟩
theorem Qhq(s:Q2)(v:Q6)(r:qJ):WX Tryz.prog GG 56 JH (Qm (Ny s v r)) .returning .returned .returning (Qm (Ny s v r)):=
 stD rfl (.inl ⟨rfl,rfl,rfl⟩) (Qa6 s v r) rfl (Qwa s v r) rfl (by rfl) (by rfl) (W4 (Tk .nilIface rfl (Ny s v r)) (by rfl) rfl ⟨by rfl,by rfl⟩)
def stU(b:Bool)(e:Int):FrameMode:=.panicking ({ v:=UT e,recovered:=true } :: bif b then [{ v:=UT e,recovered:=true }] else [])
theorem Qhz(s:Q2)(v:Q6)(b:Bool)(e:Int):WX Tryz.prog GG 56 JH (Qm (Nz s v 0)) (.panicking (cG b e)) .returned (stU b e) (Qm (Nz s v e)):=
 stD rfl (.inr (by cases b<;>exact⟨UT e,_,rfl,rfl,rfl⟩)) (Qa5 s v e) rfl (Qwx s v e) rfl (by rfl) (by rfl) (W4 (Tk (UT e) rfl (Nz s v 0)) (by rfl) rfl ⟨by rfl,by rfl⟩)
def XD(s:Q2)(v:Q6):Ext:=Ext.of .normal [(2,.ptr 1000002 0 0),(3,.ptr 1000003 0 0),(4,.ptr 1000004 0 0),(5,.ptr 1000005 0 0),(6,.ptr 1000006 0 0)] (Nz s v 0) [] (by rfl)
def Pf(s:Q2)(v:Q6)(r:qJ):Ext:=Ext.of .normal [(4,.ptr 4 0 0),(5,.ptr 5 0 0),(6,.ptr 6 0 0)] [(2,⟨20,true,[HP s]⟩),(3,⟨6,true,[Us v]⟩),(4,⟨20,true,[HP r.1]⟩),(5,⟨1,true,[[.sl false 3 (r.2.1.map Z1.c)]]⟩),(6,⟨1,true,[[.i r.2.2]]⟩)] [] (by rfl)
def Tw(s:Q2)(v:Q6)(r:qJ):Ext:=Ext.of .normal [(4,.ptr 1000004 0 0),(5,.ptr 1000005 0 0),(6,.ptr 1000006 0 0)] (Ny s v r) [] (by rfl)
def stV(r:qJ):V:=.Qc [.agg (HP r.1),.sl false 3 (r.2.1.map Z1.c),.int .i64 r.2.2]
theorem Qh6{x:Ext}(h:x.us=[1000002,1000003,1000004,1000005,1000006]):(x.D 76).st.u=Qw:=funext λb=>by
 show (x.us.contains b || Qw b)=Qw b;rw[h];by_cases h1:b=1000002
 ·subst h1;rfl
 ·by_cases h2:b=1000003
  ·subst h2;rfl
  ·by_cases h3:b=1000004
   ·subst h3;rfl
   ·by_cases h4:b=1000005
    ·subst h4;rfl
    ·by_cases h5:b=1000006
     ·subst h5;rfl
     grind
theorem yB(s:Q2)(v:Q6){q:_⊕(Bool×Int)}{x:Ext}{u u':FrameMode}{row1 row2:List V}{l1 l2:V}{e1 e2:Int}{r:qJ}(hx:Sum.elim (LZ s v) (LQ s v) q=x)(h2:(mV s v).run=some q)(hok:x.ok=true)(hl:Go.EV.Left u x.ex)(hbs:(x.D 76).st.b=Qm (Ay s v row1 l1 e1))(hus:x.us=[1000002,1000003,1000004,1000005,1000006])
  (hD:WX Tryz.prog GG 56 JH (Qm (Ay s v row1 l1 e1)) u .returned u' (Qm (Ay s v row2 l2 e2))) (hM:settle u'=.returning)
  (hU:QU GG ⟨76,(x.D 76).st.t,Qm (Ay s v row2 l2 e2),λ_=>true⟩ ((Tw s v r).D 76).st) :
  QR Tryz.prog GG 24 [.agg (HP s),.agg (Us v)] (Qm []) (stV r) (Qm []):=by
 subst hx;have e0:U4 76 [.agg (HP s),.agg (Us v)] (Qm [])=((qE s v).D 76).st:=(B6 (x:=qE s v) (by rfl) (by rfl) 76).symm;have t0:=(Qa4 s v).tv Q9 (r:=()) rfl (by rfl);have t2:=(Qa3 s v).tv Q9 h2 hok;have hsh:QU GG ((GM s v ()).D 76).st.shift ((XD s v).D 76).st:=by
  have eT:((GM s v ()).ts.map λp=>(p.1,W1 sh p.2))=(XD s v).ts:=by kernel_rfl
  have eB:((GM s v ()).bs.map λp=>(sh p.1,p.2.Qs sh))=(XD s v).bs:=by kernel_rfl
  rw[Up,eT,eB];exact W4 (XD s v) (by rfl) rfl ⟨by rfl,by rfl⟩
 have hU':QU GG ⟨76,((Sum.elim (LZ s v) (LQ s v) q).D 76).st.t,Qm (Ay s v row2 l2 e2),λ_=>true⟩ ((Pf s v r).D 76).st.shift:=by
  have eT:((Pf s v r).ts.map λp=>(p.1,W1 sh p.2))=(Tw s v r).ts:=by kernel_rfl
  have eB:((Pf s v r).bs.map λp=>(sh p.1,p.2.Qs sh))=(Tw s v r).bs:=by kernel_rfl
  rw[Up,eT,eB,<-aV (x:=Tw s v r) _ (by rfl)];exact hU
 have st5:B8 Tryz.prog GG #[Nq,yS] 0 ((XD s v).D 76).st (((XD s v).D 76).st.put (some 8) (.fn 56 [] JH)):=Zv (by rfl)
 have g0:E0 #[Nq,yS] ((XD s v).D 76).st Nq=some true:=by rfl
 have h0:I7 Tryz.prog GG Nq ((XD s v).D 76).st (((XD s v).D 76).st.put (some 8) (.fn 56 [] JH)):=by
  unfold B8 at st5;simp only[show (#[Nq,yS]:Array Oper)[0]?=some Nq from rfl] at st5;rcases st5 with⟨_,h⟩|⟨h,_⟩
  ·exact h
  ·rw[g0] at h;simp at h
 have gB:QU GG (((XD s v).D 76).st.put (some 8) (.fn 56 [] JH)) ((qM s v).D 76).st:=W4 (qM s v) (by rfl) rfl ⟨by rfl,by rfl⟩;refine DL (As:=[cL sV]) (rest:=cR (cR sV)) (rid:=1) (t:=8) (n:=76) (o0:=Nq) (o1:=yS) (caps:=JH) (insD:=Qm (Ay s v row1 l1 e1)) (outsD:=Qm (Ay s v row2 l2 e2)) (S0:=((GM s v ()).D 76).st) (S1:=((XD s v).D 76).st) (S2:=((Sum.elim (LZ s v) (LQ s v) q).D 76).st) (Sx:=((Pf s v r).D 76).st) (u:=u) (u':=u') (M:=.returning)
  Tryz.func24 eSt (by kernel_rfl) ?_ hsh h0 g0 (by kernel_rfl) (by kernel_rfl) (by rfl) (TV.ghost gB t2) hl (λc hc=>?_) (show 8 < 76 by decide) ⟨hbs,Qh6 hus⟩ (by grind [yT]) Tryz.func56 (by kernel_rfl) (by kernel_rfl) hD (λ_=>hM) (λ_ h=>by cases h) hU' (Yj (ts:=(Pf s v r).ts) (bs:=(Pf s v r).bs) (us:=(Pf s v r).us) (by rfl) (by rfl)) rfl (by grind [Qm]) (.inl ⟨rfl,rfl,by kernel_rfl,λγ w v h=>Qz.Is (γ:=γ) (γ':=γ) (by grind) h (by rfl)⟩)
 ·rw[e0];show TV _ _ (cL sV) _ _;exact t0
 ·simp only[JH,zV,wa,or_false] at hc;rcases hc with rfl|rfl|rfl
  ·exact⟨1000004,_,rfl,by decide,rfl⟩
  ·exact⟨1000005,_,rfl,by decide,rfl⟩
  ·exact⟨1000006,_,rfl,by decide,rfl⟩
def yC(r:Q2×List Z0):qJ:=(r.1,r.2,0)
def stM(s:Q2)(v:Q6):Option qJ:=match (mV s v).run with
 | some (.inl r)=>some (yC r)
 | some (.inr r)=>some (PA,[],r.2)
 | none=>none
theorem Qh9(s:Q2)(v:Q6){r:qJ}(h:stM s v=some r):QR Tryz.prog GG 24 [.agg (HP s),.agg (Us v)] (Qm []) (stV r) (Qm []):=by
 unfold stM at h;split at h
 ·rename_i q hq;obtain rfl:=wh h;exact yB s v (u:=.returning) (u':=.returning) (row1:=HP (yC q).1) (row2:=HP (yC q).1) (l1:=.sl false 3 ((yC q).2.1.map Z1.c)) (l2:=.sl false 3 ((yC q).2.1.map Z1.c)) (e1:=(yC q).2.2) (e2:=(yC q).2.2) (r:=yC q) rfl hq (by rfl) (.inl ⟨rfl,rfl⟩) rfl rfl (Qhq s v (yC q)) rfl (W4 (Tw s v (yC q)) (by rfl) rfl ⟨by rfl,by rfl⟩)
 ·rename_i q hq;obtain rfl:=wh h;exact yB s v (u:=.panicking (cG q.1 q.2)) (u':=stU q.1 q.2) (row1:=bF) (row2:=bF) (l1:=.Qu) (l2:=.Qu) (e1:=0) (e2:=q.2) (r:=(PA,[],q.2)) rfl hq (by rfl) (.inr (.inr ⟨_,rfl,rfl⟩)) rfl rfl (Qhz s v q.1 q.2) (by cases q.1<;>rfl) (W4 (Tw s v (PA,[],q.2)) (by rfl) rfl ⟨by rfl,by rfl⟩)
 ·cases h
def jK(p0:Q2)(p1:Q6):Sp qJ:=⟨24,[.agg (HP p0),.agg (Us p1)],[],stM p0 p1,stV,λ_=>[],[],λ_ _ h=>by simp at h,λ_ h=>Qh9 p0 p1 h⟩
def Q7:Ty Bool:=⟨λx=>[.bool x],λx=>[.bool x],λ_=>rfl,λ_=>rfl,λ_ _=>rfl,λ_=>rfl⟩
def zo(a b c:Nat)(f:zl):=Qh.DM (P:=Tryz.prog) (G:=GG) 289 (.tmp a) b c ⟨1,true,(List.map Q7.c (vec f))⟩ (.agg (K1 f))
def zu(a b c:Nat)(f g:zl):=Qh.KN (P:=Tryz.prog) (G:=GG) (ty:=Q7) 289 (.tmp a) (.tmp b) c ⟨1,true,(List.map Q7.c (vec f))⟩ (.agg (K1 g)) (vec g)
def zw(a:Nat):=Qh.Ms (P:=Tryz.prog) (G:=GG) (ty:=Q7) 289 a (vec (λ_=>false))
def zy(a b c d:Nat)(f:zl)(i:Int):=Qh.Ya (P:=Tryz.prog) (G:=GG) (e:=4) 289 (.tmp a) (.tmp b) c d ⟨1,true,(List.map Q7.c (vec f))⟩ 0 .i64 i 32
def Qkk(p0:Int):TT ((Nat->Bool)):=.Qq 1 (zw 2) λ_=>.Qq 1001 (zw 3) λ_=>.bind 1 (.lp (λ(l688:(Nat->Bool)×Int×Int)=>Ext.of .normal [(0,.i l688.2.1),(2,.ptr 2 0 0),(3,.ptr 3 0 0),(4,.i l688.2.2)] [] [BT.of 2 Q7 1 (vec (λ_=>false)) true,BT.of 3 Q7 1 (vec l688.1) true] (by rfl)) (λl688=>.br 0 (decide ((0:Int)<=l688.2.2)) (.Qq 5005 (zy 3 9 13 3 l688.1 l688.2.2) λ_=>.row 5006 Q7 (vec l688.1) (0+l688.2.2.toNat) true λx689=>.re 5006 (Jx.Sf 3 Q7 l688.1 (0+l688.2.2.toNat) ((Int.tmod l688.2.1 2)==1)) (.done (.inl ((GS l688.1 (0+l688.2.2.toNat) ((Int.tmod l688.2.1 2)==1)),(Q0 (Int.tdiv l688.2.1 2)),(Q0 (l688.2.2 - 1)))))) (.done (.inr l688.1))) ((λ_=>false),p0,31)) (λ(e690:(Nat->Bool))=>Ext.of (.exit 0) [(2,.ptr 2 0 0),(3,.ptr 3 0 0)] [] [BT.of 2 Q7 1 (vec (λ_=>false)) true,BT.of 3 Q7 1 (vec e690) true] (by rfl)) (λe690=>.Qq 7001 (zo 3 16 3 e690) λ_=>.Qq 7002 (zu 2 16 2 (λ_=>false) e690) λ_=>.done e690)
def IS(p0:Int):Sp ((Nat->Bool)):=oF [0,2,3,4,6] Tryz.func230 [.i p0] (Qkk p0) (λr=>.agg (K1 r))
def zx(a b:Nat)(f:zl):=Qh.Dl (P:=Tryz.prog) (G:=GG) (ty:=Q7) 289 (.tmp a) b (vec f)
def Qkw(p0:zl):TT (Int):=.Qq 1 (zx 0 1 p0) λ_=>.bind 1 (.lp (λ(l693:Int×Int)=>Ext.of .normal [(1,.ptr 1 0 0),(2,.i 0),(3,.i l693.1),(4,.i l693.2)] [] [BT.of 1 Q7 1 (vec p0) true] (by rfl)) (λl693=>.br 0 (decide (l693.2 < 32)) (.Qq 6002 (zy 1 11 12 1 p0 l693.2) λ_=>.row 6003 Q7 (vec p0) (0+l693.2.toNat) true λx694=>.br 0 x694 (.done (.inl ((Q0 ((Q0 ((2:Int) * l693.1))+1)),(Q0 (l693.2+1))))) (.done (.inl ((Q0 ((2:Int) * l693.1)),(Q0 (l693.2+1)))))) (.done (.inr l693.1))) (0,0)) (λ(e695:Int)=>Ext.l (.exit 0) [(2,.i 0),(3,.i e695)] []) (λe695=>.done e695)
def Nf(p0:zl):Sp (Int):=oF [0,1,2,3,4,6,13] Tryz.func232 [.agg (K1 p0)] (Qkw p0) (λr=>.int .i64 r)
def Qku(p0:zl)(p1:Int):TT ((Nat->Bool)):=.Qq 1 (zx 0 2 p0) λ_=>.Qq 2 (zw 4) λ_=>.Qq 1001 (zw 5) λ_=>.bind 1 (.lp (λ(l699:(Nat->Bool)×Int)=>Ext.of .normal [(1,.i p1),(2,.ptr 2 0 0),(4,.ptr 4 0 0),(5,.ptr 5 0 0),(6,.i l699.2)] [] [BT.of 2 Q7 1 (vec p0) true,BT.of 4 Q7 1 (vec (λ_=>false)) true,BT.of 5 Q7 1 (vec l699.1) true] (by rfl)) (λl699=>.br 0 (decide (l699.2 < 32)) (.Qq 5006 (zy 2 15 16 2 p0 l699.2) λ_=>.row 5007 Q7 (vec p0) (0+l699.2.toNat) true λx700=>.Qq 5008 (Qh.Ya (e:=4) 289 (.tmp 5) (.tmp 14) 18 5 ⟨1,true,(List.map Q7.c (vec l699.1))⟩ 0 .i64 (Int.tmod (Q0 (l699.2+p1)) 32) 32) λ_=>.row 5009 Q7 (vec l699.1) (0+(Int.tmod (Q0 (l699.2+p1)) 32).toNat) true λx701=>.re 5009 (Jx.Sf 5 Q7 l699.1 (0+(Int.tmod (Q0 (l699.2+p1)) 32).toNat) x700) (.done (.inl ((GS l699.1 (0+(Int.tmod (Q0 (l699.2+p1)) 32).toNat) x700),(Q0 (l699.2+1)))))) (.done (.inr l699.1))) ((λ_=>false),0)) (λ(e702:(Nat->Bool))=>Ext.of (.exit 0) [(4,.ptr 4 0 0),(5,.ptr 5 0 0)] [] [BT.of 4 Q7 1 (vec (λ_=>false)) true,BT.of 5 Q7 1 (vec e702) true] (by rfl)) (λe702=>.Qq 6001 (zo 5 19 5 e702) λ_=>.Qq 6002 (zu 4 19 4 (λ_=>false) e702) λ_=>.done e702)
def DT(p0:zl)(p1:Int):Sp ((Nat->Bool)):=oF [0,1,2,4,5,6,8] Tryz.func234 [.agg (K1 p0),.i p1] (Qku p0 p1) (λr=>.agg (K1 r))
def Qkj(p0:zl)(p1:Int):TT ((Nat->Bool)):=.Qq 1 (zx 0 2 p0) λ_=>.Qq 2 (zw 4) λ_=>.Qq 1001 (zw 5) λ_=>.bind 1 (.lp (λ(l706:(Nat->Bool)×Int)=>Ext.of .normal [(1,.i p1),(2,.ptr 2 0 0),(4,.ptr 4 0 0),(5,.ptr 5 0 0),(6,.i l706.2)] [] [BT.of 2 Q7 1 (vec p0) true,BT.of 4 Q7 1 (vec (λ_=>false)) true,BT.of 5 Q7 1 (vec l706.1) true] (by rfl)) (λl706=>.br 0 (decide ((Q0 (l706.2+p1)) < 32)) (.Qq 5005 (zy 2 16 17 2 p0 l706.2) λ_=>.row 5006 Q7 (vec p0) (0+l706.2.toNat) true λx707=>.Qq 5007 (Qh.Ya (e:=4) 289 (.tmp 5) (.tmp 15) 19 5 ⟨1,true,(List.map Q7.c (vec l706.1))⟩ 0 .i64 (Q0 (l706.2+p1)) 32) λ_=>.row 5008 Q7 (vec l706.1) (0+(Q0 (l706.2+p1)).toNat) true λx708=>.re 5008 (Jx.Sf 5 Q7 l706.1 (0+(Q0 (l706.2+p1)).toNat) x707) (.done (.inl ((GS l706.1 (0+(Q0 (l706.2+p1)).toNat) x707),(Q0 (l706.2+1)))))) (.done (.inr l706.1))) ((λ_=>false),0)) (λ(e709:(Nat->Bool))=>Ext.of (.exit 0) [(4,.ptr 4 0 0),(5,.ptr 5 0 0)] [] [BT.of 4 Q7 1 (vec (λ_=>false)) true,BT.of 5 Q7 1 (vec e709) true] (by rfl)) (λe709=>.Qq 6001 (zo 5 20 5 e709) λ_=>.Qq 6002 (zu 4 20 4 (λ_=>false) e709) λ_=>.done e709)
def oL(p0:zl)(p1:Int):Sp ((Nat->Bool)):=oF [0,1,2,4,5,6,10] Tryz.func235 [.agg (K1 p0),.i p1] (Qkj p0 p1) (λr=>.agg (K1 r))
def Qky(p0 p1:zl):TT ((Nat->Bool)):=.Qq 1 (zx 0 2 p0) λ_=>.Qq 2 (zx 1 3 p1) λ_=>.Qq 3 (zw 4) λ_=>.Qq 1001 (zw 5) λ_=>.bind 1 (.lp (λ(l714:(Nat->Bool)×Int)=>Ext.of .normal [(2,.ptr 2 0 0),(3,.ptr 3 0 0),(4,.ptr 4 0 0),(5,.ptr 5 0 0),(6,.i l714.2)] [] [BT.of 2 Q7 1 (vec p0) true,BT.of 3 Q7 1 (vec p1) true,BT.of 4 Q7 1 (vec (λ_=>false)) true,BT.of 5 Q7 1 (vec l714.1) true] (by rfl)) (λl714=>.br 0 (decide (l714.2 < 32)) (.Qq 5003 (zy 2 12 13 2 p0 l714.2) λ_=>.row 5004 Q7 (vec p0) (0+l714.2.toNat) true λx715=>.Qq 5006 (zy 3 15 16 3 p1 l714.2) λ_=>.row 5007 Q7 (vec p1) (0+l714.2.toNat) true λx716=>.Qq 5009 (zy 5 11 19 5 l714.1 l714.2) λ_=>.row 5010 Q7 (vec l714.1) (0+l714.2.toNat) true λx717=>.re 5010 (Jx.Sf 5 Q7 l714.1 (0+l714.2.toNat) (!(x715==x716))) (.done (.inl ((GS l714.1 (0+l714.2.toNat) (!(x715==x716))),(Q0 (l714.2+1)))))) (.done (.inr l714.1))) ((λ_=>false),0)) (λ(e718:(Nat->Bool))=>Ext.of (.exit 0) [(4,.ptr 4 0 0),(5,.ptr 5 0 0)] [] [BT.of 4 Q7 1 (vec (λ_=>false)) true,BT.of 5 Q7 1 (vec e718) true] (by rfl)) (λe718=>.Qq 6001 (zo 5 20 5 e718) λ_=>.Qq 6002 (zu 4 20 4 (λ_=>false) e718) λ_=>.done e718)
def Tt(p0 p1:zl):Sp ((Nat->Bool)):=oF [0,1,2,3,4,5,6,8] Tryz.func236 [.agg (K1 p0),.agg (K1 p1)] (Qky p0 p1) (λr=>.agg (K1 r))
def Qkz(p0 p1:zl):TT ((Nat->Bool)):=.Qq 1 (zx 0 2 p0) λ_=>.Qq 2 (zx 1 3 p1) λ_=>.Qq 3 (zw 4) λ_=>.Qq 1001 (zw 5) λ_=>.bind 1 (.lp (λ(l724:(Nat->Bool)×Int)=>Ext.of .normal [(2,.ptr 2 0 0),(3,.ptr 3 0 0),(4,.ptr 4 0 0),(5,.ptr 5 0 0),(6,.i l724.2)] [] [BT.of 2 Q7 1 (vec p0) true,BT.of 3 Q7 1 (vec p1) true,BT.of 4 Q7 1 (vec (λ_=>false)) true,BT.of 5 Q7 1 (vec l724.1) true] (by rfl)) (λl724=>.br 0 (decide (l724.2 < 32)) (.Qq 5003 (zy 2 12 13 2 p0 l724.2) λ_=>.row 5004 Q7 (vec p0) (0+l724.2.toNat) true λx725=>.br 5006 x725 (.Qq 5007 (zy 3 16 17 3 p1 l724.2) λ_=>.row 5008 Q7 (vec p1) (0+l724.2.toNat) true λx726=>.Qq 5010 (zy 5 11 20 5 l724.1 l724.2) λ_=>.row 5011 Q7 (vec l724.1) (0+l724.2.toNat) true λx727=>.re 5011 (Jx.Sf 5 Q7 l724.1 (0+l724.2.toNat) x726) (.done (.inl ((GS l724.1 (0+l724.2.toNat) x726),(Q0 (l724.2+1)))))) (.Qq 5010 (zy 5 11 20 5 l724.1 l724.2) λ_=>.row 5011 Q7 (vec l724.1) (0+l724.2.toNat) true λx728=>.re 5011 (Jx.Sf 5 Q7 l724.1 (0+l724.2.toNat) false) (.done (.inl ((GS l724.1 (0+l724.2.toNat) false),(Q0 (l724.2+1))))))) (.done (.inr l724.1))) ((λ_=>false),0)) (λ(e729:(Nat->Bool))=>Ext.of (.exit 0) [(4,.ptr 4 0 0),(5,.ptr 5 0 0)] [] [BT.of 4 Q7 1 (vec (λ_=>false)) true,BT.of 5 Q7 1 (vec e729) true] (by rfl)) (λe729=>.Qq 6001 (zo 5 21 5 e729) λ_=>.Qq 6002 (zu 4 21 4 (λ_=>false) e729) λ_=>.done e729)
def Nl(p0 p1:zl):Sp ((Nat->Bool)):=oF [0,1,2,3,4,5,6,8] Tryz.func237 [.agg (K1 p0),.agg (K1 p1)] (Qkz p0 p1) (λr=>.agg (K1 r))
def Qkq(p0:zl):TT ((Nat->Bool)):=.Qq 1 (zx 0 1 p0) λ_=>.Qq 2 (zw 2) λ_=>.Qq 1001 (zw 3) λ_=>.bind 1 (.lp (λ(l733:(Nat->Bool)×Int)=>Ext.of .normal [(1,.ptr 1 0 0),(2,.ptr 2 0 0),(3,.ptr 3 0 0),(4,.i l733.2)] [] [BT.of 1 Q7 1 (vec p0) true,BT.of 2 Q7 1 (vec (λ_=>false)) true,BT.of 3 Q7 1 (vec l733.1) true] (by rfl)) (λl733=>.br 0 (decide (l733.2 < 32)) (.Qq 5003 (zy 1 10 11 1 p0 l733.2) λ_=>.row 5004 Q7 (vec p0) (0+l733.2.toNat) true λx734=>.Qq 5006 (zy 3 9 14 3 l733.1 l733.2) λ_=>.row 5007 Q7 (vec l733.1) (0+l733.2.toNat) true λx735=>.re 5007 (Jx.Sf 3 Q7 l733.1 (0+l733.2.toNat) (!x734)) (.done (.inl ((GS l733.1 (0+l733.2.toNat) (!x734)),(Q0 (l733.2+1)))))) (.done (.inr l733.1))) ((λ_=>false),0)) (λ(e736:(Nat->Bool))=>Ext.of (.exit 0) [(2,.ptr 2 0 0),(3,.ptr 3 0 0)] [] [BT.of 2 Q7 1 (vec (λ_=>false)) true,BT.of 3 Q7 1 (vec e736) true] (by rfl)) (λe736=>.Qq 6001 (zo 3 15 3 e736) λ_=>.Qq 6002 (zu 2 15 2 (λ_=>false) e736) λ_=>.done e736)
def oO(p0:zl):Sp ((Nat->Bool)):=oF [0,1,2,3,4,6] Tryz.func238 [.agg (K1 p0)] (Qkq p0) (λr=>.agg (K1 r))
def Qkh(p0 p1 p2:zl):TT ((Nat->Bool)):=.Qq 1 (zx 0 3 p0) λ_=>.Qq 2 (zx 1 4 p1) λ_=>.Qq 3 (zx 2 5 p2) λ_=>.Qq 4 (zw 6) λ_=>.Qq 1001 (zo 3 7 3 p0) λ_=>.Qq 1002 (zo 4 8 4 p1) λ_=>.cl 1003 (Tt p0 p1) λr737=>.Qq 1004 (zo 5 10 5 p2) λ_=>.cl 1005 (Tt r737 p2) λr738=>.Qq 1006 (zu 6 11 6 (λ_=>false) r738) λ_=>.done r738
def PG(p0 p1 p2:zl):Sp ((Nat->Bool)):=oF [0,1,2,3,4,5,6] Tryz.func233 [.agg (K1 p0),.agg (K1 p1),.agg (K1 p2)] (Qkh p0 p1 p2) (λr=>.agg (K1 r))
def DV(p0 p1 p2 p3 p4:Int):Sp (Int):=oF [0,1,2,3,4,10] Tryz.func231 [.i p0,.i p1,.i p2,.i p3,.i p4] (.done (Int.tmod (Q0 ((Q0 ((Q0 ((Q0 (p0+p1))+p2))+p3))+p4)) 4294967296):TT (Int)) (λr=>.int .i64 r)
end Go.Proofs.YtjdieimefebnfaaGreatDoor
