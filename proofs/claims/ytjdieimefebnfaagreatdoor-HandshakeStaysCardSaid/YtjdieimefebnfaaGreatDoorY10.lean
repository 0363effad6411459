/- Part Y10. -/
import Derived.Test.YtjdieimefebnfaaGreatDoorY9
set_option linter.unusedVariables false
set_option linter.unusedSimpArgs false
set_option maxRecDepth 100000
noncomputable section
namespace Go.Proofs.YtjdieimefebnfaaGreatDoor
open Go Go.EV
structure H6 where
 Jb:Int
 Yg:Int
 ZW:Int
 Ug:Int
 Jq:Int
 QC:Int
 KW:Int
 UC:Bool
structure W9 where
 fA:ze
 fO:ze
 fh:ze
structure Q2 where
 fp:Int
 fo:Int
 fk:Int
 fY:ze
 fh:ze
 fW:ze
 fA:ze
 fX:ze
 fJ:(List ze)
 fm:Int
 fB:ze
 fj:W9
 fH:ze
 fM:(List Qq)
 fq:Z9
 fZ:Int
structure Q8 where
 fe:Q2
 QJ:ze
 QG:(List Qq)
def G7:Ty H6:=⟨λx=>[.i x.Jb,.i x.Yg,.i x.ZW,.i x.Ug,.i x.Jq,.i x.QC,.i x.KW,.bool x.UC],λx=>[.i x.Jb,.i x.Yg,.i x.ZW,.i x.Ug,.i x.Jq,.i x.QC,.i x.KW,.bool x.UC],λ_=>rfl,λ_=>rfl,λ_ _=>rfl,λ_=>rfl⟩
def Z0:Ty Qq:=⟨λx=>[.i x.fw,.i x.fU,.str x.fG],λx=>[.i x.fw,.i x.fU,.str x.fG],λ_=>rfl,λ_=>rfl,λ_ _=>rfl,λ_=>rfl⟩
def W7(s:Q2):List V:=[.int .i64 s.fp,.int .i64 s.fo,.int .i64 s.fk,.str s.fY,.str s.fh,.str s.fW,.str s.fA,.str s.fX,.sl false 1 (List.map Z6.c s.fJ),.int .i64 s.fm,.str s.fB,.str s.fj.fA,.str s.fj.fO,.str s.fj.fh,.str s.fH,.sl false 3 (List.map Z0.c s.fM),.int .i64 s.fq.fE,.int .i64 s.fq.fV,.int .i64 s.fq.fL,.int .i64 s.fZ]
def A9(m:Q8):List V:=H4 (W7 m.fe) [.str m.QJ,.sl false 3 (List.map Z0.c m.QG)]
def Qma(p0:ze):TT (Bool):=.done ((p0.size:Int) != 32)
def vL(p0:ze):Sp (Bool):=oF [0,2] Tryz.func172 [.str p0] (Qma p0) (λr=>.bool r)
def dM(p0:List ze):TT (Int):=.QA 1 (.lp (λ(l505:Int)=>Ext.l .normal [(0,Sl 1 Z6 p0),(1,.fn 172 [] []),(4,.i 0),(7,.i (E6 Z6 p0)),(8,.i l505)] []) (λl505=>.br 0 (decide (l505 < (E6 Z6 p0))) (.row 4004 Z6 p0 l505.toNat (decide (0<=l505)) λx506=>.cl 4006 (vL x506) λr507=>.br 0 r507 (.done (.inr (.inl l505))) (.done (.inl (Q0 (l505+1))))) (.done (.inr (.inr ())))) 0) (λ(e508:Int)=>Ext.l .ret [(4,.i e508)] []) (λ(e509:Unit)=>Ext.l (.exit 0) [(4,.i 0)] []) (λe508=>.done e508) (λe509=>.done (-1))
def So(p0:List ze):Sp (Int):=oF [0,1,4,5,7,8,9,16] Tryz.func173 [Sl 1 Z6 p0,.fn 172 [] []] (dM p0) (λr=>.int .i64 r)
def dX(p0:List ze):TT (Bool):=.cl 1003 (So p0) λr510=>.done (decide ((0:Int)<=r510))
def Sb(p0:List ze):Sp (Bool):=oF [0,1,4] Tryz.func114 [Sl 1 Z6 p0,.fn 172 [] []] (dX p0) (λr=>.bool r)
def Qea(p0:List ze):TT (Bool):=.cl 1002 (Sb p0) λr511=>.done (!r511)
def Vy(p0:List ze):Sp (Bool):=oF [0,2] Tryz.func113 [Sl 1 Z6 p0] (Qea p0) (λr=>.bool r)
def Qxp :Sp ((List H6)):=oF [0] Tryz.func121 [] (.gh 0 (.share (Zs.o 12 G7 [(H6.mk 1 1 0 0 0 0 0 false),(H6.mk 2 1 0 0 0 0 0 false),(H6.mk 2 1 1 6 0 0 2 false),(H6.mk 1 2 1 1 0 0 1 true),(H6.mk 1 3 2 7 100 0 1 true),(H6.mk 2 4 1 7 168 1 3 true),(H6.mk 1 5 3 8 204 2 4 true),(H6.mk 1 6 3 8 240 2 0 false),(H6.mk 2 6 2 8 240 2 5 false),(H6.mk 1 7 0 8 0 0 0 false),(H6.mk 2 7 0 8 0 0 0 false)]) 0) (.done [(H6.mk 1 1 0 0 0 0 0 false),(H6.mk 2 1 0 0 0 0 0 false),(H6.mk 2 1 1 6 0 0 2 false),(H6.mk 1 2 1 1 0 0 1 true),(H6.mk 1 3 2 7 100 0 1 true),(H6.mk 2 4 1 7 168 1 3 true),(H6.mk 1 5 3 8 204 2 4 true),(H6.mk 1 6 3 8 240 2 0 false),(H6.mk 2 6 2 8 240 2 5 false),(H6.mk 1 7 0 8 0 0 0 false),(H6.mk 2 7 0 8 0 0 0 false)]):TT ((List H6))) (λr=>Sl 8 G7 r)
def s66 :Sp (Z9):=oF [0] Tryz.func66 [] (.done (Z9.mk (-1) 0 0):TT (Z9)) (λr=>.agg [.int .i64 r.fE,.int .i64 r.fV,.int .i64 r.fL])
def Qee(p0:ze):TT (Int):=.cl 1002 (Ff p0) λr517=>.br 0 (!r517) (.done 5) (.done 0)
def Qqu(p0:ze):Sp (Int):=oF [0,2,5] Tryz.func116 [.str p0] (Qee p0) (λr=>.int .i64 r)
def Qed(p0:ze):TT (Bool):=.cl 1002 (Qqu p0) λr518=>.done (r518 != 0)
def Qqh(p0:ze):Sp (Bool):=oF [0,2] Tryz.func115 [.str p0] (Qed p0) (λr=>.bool r)
def dK(p0:List ze):TT (Int):=.QA 1 (.lp (λ(l520:Int)=>Ext.l .normal [(0,Sl 1 Z6 p0),(1,.fn 115 [] []),(4,.i 0),(7,.i (E6 Z6 p0)),(8,.i l520)] []) (λl520=>.br 0 (decide (l520 < (E6 Z6 p0))) (.row 4004 Z6 p0 l520.toNat (decide (0<=l520)) λx521=>.cl 4006 (Qqh x521) λr522=>.br 0 r522 (.done (.inr (.inl l520))) (.done (.inl (Q0 (l520+1))))) (.done (.inr (.inr ())))) 0) (λ(e523:Int)=>Ext.l .ret [(4,.i e523)] []) (λ(e524:Unit)=>Ext.l (.exit 0) [(4,.i 0)] []) (λe523=>.done e523) (λe524=>.done (-1))
def Si(p0:List ze):Sp (Int):=oF [0,1,4,5,7,8,9,16] Tryz.func173 [Sl 1 Z6 p0,.fn 115 [] []] (dK p0) (λr=>.int .i64 r)
def dD(p0:List ze):TT (Bool):=.cl 1003 (Si p0) λr525=>.done (decide ((0:Int)<=r525))
def Ss(p0:List ze):Sp (Bool):=oF [0,1,4] Tryz.func114 [Sl 1 Z6 p0,.fn 115 [] []] (dD p0) (λr=>.bool r)
def Qmd(p0:List Int)(p1:Int):TT (Int):=.QA 1 (.lp (λ(l534:Int)=>Ext.l .normal [(0,Sl 1 Q5 p0),(1,.i p1),(4,.i 0),(7,.i (E6 Q5 p0)),(8,.i l534)] []) (λl534=>.br 0 (decide (l534 < (E6 Q5 p0))) (.row 4004 Q5 p0 l534.toNat (decide (0<=l534)) λx535=>.br 0 (p1==x535) (.done (.inr (.inl l534))) (.done (.inl (Q0 (l534+1))))) (.done (.inr (.inr ())))) 0) (λ(e536:Int)=>Ext.l .ret [(4,.i e536)] []) (λ(e537:Unit)=>Ext.l (.exit 0) [(4,.i 0)] []) (λe536=>.done e536) (λe537=>.done (-1))
def vA(p0:List Int)(p1:Int):Sp (Int):=oF [0,1,4,5,7,8,9,16] Tryz.func176 [Sl 1 Q5 p0,.i p1] (Qmd p0 p1) (λr=>.int .i64 r)
def Qew(p0:List Int)(p1:Int):TT (Bool):=.cl 1003 (vA p0 p1) λr538=>.done (decide ((0:Int)<=r538))
def Qqj(p0:List Int)(p1:Int):Sp (Bool):=oF [0,1,4] Tryz.func119 [Sl 1 Q5 p0,.i p1] (Qew p0 p1) (λr=>.bool r)
def Qmm(p0:Q8)(p1:H6):TT (Int):=.br 0 (p1.QC==1) (.done (Q0 (p1.Jq+(p0.fe.fh.size:Int)))) (.br 0 (p1.QC==2) (.done (Q0 ((Q0 (p1.Jq+(p0.fe.fh.size:Int)))+(p0.fe.fj.fh.size:Int)))) (.done p1.Jq))
def vD(p0:Q8)(p1:H6):Sp (Int):=oF [0,1,3,4,6,7,18] Tryz.func178 [.snap (A9 p0),.agg (G7.c p1)] (Qmm p0 p1) (λr=>.int .i64 r)
def Qeu(p0:Q8)(p1:H6):TT (Bool):=.QV 1 [67] (.oR 1010 (p0.fe.fp != p1.Jb) (.oR 1020 (p0.fe.fo != p1.Yg) (.oR 1030 (decide (p0.fe.fm < p1.ZW)) (.oR 1040 (decide (p1.Ug < p0.fe.fm)) (.cl 1048 (vD p0 p1) λr543=>.oR 1052 ((p0.fe.fB.size:Int) != r543) (.done (!(p1.UC==(decide ((0:Int)<=p0.fe.fq.fE)))))))))) zm λc544=>.br 0 c544 (.done false) (.bind 0 (.br 0 (p1.QC==0) (.QV 7 [5] (.an 7009 ((decide (p0.fe.fj.fA=zg))&&((decide (p0.fe.fj.fO=zg))&&((decide (p0.fe.fj.fh=zg))&&true))) (.done (decide (p0.fe.fH=zg)))) zm λc545=>.done c545) (.br 0 (p1.QC==1) (.QV 9 [5] (.view 9014 (Vy [p0.fe.fj.fA,p0.fe.fj.fO]) [] λr546=>.an 9016 r546 (.an 9025 (decide (p0.fe.fj.fh=zg)) (.done (decide (p0.fe.fH=zg))))) zm λc547=>.done c547) (.QV 5 [5] (.view 5019 (Vy [p0.fe.fj.fA,p0.fe.fj.fO,p0.fe.fH]) [] λr548=>.an 5021 r548 (.cl 5027 (lL p0.fe.fj.fh) λr549=>.done r549)) zm λc550=>.done c550))) (λ(e551:Bool)=>Ext.l .normal [(0,.snap (A9 p0)),(3,.ptr 3 0 0),(4,.bool false),(5,.bool e551)] [(3,⟨8,true,[(G7.c p1)]⟩)]) (λe551=>.br 0 (p1.KW==0) (.QV 11 [4] (.an 11003 e551 (.done ((E6 Z0 p0.fe.fM)==0))) zm λc552=>.done c552) (.QV 12 [4] (.an 12003 e551 (.an 12012 ((E6 Z0 p0.fe.fM)==1) (.row 12017 Z0 p0.fe.fM 0 true λx553=>.cl 12019 (s58 x553) λr554=>.an 12023 (r554==0) (.row 12028 Z0 p0.fe.fM 0 true λx555=>.an 12036 (x555.fw==p1.KW) (.row 12041 Z0 p0.fe.fM 0 true λx556=>.done (x556.fU==(Q0 (p0.fe.fm - 1)))))))) zm λc557=>.done c557)))
def Qqz(p0:Q8)(p1:H6):Sp (Bool):=oF [0,1,3,4,5,67,69,98,115,150] Tryz.func122 [.snap (A9 p0),.agg (G7.c p1)] (Qeu p0 p1) (λr=>.bool r)
def Qme(p0:List H6)(p1:Q8):TT (Int):=.QA 1 (.lp (λ(l559:Int)=>Ext.l .normal [(0,Sl 8 G7 p0),(1,.fn 122 [.snap (A9 p1)] []),(4,.i 0),(7,.i (E6 G7 p0)),(8,.i l559)] []) (λl559=>.br 0 (decide (l559 < (E6 G7 p0))) (.row 4004 G7 p0 l559.toNat (decide (0<=l559)) λx560=>.cl 4006 (Qqz p1 x560) λr561=>.br 0 r561 (.done (.inr (.inl l559))) (.done (.inl (Q0 (l559+1))))) (.done (.inr (.inr ())))) 0) (λ(e562:Int)=>Ext.l .ret [(4,.i e562)] []) (λ(e563:Unit)=>Ext.l (.exit 0) [(4,.i 0)] []) (λe562=>.done e562) (λe563=>.done (-1))
def vX(p0:List H6)(p1:Q8):Sp (Int):=oF [0,1,4,5,7,8,9,16] Tryz.func177 [Sl 8 G7 p0,.fn 122 [.snap (A9 p1)] []] (Qme p0 p1) (λr=>.int .i64 r)
def Qeh(p0:List H6)(p1:Q8):TT (Bool):=.cl 1003 (vX p0 p1) λr564=>.done (decide ((0:Int)<=r564))
def Qqy(p0:List H6)(p1:Q8):Sp (Bool):=oF [0,1,4] Tryz.func120 [Sl 8 G7 p0,.fn 122 [.snap (A9 p1)] []] (Qeh p0 p1) (λr=>.bool r)
def g65(p0:Q8):TT (Bool):=.bind 0 (.br 0 (p0.fe.fp==2) (.view 3007 (Vy [p0.fe.fX]) [] λr512=>.done r512) (.done (decide (p0.fe.fX=zg)))) (λ(e513:Bool)=>Ext.l .normal [(0,.snap (A9 p0)),(2,.bool false),(3,.bool e513)] []) (λe513=>.bind 0 (.br 0 (p0.fe.fo==7) (.gh 0 (.Qb 33 600014) (.done [2,4,6,9,10])) (.gh 0 (.Qb 26 600014) (.done [0]))) (λ(e514:(List Int))=>Ext.of .normal [(0,.snap (A9 p0)),(2,.bool false),(3,.bool e513),(4,Rf 600014 e514)] [] [Bt 600014 Q5 1 e514] (by rfl)) (λe514=>.QV 7 [5] (.an 7009 (decide ((E6 Z6 p0.fe.fJ)<=8)) (.cl 7014 (Ss p0.fe.fJ) λr526=>.done (!r526))) zm λc527=>.QV 8 [6] (.an 8008 (decide ((0:Int)<=p0.fe.fk)) (.an 8016 (decide (p0.fe.fk<=1099511627776)) (.view 8032 (Vy [p0.fe.fY,p0.fe.fW,p0.fe.fA]) [] λr528=>.an 8035 r528 (.an 8038 e513 (.an 8041 c527 (.cl 8046 (lL p0.fe.fh) λr529=>.done r529)))))) zm λc530=>.QV 9 [2] (.an 9003 c530 (.cl 9008 (lO p0.fe.fq) λr531=>.an 9012 (r531==0) (.view 9018 (Qqj e514 p0.fe.fZ) [(Zs.o 600014 Q5 e514)] λr539=>.an 9021 r539 (.cl 9021 Qxp λr540=>.cl 9024 (Qqy r540 p0) λr565=>.done r565)))) zm λc566=>.done c566))
def s65(p0:Q8):Sp (Bool):=oF [0,2,3,4,5,6,18,32] Tryz.func65 [.snap (A9 p0)] (g65 p0) (λr=>.bool r)
def g28(p0:Q2):TT (Int):=.gh 4 (.tell 3 [(H4 (W7 p0) [.str zg,.sl false 3 (List.map Z0.c [])])]) (.view 2001 (s65 (Q8.mk p0 zg [])) [] λr512=>.br 0 (!r512) (.done 200) (.done 0))
def tE(p0:Q2):Sp (Int):=oF [0,1,2,3,7] Tryz.func28 [.agg (W7 p0)] (g28 p0) (λr=>.int .i64 r)
def g60(p0:List ze):TT Unit:=.app 3003 Z6 [] p0 16 true (by intros;rfl) (.done ())
theorem Qiu:Y0 Tryz.prog GG [2] 8 (Eo Tryz.f60.body) (Ext.l .normal [(2,.Qh)] []) (.done ():TT Unit) (λ_=>Ext.l .ret [(2,.Qh)] []):=by unfold Y0;kernel_rfl
theorem Qih(p0:List ze):Y0 Tryz.prog GG [0,2,5,6,7] 8 (Kw Tryz.f60.body) (Ext.l .normal [(0,.sl false 1 (List.map Z6.c p0)),(2,.Qh)] []) (g60 p0) (λ_=>Ext.of .ret [(2,.ref 7 0 ([]++p0).length)] [] [BT.of 7 Z6 1 ([]++p0)] (by rfl)):=by unfold Y0;kernel_rfl
theorem k60(p0:(List ze)){r:Unit}(h:(g60 p0).run=some r):QS Tryz.prog GG 60 [.sl false 1 (List.map Z6.c p0)] (Qe []) (.ref 7 0 p0.length) (Qe [(7,⟨1,true,List.map Z6.c p0⟩)]):=
 RA (ty:=Z6) (ops0:=Lv Tryz.f60.body) (ops1:=Lt Tryz.f60.body) (yes:=Eo Tryz.f60.body) (rest:=Kw Tryz.f60.body) (t:=40) Q9 (by decide) Tryz.func60 (by kernel_rfl) (by kernel_rfl) (by kernel_rfl) (by kernel_rfl) (by kernel_rfl) (by kernel_rfl) (by kernel_rfl) (by kernel_rfl) (by kernel_rfl) Qiu (Qih p0) (by rfl) h
def s60(p0:List ze):Sp Unit:=⟨60,[Sl 1 Z6 p0],[],(g60 p0).run,λ_=>Rf 7 p0,λ_=>[(7,⟨1,true,List.map Z6.c p0⟩)],[7],λ_ p hp _=>by rw[wH.1 hp];exact Z6.data _,λ_ h=>k60 p0 h⟩
def g30(p0:Int)(p1 p2 p3 p4 p5:ze)(p6:List ze)(p7:Int):TT (Q2×Int):=.call 1009 (s60 p6) [] [(7,500015)] λr513=>.cl 1010 s66 λr514=>.view 2002 (tE (Q2.mk p0 1 p7 p1 p2 p3 p4 p5 p6 0 zg (W9.mk zg zg zg) zg [] r514 0)) [(Zs.o 500015 Z6 p6)] λr515=>.br 0 (r515 != 0) (.done ((Q2.mk 0 0 0 zg zg zg zg zg [] 0 zg (W9.mk zg zg zg) zg [] (Z9.mk 0 0 0) 0),2)) (.cl 4002 (s46 p2) λr516=>.cl 5002 (s67 p1) λr517=>.QV 6 [55] (.oR 6004 (r517.2 != 0) (.done (!decide (r517.1=r516.1.fI)))) zm λc518=>.br 0 c518 (.done ((Q2.mk 0 0 0 zg zg zg zg zg [] 0 zg (W9.mk zg zg zg) zg [] (Z9.mk 0 0 0) 0),2)) (.gh 0 (.share (Zs.o 500015 Z6 p6) 1) (.done ((Q2.mk p0 1 p7 p1 p2 p3 p4 p5 p6 0 zg (W9.mk zg zg zg) zg [] r514 0),0))))
def s30(p0:Int)(p1 p2 p3 p4 p5:ze)(p6:List ze)(p7:Int):Sp (Q2×Int):=oF [0,1,2,3,4,5,6,7,16,17,18,19,21,22,36,55] Tryz.func30 [.i p0,.str p1,.str p2,.str p3,.str p4,.str p5,Sl 1 Z6 p6,.i p7] (g30 p0 p1 p2 p3 p4 p5 p6 p7) (λr=>.Qt [.agg (W7 r.1),.i r.2])
def Ld(p:Q8):List V:=(A9 p)
def s57(p0:Bool)(p1:Int):Sp (Unit):=oF [0,1,5] Tryz.func57 [.bool p0,.i p1] (.br 0 (!p0) (.fail) (.done ()):TT (Unit)) (λr=>.Qt [])
def Qm0(p0:ze)(p1:Int):TT (ze):=.cl 1004 (s57 (p1==0) p1) λr521=>.done p0
def Fl(p0:ze)(p1:Int):Sp (ze):=oF [0,1,4] Tryz.func213 [.str p0,.i p1] (Qm0 p0 p1) (λr=>.str r)
def Qju(p0:Q8):TT (ze):=.cl 1006 (s67 p0.fe.fW) λr520=>.cl 1009 (Fl r520.1 r520.2) λr522=>.done r522
def uW(p0:Q8):Sp (ze):=oF [0,2] Tryz.func160 [.snap (A9 p0)] (Qju p0) (λr=>.str r)
def Qm2(p0:Z9)(p1:Int):TT (Z9):=.cl 1004 (s57 (p1==0) p1) λr527=>.done p0
def tV(p0:Z9)(p1:Int):Sp (Z9):=oF [0,1,2,4] Tryz.func211 [.agg [.i p0.fE,.i p0.fV,.i p0.fL],.i p1] (Qm2 p0 p1) (λr=>.agg [.i r.fE,.i r.fV,.i r.fL])
def Qjh(p0 p1:Int)(p2:ze)(p3:Q8):TT (Int×Int×Int×Int×(List Qq)):=.cl 3002 s66 λr524=>.QV 4 [54] (.an 4004 (p0 != 1) (.done (p0 != 6))) zm λc525=>.br 0 c525 (.cl 5007 (tT p3.fe.fk) λr526=>.cl 5010 (tV r526.1 r526.2) λr528=>.gh 0 (.share (Zs.o 30 Z0 [(Qq.mk p1 p3.fe.fm p2)]) 0) (.gh 0 (.share (Zs.o 32 Z0 [(Qq.mk p1 p3.fe.fm p2)]) 0) (.done (r528.fE,r528.fV,r528.fL,(Q0 (p3.fe.fm+1)),[(Qq.mk p1 p3.fe.fm p2)])))) (.gh 0 (.share (Zs.o 30 Z0 [(Qq.mk p1 p3.fe.fm p2)]) 0) (.gh 0 (.share (Zs.o 32 Z0 [(Qq.mk p1 p3.fe.fm p2)]) 0) (.done (r524.fE,r524.fV,r524.fL,(Q0 (p3.fe.fm+1)),[(Qq.mk p1 p3.fe.fm p2)]))))
def Fg(p0 p1:Int)(p2:ze)(p3:Q8):Sp (Int×Int×Int×Int×(List Qq)):=.Ze 159 [] Q9 Tryz.func159 rfl (λ_=>rfl) (show Jx Pg GG [0,1,2,3,8,9,54] Tryz.f159 [.ptr zE 0 0,.i p0,.i p1,.str p2] (Ext.of .normal (U5 [.ptr zE 0 0,.i p0,.i p1,.str p2]) [(zE,⟨22,true,[(A9 p3)]⟩)] [] (by rfl)) (Qjh p0 p1 p2 p3) (λ(r:Int×Int×Int×Int×(List Qq))=>.agg [.i p1,.i p3.fe.fm,.str p2]) (λ(r:Int×Int×Int×Int×(List Qq))=>Ext.of .normal [] [(zE,⟨22,true,[(A9 { p3 with fe:={ p3.fe with fo:=p0,fm:=r.2.2.2.1,fM:=r.q,fq:=⟨r.1,r.2.1,r.2.2.1⟩ },QG:=r.q })]⟩)] [] (by rfl)) by unfold Jx;kernel_rfl)
def Qjd(p0:Q8):TT (Int×Int×(List Qq)×Int×Int×Int):=.view 8 (uW p0) [] λr523=>.Qf 9 (decide (p0.fe.fA.size+r523.size<=9223372036854775807)) (.call 10 (Fg 2 1 (p0.fe.fA++r523) p0) [(zE,zE)] [] λr529=>.done (2,r529.2.2.2.1,r529.q,r529.1,r529.2.1,r529.2.2.1))
def Qht(p0:Q8):Sp (Int×Int×(List Qq)×Int×Int×Int):=.Ze 106 [] Q9 Tryz.func106 rfl (λ_=>rfl) (show Jx Pg GG [0] Tryz.f106 [.ptr zE 0 0] (Ext.of .normal (U5 [.ptr zE 0 0]) [(zE,⟨22,true,[(A9 p0)]⟩)] [] (by rfl)) (Qjd p0) (λ(r:Int×Int×(List Qq)×Int×Int×Int)=>.Qt []) (λ(r:Int×Int×(List Qq)×Int×Int×Int)=>Ext.of .normal [] [(zE,⟨22,true,[(A9 { p0 with fe:={ p0.fe with fo:=r.1,fm:=r.2.1,fM:=r.2.2.1,fq:=⟨r.2.2.2.1,r.q.1,r.q.2⟩ },QG:=r.2.2.1 })]⟩)] [] (by rfl)) by unfold Jx;kernel_rfl)
def dZ(p0:Bool)(p1:Int):TT ((Unit)⊕(Unit)):=.br 0 (!p0) (.Qz 1003 (Qw.Zw 124 (.tmp 7) 8 (.agg [.int .i64 p1]) (.agg #[.int .i64 p1]) rfl (by kernel_rfl)) λ_=>.Hn 1004 (.done (.inr ()))) (.done (.inl ()))
theorem Qk1(p0:Bool)(p1:Int):Hi Tryz.prog GG [0,1,5] Tryz.f57 [.bool p0,.i p1] (Ext.of .normal (U5 [.bool p0,.i p1]) [] [] (by rfl)) (dZ p0 p1) (λ(_:Unit)=>.Qt []) (λ(r:Unit)=>Ext.of .normal [] [] [] (by rfl)) (λ(r:Unit)=>K2 (.iface 124 (.agg #[.int .i64 p1]))) (λ(r:Unit)=>Ext.of .normal [] [] [] (by rfl)):=by unfold Hi;kernel_rfl
def A5(p0:Bool)(p1:Int):L5 Tryz.prog GG (Unit) (Unit):=.ofFn 57 [] Q9 Tryz.func57 rfl (λ_=>rfl) (λ_=>rfl) (Qk1 p0 p1)
def Qj3(p0:Qq)(p1:Q8):TT (ze):=.Qf 2021 (decide ((strOfNums [(Qm p0.fw),(Qm (Z3 .i64 (p0.fG.size:Int) 16)),(Qm (Z3 .i64 (p0.fG.size:Int) 8)),(Qm (p0.fG.size:Int))]).size+p0.fG.size<=9223372036854775807)) (.Qf 2022 (decide (p1.fe.fB.size+((strOfNums [(Qm p0.fw),(Qm (Z3 .i64 (p0.fG.size:Int) 16)),(Qm (Z3 .i64 (p0.fG.size:Int) 8)),(Qm (p0.fG.size:Int))])++p0.fG).size<=9223372036854775807)) (.done (p1.fe.fB++((strOfNums [(Qm p0.fw),(Qm (Z3 .i64 (p0.fG.size:Int) 16)),(Qm (Z3 .i64 (p0.fG.size:Int) 8)),(Qm (p0.fG.size:Int))])++p0.fG))))
def An(p0:Qq)(p1:Q8):Sp (ze):=.Ze 214 [] Q9 Tryz.func214 rfl (λ_=>rfl) (show Jx Pg GG [0,1,3,4] Tryz.f214 [.ptr zE 0 0,.agg (Z0.c p0)] (Ext.of .normal (U5 [.ptr zE 0 0,.agg (Z0.c p0)]) [(zE,⟨22,true,[(A9 p1)]⟩)] [] (by rfl)) (Qj3 p0 p1) (λ(r:ze)=>.Qt []) (λ(r:ze)=>Ext.of .normal [] [(zE,⟨22,true,[(A9 { p1 with fe:={ p1.fe with fB:=r } })]⟩)] [] (by rfl)) by unfold Jx;kernel_rfl)
def Qjj(p0:ze)(p1:Q8):TT ((Int×Int×ze×(List Qq)×Int×Int×Int)⊕(Int)):=.Qi 4 (A5 ((p0.size:Int)==32) 5) [] [] (λr530=>.Qi 1007 (A5 (decide (p1.fe.fm < 7)) 3) [] [] (λr531=>.view 2008 (uW p1) [] λr532=>.Qf 2009 (decide (p1.fe.fA.size+r532.size<=9223372036854775807)) (.Qf 2011 (decide ((p1.fe.fA++r532).size+p0.size<=9223372036854775807)) (.call 2012 (Fg 3 1 ((p1.fe.fA++r532)++p0) p1) [(zE,zE)] [] λr533=>.call 4003 (An (Qq.mk 1 p1.fe.fm ((p1.fe.fA++r532)++p0)) { p1 with fe:={ p1.fe with fo:=3,fm:=r533.2.2.2.1,fB:=zg,fM:=r533.q,fq:=Z9.mk r533.1 r533.2.1 r533.2.2.1 },QG:=r533.q }) [(zE,zE)] [] λr534=>.done (.inl (3,r533.2.2.2.1,r534,r533.q,r533.1,r533.2.1,r533.2.2.1))))) (λr535=>.done (.inr 3))) (λr536=>.done (.inr 5))
theorem Qii(p0:ze)(p1:Q8):Hi Tryz.prog GG [0,1,4] Tryz.f161 [.ptr 1000000 0 0,.str p0] (Ext.of .normal (U5 [.ptr 1000000 0 0,.str p0]) [(1000000,⟨22,true,[(A9 p1)]⟩)] [] (by rfl)) (Qjj p0 p1) (λ(r:Int×Int×ze×(List Qq)×Int×Int×Int)=>.Qt []) (λ(r:Int×Int×ze×(List Qq)×Int×Int×Int)=>Ext.of .normal [] [(1000000,⟨22,true,[(A9 { p1 with fe:={ p1.fe with fo:=r.1,fm:=r.2.1,fB:=r.2.2.1,fM:=r.2.2.2.1,fq:=⟨r.q.1,r.q.2.1,r.q.2.2⟩ },QG:=r.2.2.2.1 })]⟩)] [] (by rfl)) (λ(r:Int)=>K2 (.iface 124 (.agg #[.int .i64 r]))) (λ(r:Int)=>Ext.of .normal [] [(1000000,⟨22,true,[(A9 p1)]⟩)] [] (by rfl)):=by unfold Hi;kernel_rfl
def vV(p0:ze)(p1:Q8):L5 Pg GG (Int×Int×ze×(List Qq)×Int×Int×Int) (Int):=.ofFn 161 [] Q9 Tryz.func161 rfl (λ_=>rfl) (λ_=>rfl) (Qii p0 p1)
def Qj2(p0:ze)(p1:Q8):TT ((ze×ze×Int×Int×Int)⊕(Bool×Int)):=.cl 1002 (s46 p0) λr538=>.Qi 2003 (A5 (r538.2==0) 5) [] [] (λr539=>.cl 3012 (tL r538.1 p1.fe.fJ p1.fe.fk) λr540=>.br 0 (r540 != 0) (.Qz 5003 (Qw.Zw 171 (.tmp 31) 32 (.agg [.int .i64 r540]) (.agg #[.int .i64 r540]) rfl (by kernel_rfl)) λ_=>.Hn 5004 (.done (.inr (true,r540)))) (.done (.inl (r538.1.ft,r538.1.fI,r538.1.fF,r538.1.fC,r538.1.fQ)))) (λr541=>.done (.inr (false,5)))
theorem Qik(p0:ze)(p1:Q8):Hi Tryz.prog GG [0,1,4,5,6,7,29] Tryz.f215 [.ptr 1000000 0 0,.str p0] (Ext.of .normal (U5 [.ptr 1000000 0 0,.str p0]) [(1000000,⟨22,true,[(A9 p1)]⟩)] [] (by rfl)) (Qj2 p0 p1) (λ(r:ze×ze×Int×Int×Int)=>.agg [.str r.1,.str r.2.1,.i r.2.2.1,.i r.2.2.2.1,.i r.q]) (λ(r:ze×ze×Int×Int×Int)=>Ext.of .normal [] [(1000000,⟨22,true,[(A9 p1)]⟩)] [] (by rfl)) (λ(r:Bool×Int)=>K2 (.iface (bif r.1 then 171 else 124) (.agg #[.int .i64 r.2]))) (λ(r:Bool×Int)=>Ext.of .normal [] [(1000000,⟨22,true,[(A9 p1)]⟩)] [] (by rfl)):=by unfold Hi;kernel_rfl
def tC(p0:ze)(p1:Q8):L5 Pg GG (ze×ze×Int×Int×Int) (Bool×Int):=.ofFn 215 [] Q9 Tryz.func215 rfl (λ_=>rfl) (λ_=>rfl) (Qik p0 p1)
def Qj0(p0 p1:ze):TT ((ze)⊕(Int)):=.cl 1003 (tO p0 p1) λr543=>.br 0 (r543.2 != 0) (.Qz 3003 (Qw.Zw 171 (.tmp 16) 17 (.agg [.int .i64 r543.2]) (.agg #[.int .i64 r543.2]) rfl (by kernel_rfl)) λ_=>.Hn 3004 (.done (.inr r543.2))) (.done (.inl r543.1))
theorem Qiw(p0 p1:ze):Hi Tryz.prog GG [0,1,4,5,6,14] Tryz.f217 [.str p0,.str p1] (Ext.of .normal (U5 [.str p0,.str p1]) [] [] (by rfl)) (Qj0 p0 p1) (λ(r:ze)=>.str r) (λ(r:ze)=>Ext.of .normal [] [] [] (by rfl)) (λ(r:Int)=>K2 (.iface 171 (.agg #[.int .i64 r]))) (λ(r:Int)=>Ext.of .normal [] [] [] (by rfl)):=by unfold Hi;kernel_rfl
def uZ(p0 p1:ze):L5 Pg GG (ze) (Int):=.ofFn 217 [] Q9 Tryz.func217 rfl (λ_=>rfl) (λ_=>rfl) (Qiw p0 p1)
def Qj1(p0 p1 p2 p3:ze)(p4:Q8):TT (ze):=.Qf 4 (decide (p0.size+p1.size<=9223372036854775807)) (.Qf 7 (decide (p2.size+p3.size<=9223372036854775807)) (.cl 8 (s94 (p0++p1) (p2++p3) (bs [116,97,110,110,111,121,32,109,97,115,116,101,114]) 32) λr548=>.cl 11 (Fl r548.1 r548.2) λr549=>.done r549))
def tB(p0 p1 p2 p3:ze)(p4:Q8):Sp (ze):=.Ze 216 [] Q9 Tryz.func216 rfl (λ_=>rfl) (show Jx Pg GG [0,1,2,3,4] Tryz.f216 [.ptr zE 0 0,.str p0,.str p1,.str p2,.str p3] (Ext.of .normal (U5 [.ptr zE 0 0,.str p0,.str p1,.str p2,.str p3]) [(zE,⟨22,true,[(A9 p4)]⟩)] [] (by rfl)) (Qj1 p0 p1 p2 p3 p4) (λ(r:ze)=>.Qt []) (λ(r:ze)=>Ext.of .normal [] [(zE,⟨22,true,[(A9 { p4 with fe:={ p4.fe with fH:=r } })]⟩)] [] (by rfl)) by unfold Jx;kernel_rfl)
def Qyv(p0:Q8)(p1 p2:ze):TT (ze):=.cl 1007 (s94 p0.fe.fH zg p1 32) λr552=>.cl 1010 (Fl r552.1 r552.2) λr553=>.cl 2003 (s95 p2) λr554=>.cl 2006 (Fl r554.1 r554.2) λr555=>.cl 2007 (s96 r553 r555) λr556=>.cl 2010 (Fl r556.1 r556.2) λr557=>.done r557
def uQ(p0:Q8)(p1 p2:ze):Sp (ze):=oF [0,1,2,6,7] Tryz.func218 [.snap (A9 p0),.str p1,.str p2] (Qyv p0 p1 p2) (λr=>.str r)
def Qjy(p0:ze)(p1:Q8):TT ((Q2×(List Qq))⊕(ze×ze×ze×Bool×Int)):=.Qi 4 (A5 (decide ((64:Int) < (p0.size:Int))) 5) [] [] (λr537=>.Qf 1003 (decide (0<=(64:Int))&&decide ((64:Int)<=(p0.size:Int))) (.Qi 1004 (tC (p0.extract 64 p0.size) p1) [(zE,zE)] [] (λr542=>.Qf 2003 (decide (0<=(32:Int))&&decide ((32:Int)<=(p0.size:Int))) (.Qf 2005 ((decide (0<=(64:Int))&&decide ((64:Int)<=(p0.size:Int)))&&true) (.Qf 2007 (decide (0<=(64:Int))&&decide ((64:Int)<=(p0.size:Int))) (.Qi 3009 (uZ p1.fe.fW r542.2.1) [] [] (λr544=>.Qi 3021 (uZ p1.fe.fY (p0.extract 32 64)) [] [] (λr545=>.call 3033 (tB r544 r545 p1.fe.fA (p0.extract 0 32) { p1 with fe:={ p1.fe with fj:=W9.mk (p0.extract 0 32) (p0.extract 32 64) (p0.extract 64 p0.size) } }) [(zE,zE)] [] λr550=>.call 4004 (An (Qq.mk 3 0 p0) { p1 with fe:={ p1.fe with fj:=W9.mk (p0.extract 0 32) (p0.extract 32 64) (p0.extract 64 p0.size),fH:=r550 } }) [(zE,zE)] [] λr551=>.Qf 5014 (decide (r551.size+p1.fe.fh.size<=9223372036854775807)) (.view 5015 (uQ { p1 with fe:={ p1.fe with fB:=r551,fj:=W9.mk (p0.extract 0 32) (p0.extract 32 64) (p0.extract 64 p0.size),fH:=r550 } } (bs [99,108,105,101,110,116]) (r551++p1.fe.fh)) [] λr558=>.Qf 5021 (decide (r558.size+p1.fe.fh.size<=9223372036854775807)) (.call 5022 (Fg 5 4 (r558++p1.fe.fh) { p1 with fe:={ p1.fe with fB:=r551,fj:=W9.mk (p0.extract 0 32) (p0.extract 32 64) (p0.extract 64 p0.size),fH:=r550 } }) [(zE,zE)] [] λr559=>.call 5023 (An (Qq.mk 4 p1.fe.fm (r558++p1.fe.fh)) { p1 with fe:={ p1.fe with fo:=5,fm:=r559.2.2.2.1,fB:=r551,fj:=W9.mk (p0.extract 0 32) (p0.extract 32 64) (p0.extract 64 p0.size),fH:=r550,fM:=r559.q,fq:=Z9.mk r559.1 r559.2.1 r559.2.2.1 },QG:=r559.q }) [(zE,zE)] [] λr560=>.done (.inl ({ p1.fe with fo:=5,fm:=r559.2.2.2.1,fB:=r560,fj:=W9.mk (p0.extract 0 32) (p0.extract 32 64) (p0.extract 64 p0.size),fH:=r550,fM:=r559.q,fq:=Z9.mk r559.1 r559.2.1 r559.2.2.1 },r559.q))))) (λr561=>.done (.inr ((p0.extract 0 32),(p0.extract 32 64),(p0.extract 64 p0.size),true,r561)))) (λr562=>.done (.inr ((p0.extract 0 32),(p0.extract 32 64),(p0.extract 64 p0.size),true,r562))))))) (λr563=>.done (.inr (p1.fe.fj.fA,p1.fe.fj.fO,p1.fe.fj.fh,r563.1,r563.2))))) (λr564=>.done (.inr (p1.fe.fj.fA,p1.fe.fj.fO,p1.fe.fj.fh,false,5)))
theorem Qia(p0:ze)(p1:Q8):Hi Tryz.prog GG [0,1,4] Tryz.f162 [.ptr 1000000 0 0,.str p0] (Ext.of .normal (U5 [.ptr 1000000 0 0,.str p0]) [(1000000,⟨22,true,[(A9 p1)]⟩)] [] (by rfl)) (Qjy p0 p1) (λ(r:Q2×(List Qq))=>.Qt []) (λ(r:Q2×(List Qq))=>Ext.of .normal [] [(1000000,⟨22,true,[(H4 (W7 r.1) [.str p1.QJ,.sl false 3 (List.map Z0.c r.2)])]⟩)] [] (by rfl)) (λ(r:ze×ze×ze×Bool×Int)=>K2 (.iface (bif r.2.2.2.1 then 171 else 124) (.agg #[.int .i64 r.q]))) (λ(r:ze×ze×ze×Bool×Int)=>Ext.of .normal [] [(1000000,⟨22,true,[(A9 { p1 with fe:={ p1.fe with fj:=⟨r.1,r.2.1,r.2.2.1⟩ } })]⟩)] [] (by rfl)):=by unfold Hi;kernel_rfl
def vT(p0:ze)(p1:Q8):L5 Pg GG (Q2×(List Qq)) (ze×ze×ze×Bool×Int):=.ofFn 162 [] Q9 Tryz.func162 rfl (λ_=>rfl) (λ_=>rfl) (Qia p0 p1)
def Qjz(p0:ze)(p1:Q8):TT ((ze×Int×Int×Int)⊕(Bool×Int)):=.Qi 4 (A5 ((p0.size:Int)==32) 5) [] [] (λr565=>.view 1008 (uQ p1 (bs [115,101,114,118,101,114]) p1.fe.fB) [] λr566=>.br 0 (!decide (p0=r566)) (.Qz 2002 (Qw.Zw 171 (.tmp 17) 18 (.agg [.int .i64 9]) (.agg #[.int .i64 9]) rfl (by kernel_rfl)) λ_=>.Hn 2003 (.done (.inr (true,9)))) (.call 3004 (An (Qq.mk 5 0 p0) p1) [(zE,zE)] [] λr567=>.cl 4004 s66 λr568=>.done (.inl (r567,r568.fE,r568.fV,r568.fL)))) (λr569=>.done (.inr (false,5)))
theorem Qix(p0:ze)(p1:Q8):Hi Tryz.prog GG [0,1,16] Tryz.f163 [.ptr 1000000 0 0,.str p0] (Ext.of .normal (U5 [.ptr 1000000 0 0,.str p0]) [(1000000,⟨22,true,[(A9 p1)]⟩)] [] (by rfl)) (Qjz p0 p1) (λ(r:ze×Int×Int×Int)=>.Qt []) (λ(r:ze×Int×Int×Int)=>Ext.of .normal [] [(1000000,⟨22,true,[[.i p1.fe.fp,.i 6,.i p1.fe.fk,.str p1.fe.fY,.str p1.fe.fh,.str p1.fe.fW,.str p1.fe.fA,.str p1.fe.fX,.sl false 1 (List.map Z6.c p1.fe.fJ),.i p1.fe.fm,.str r.1,.str p1.fe.fj.fA,.str p1.fe.fj.fO,.str p1.fe.fj.fh,.str p1.fe.fH,.Qh,.i r.2.1,.i r.2.2.1,.i r.2.2.2,.i p1.fe.fZ,.str p1.QJ,.sl false 3 (List.map Z0.c p1.QG)]]⟩)] [] (by rfl)) (λ(r:Bool×Int)=>K2 (.iface (bif r.1 then 171 else 124) (.agg #[.int .i64 r.2]))) (λ(r:Bool×Int)=>Ext.of .normal [] [(1000000,⟨22,true,[(A9 p1)]⟩)] [] (by rfl)):=by unfold Hi;kernel_rfl
def Qhb(p0:ze)(p1:Q8):L5 Pg GG (ze×Int×Int×Int) (Bool×Int):=.ofFn 163 [] Q9 Tryz.func163 rfl (λ_=>rfl) (λ_=>rfl) (Qix p0 p1)
def Qjq(p0:ze)(p1:Q8):TT ((Q2×(List Qq))⊕(Int)):=.br 5 ((p0.size:Int)==64) (.Qi 9 (A5 true 5) [] [] (λr570=>.Qf 1011 (decide (0<=(64:Int))&&decide ((64:Int)<=(p0.size:Int))) (.Qf 1012 (decide (p1.QJ.size+(p0.extract 0 64).size<=9223372036854775807)) (.cl 1013 (s96 p1.fe.fX (p1.QJ++(p0.extract 0 64))) λr571=>.cl 1016 (Fl r571.1 r571.2) λr572=>.Qf 2002 (decide (0<=(64:Int))&&decide ((64:Int)<=(p0.size:Int))) (.br 0 (!decide ((p0.extract 64 p0.size)=r572)) (.Qi 3007 (A5 (decide (p1.fe.fm < 6)) 3) [] [] (λr573=>.call 4003 (Fg 1 2 r572 p1) [(zE,zE)] [] λr574=>.done (.inl ({ p1.fe with fo:=1,fm:=r574.2.2.2.1,fM:=r574.q,fq:=Z9.mk r574.1 r574.2.1 r574.2.2.1 },r574.q))) (λr575=>.done (.inr 3))) (.Qf 5003 (decide (0<=(32:Int))&&decide ((32:Int)<=(p0.size:Int))) (.Qf 5005 ((decide (0<=(64:Int))&&decide ((64:Int)<=(p0.size:Int)))&&true) (.call 6004 (An (Qq.mk 1 0 p0) { p1 with fe:={ p1.fe with fj:=W9.mk (p0.extract 0 32) (p0.extract 32 64) zg } }) [(zE,zE)] [] λr576=>.view 7009 (uW { p1 with fe:={ p1.fe with fB:=r576,fj:=W9.mk (p0.extract 0 32) (p0.extract 32 64) zg } }) [] λr577=>.Qf 7010 (decide (p1.fe.fA.size+r577.size<=9223372036854775807)) (.Qf 7016 (decide ((p1.fe.fA++r577).size+p1.fe.fh.size<=9223372036854775807)) (.call 7017 (Fg 4 3 ((p1.fe.fA++r577)++p1.fe.fh) { p1 with fe:={ p1.fe with fB:=r576,fj:=W9.mk (p0.extract 0 32) (p0.extract 32 64) zg } }) [(zE,zE)] [] λr578=>.call 7018 (An (Qq.mk 3 p1.fe.fm ((p1.fe.fA++r577)++p1.fe.fh)) { p1 with fe:={ p1.fe with fo:=4,fm:=r578.2.2.2.1,fB:=r576,fj:=W9.mk (p0.extract 0 32) (p0.extract 32 64) zg,fM:=r578.q,fq:=Z9.mk r578.1 r578.2.1 r578.2.2.1 },QG:=r578.q }) [(zE,zE)] [] λr579=>.done (.inl ({ p1.fe with fo:=4,fm:=r578.2.2.2.1,fB:=r579,fj:=W9.mk (p0.extract 0 32) (p0.extract 32 64) zg,fM:=r578.q,fq:=Z9.mk r578.1 r578.2.1 r578.2.2.1 },r578.q))))))))))) (λr580=>.fail)) (.Qi 9 (A5 ((p0.size:Int)==96) 5) [] [] (λr581=>.Qf 1011 (decide (0<=(64:Int))&&decide ((64:Int)<=(p0.size:Int))) (.Qf 1012 (decide (p1.QJ.size+(p0.extract 0 64).size<=9223372036854775807)) (.cl 1013 (s96 p1.fe.fX (p1.QJ++(p0.extract 0 64))) λr582=>.cl 1016 (Fl r582.1 r582.2) λr583=>.Qf 2002 (decide (0<=(64:Int))&&decide ((64:Int)<=(p0.size:Int))) (.br 0 (!decide ((p0.extract 64 p0.size)=r583)) (.Qi 3007 (A5 (decide (p1.fe.fm < 6)) 3) [] [] (λr584=>.call 4003 (Fg 1 2 r583 p1) [(zE,zE)] [] λr585=>.done (.inl ({ p1.fe with fo:=1,fm:=r585.2.2.2.1,fM:=r585.q,fq:=Z9.mk r585.1 r585.2.1 r585.2.2.1 },r585.q))) (λr586=>.done (.inr 3))) (.Qf 5003 (decide (0<=(32:Int))&&decide ((32:Int)<=(p0.size:Int))) (.Qf 5005 ((decide (0<=(64:Int))&&decide ((64:Int)<=(p0.size:Int)))&&true) (.call 6004 (An (Qq.mk 1 0 p0) { p1 with fe:={ p1.fe with fj:=W9.mk (p0.extract 0 32) (p0.extract 32 64) zg } }) [(zE,zE)] [] λr587=>.view 7009 (uW { p1 with fe:={ p1.fe with fB:=r587,fj:=W9.mk (p0.extract 0 32) (p0.extract 32 64) zg } }) [] λr588=>.Qf 7010 (decide (p1.fe.fA.size+r588.size<=9223372036854775807)) (.Qf 7016 (decide ((p1.fe.fA++r588).size+p1.fe.fh.size<=9223372036854775807)) (.call 7017 (Fg 4 3 ((p1.fe.fA++r588)++p1.fe.fh) { p1 with fe:={ p1.fe with fB:=r587,fj:=W9.mk (p0.extract 0 32) (p0.extract 32 64) zg } }) [(zE,zE)] [] λr589=>.call 7018 (An (Qq.mk 3 p1.fe.fm ((p1.fe.fA++r588)++p1.fe.fh)) { p1 with fe:={ p1.fe with fo:=4,fm:=r589.2.2.2.1,fB:=r587,fj:=W9.mk (p0.extract 0 32) (p0.extract 32 64) zg,fM:=r589.q,fq:=Z9.mk r589.1 r589.2.1 r589.2.2.1 },QG:=r589.q }) [(zE,zE)] [] λr590=>.done (.inl ({ p1.fe with fo:=4,fm:=r589.2.2.2.1,fB:=r590,fj:=W9.mk (p0.extract 0 32) (p0.extract 32 64) zg,fM:=r589.q,fq:=Z9.mk r589.1 r589.2.1 r589.2.2.1 },r589.q))))))))))) (λr591=>.done (.inr 5)))
theorem Qid(p0:ze)(p1:Q8):Hi Tryz.prog GG [0,1,4,33] Tryz.f164 [.ptr 1000000 0 0,.str p0] (Ext.of .normal (U5 [.ptr 1000000 0 0,.str p0]) [(1000000,⟨22,true,[(A9 p1)]⟩)] [] (by rfl)) (Qjq p0 p1) (λ(r:Q2×(List Qq))=>.Qt []) (λ(r:Q2×(List Qq))=>Ext.of .normal [] [(1000000,⟨22,true,[(H4 (W7 r.1) [.str p1.QJ,.sl false 3 (List.map Z0.c r.2)])]⟩)] [] (by rfl)) (λ(r:Int)=>K2 (.iface 124 (.agg #[.int .i64 r]))) (λ(r:Int)=>Ext.of .normal [] [(1000000,⟨22,true,[(A9 p1)]⟩)] [] (by rfl)):=by unfold Hi;kernel_rfl
def vC(p0:ze)(p1:Q8):L5 Pg GG (Q2×(List Qq)) (Int):=.ofFn 164 [] Q9 Tryz.func164 rfl (λ_=>rfl) (λ_=>rfl) (Qid p0 p1)
def Qj9(p0:ze)(p1:Q8):TT ((Int×Int×ze×ze×ze×(List Qq)×Int×Int×Int)⊕(ze×Bool×Int)):=.Qi 4 (A5 (decide ((32:Int) < (p0.size:Int))) 5) [] [] (λr592=>.Qf 1002 (decide (0<=(32:Int))&&decide ((32:Int)<=(p0.size:Int))) (.Qf 1004 (decide (0<=(32:Int))&&decide ((32:Int)<=(p0.size:Int))) (.Qi 2003 (tC (p0.extract 32 p0.size) p1) [(zE,zE)] [] (λr593=>.Qi 3013 (uZ p1.fe.fY p1.fe.fj.fO) [] [] (λr594=>.Qi 3021 (uZ p1.fe.fW r593.2.1) [] [] (λr595=>.call 3033 (tB r594 r595 p1.fe.fj.fA p1.fe.fA p1) [(zE,zE)] [] λr598=>.Qf 4009 (decide (p1.fe.fB.size+(p0.extract 32 p0.size).size<=9223372036854775807)) (.view 4010 (uQ { p1 with fe:={ p1.fe with fH:=r598 } } (bs [99,108,105,101,110,116]) (p1.fe.fB++(p0.extract 32 p0.size))) [] λr599=>.br 0 (!decide ((p0.extract 0 32)=r599)) (.Qz 5002 (Qw.Zw 171 (.tmp 62) 63 (.agg [.int .i64 9]) (.agg #[.int .i64 9]) rfl (by kernel_rfl)) λ_=>.Hn 5003 (.done (.inr (r598,true,9)))) (.call 7004 (An (Qq.mk 4 0 p0) { p1 with fe:={ p1.fe with fj:=W9.mk p1.fe.fj.fA p1.fe.fj.fO (p0.extract 32 p0.size),fH:=r598 } }) [(zE,zE)] [] λr600=>.view 8009 (uQ { p1 with fe:={ p1.fe with fB:=r600,fj:=W9.mk p1.fe.fj.fA p1.fe.fj.fO (p0.extract 32 p0.size),fH:=r598 } } (bs [115,101,114,118,101,114]) r600) [] λr601=>.call 8010 (Fg 6 5 r601 { p1 with fe:={ p1.fe with fB:=r600,fj:=W9.mk p1.fe.fj.fA p1.fe.fj.fO (p0.extract 32 p0.size),fH:=r598 } }) [(zE,zE)] [] λr602=>.call 8011 (An (Qq.mk 5 p1.fe.fm r601) { p1 with fe:={ p1.fe with fo:=6,fm:=r602.2.2.2.1,fB:=r600,fj:=W9.mk p1.fe.fj.fA p1.fe.fj.fO (p0.extract 32 p0.size),fH:=r598,fM:=r602.q,fq:=Z9.mk r602.1 r602.2.1 r602.2.2.1 },QG:=r602.q }) [(zE,zE)] [] λr603=>.done (.inl (6,r602.2.2.2.1,r603,(p0.extract 32 p0.size),r598,r602.q,r602.1,r602.2.1,r602.2.2.1))))) (λr604=>.done (.inr (p1.fe.fH,true,r604)))) (λr605=>.done (.inr (p1.fe.fH,true,r605)))) (λr606=>.done (.inr (p1.fe.fH,r606.1,r606.2)))))) (λr607=>.done (.inr (p1.fe.fH,false,5)))
theorem Qie(p0:ze)(p1:Q8):Hi Tryz.prog GG [0,1,4,5,6,61] Tryz.f165 [.ptr 1000000 0 0,.str p0] (Ext.of .normal (U5 [.ptr 1000000 0 0,.str p0]) [(1000000,⟨22,true,[(A9 p1)]⟩)] [] (by rfl)) (Qj9 p0 p1) (λ(r:Int×Int×ze×ze×ze×(List Qq)×Int×Int×Int)=>.Qt []) (λ(r:Int×Int×ze×ze×ze×(List Qq)×Int×Int×Int)=>Ext.of .normal [] [(1000000,⟨22,true,[(A9 { p1 with fe:={ p1.fe with fo:=r.1,fm:=r.2.1,fB:=r.2.2.1,fj:={ p1.fe.fj with fh:=r.2.2.2.1 },fH:=r.q.1,fM:=r.q.2.1,fq:=⟨r.q.2.2.1,r.q.2.2.2.1,r.q.q⟩ },QG:=r.q.2.1 })]⟩)] [] (by rfl)) (λ(r:ze×Bool×Int)=>K2 (.iface (bif r.2.1 then 171 else 124) (.agg #[.int .i64 r.2.2]))) (λ(r:ze×Bool×Int)=>Ext.of .normal [] [(1000000,⟨22,true,[(A9 { p1 with fe:={ p1.fe with fH:=r.1 } })]⟩)] [] (by rfl)):=by unfold Hi;kernel_rfl
def vB(p0:ze)(p1:Q8):L5 Pg GG (Int×Int×ze×ze×ze×(List Qq)×Int×Int×Int) (ze×Bool×Int):=.ofFn 165 [] Q9 Tryz.func165 rfl (λ_=>rfl) (λ_=>rfl) (Qie p0 p1)
def Qmn(p0:Bool)(p1:Int):TT (Bool):=.cl 1004 (s57 (p1==0) p1) λr609=>.done p0
def vP(p0:Bool)(p1:Int):Sp (Bool):=oF [0,1,4] Tryz.func166 [.bool p0,.i p1] (Qmn p0 p1) (λr=>.bool r)
def Qjm(p0:Q8):TT ((Int×Int×Int×(List Qq))⊕(Unit)):=.cl 11 (lD p0.fe.fq p0.fe.fk) λr608=>.cl 14 (vP r608.1 r608.2) λr610=>.br 0 (!r610) (.done (.inl (p0.fe.fq.fE,p0.fe.fq.fV,p0.fe.fq.fL,p0.QG))) (.cl 1011 (vR p0.fe.fq p0.fe.fk) λr611=>.br 0 (r611.2 != 0) (.Qz 3002 (Qw.Zw 171 (.tmp 35) 36 (.agg [.int .i64 6]) (.agg #[.int .i64 6]) rfl (by kernel_rfl)) λ_=>.Hn 3003 (.done (.inr ()))) (.done (.inl (r611.1.fE,r611.1.fV,r611.1.fL,p0.fe.fM))))
theorem Qig(p0:Q8):Hi Tryz.prog GG [0,2,3,18,34] Tryz.f108 [.ptr 1000000 0 0] (Ext.of .normal (U5 [.ptr 1000000 0 0]) [(1000000,⟨22,true,[(A9 p0)]⟩)] [] (by rfl)) (Qjm p0) (λ(r:Int×Int×Int×(List Qq))=>.Qt []) (λ(r:Int×Int×Int×(List Qq))=>Ext.of .normal [] [(1000000,⟨22,true,[(A9 { p0 with fe:={ p0.fe with fq:=⟨r.1,r.2.1,r.2.2.1⟩ },QG:=r.2.2.2 })]⟩)] [] (by rfl)) (λ(r:Unit)=>K2 (.iface 171 (.agg #[.int .i64 6]))) (λ(r:Unit)=>Ext.of .normal [] [(1000000,⟨22,true,[(A9 p0)]⟩)] [] (by rfl)):=by unfold Hi;kernel_rfl
def Qhc(p0:Q8):L5 Pg GG (Int×Int×Int×(List Qq)) (Unit):=.ofFn 108 [] Q9 Tryz.func108 rfl (λ_=>rfl) (λ_=>rfl) (Qig p0)
def Qjx(p0:Int)(p1:Q8):TT (Int×Int×Int):=.cl 11 s66 λr612=>.done (r612.fE,r612.fV,r612.fL)
def Qhv(p0:Int)(p1:Q8):Sp (Int×Int×Int):=.Ze 105 [] Q9 Tryz.func105 rfl (λ_=>rfl) (show Jx Pg GG [0,1] Tryz.f105 [.ptr zE 0 0,.i p0] (Ext.of .normal (U5 [.ptr zE 0 0,.i p0]) [(zE,⟨22,true,[(A9 p1)]⟩)] [] (by rfl)) (Qjx p0 p1) (λ(r:Int×Int×Int)=>.Qt []) (λ(r:Int×Int×Int)=>Ext.of .normal [] [(zE,⟨22,true,[(H4 [.i p1.fe.fp,.i 7,.i p1.fe.fk,.str p1.fe.fY,.str p1.fe.fh,.str p1.fe.fW,.str p1.fe.fA,.str p1.fe.fX,Sl 1 Z6 p1.fe.fJ,.i p1.fe.fm] (X9 5 (.str zg) [.Qh,.i r.1,.i r.2.1,.i r.2.2,.i p0,.str p1.QJ,.Qh]))]⟩)] [] (by rfl)) by unfold Jx;kernel_rfl)
noncomputable def cHn:Code:=Tryz.f107.body.getD .skip
def hnC:Code:=cL (cR cHn)
def Yc:Array Oper:=Oo hnC
theorem eHn:hnC=.region 1 Yc true:=by kernel_rfl
def QK(n:Int):V:=.int .i64 n
def pm:V:=.ptr 1000000 0 0
def Ir(f:FuncId):V:=.fn f [pm] []
def A6:List (Nat×List V×List V):=[(4,[QK 1,QK 2,QK 2],[Ir 161]),(8,[QK 1,QK 3,QK 2],[Ir 161]),(12,[QK 1,QK 3,QK 3],[Ir 162]),(16,[QK 1,QK 5,QK 5],[Ir 163]),(20,[QK 2,QK 1,QK 1],[Ir 164]),(24,[QK 2,QK 4,QK 4],[Ir 165])]
def Wf:List Nat:=[1,2,3,5,6,7,9,10,11,13,14,15,17,18,19,21,22,23,25,26,27,28,29,30,31,32,33,34,35,36,37,38,40]
def OU(s t k:Int)(r:List V):Bool:=match r with
 | [.int _ a,.int _ b,.int _ c]=>s==a&&(t==b&&(k==c&&true))
 | _=>false
section
variable (s t k q:Int) (body:ze) (tl:List V) (res:V)
def Ew:List (Nat×V):=[(0,pm),(3,.ptr 3 0 0)]
def Qit:List (Nat×Qa):=[(1000000,⟨22,true,[.int .i64 s :: .int .i64 t :: tl]⟩),(3,⟨3,true,[[.int .i64 k,.int .i64 q,.str body]]⟩)]
def hnS:St:=D2 46 Ew (Qit s t k q body tl) [1000000,3]
def Tq:List (Nat×V):=[(5,.mp 5),(6,.agg [QK 1,QK 2,QK 2]),(7,pm),(8,Ir 161),(9,.agg [QK 1,QK 3,QK 2]),(10,pm),(11,Ir 161),(12,.agg [QK 1,QK 3,QK 3]),(13,pm),(14,Ir 162),(15,.agg [QK 1,QK 5,QK 5]),(16,pm),(17,Ir 163),
 (18,.agg [QK 2,QK 1,QK 1]),(19,pm),(20,Ir 164),(21,.agg [QK 2,QK 4,QK 4]),(22,pm),(23,Ir 165),(24,.mp 5),(25,pm),(26,pm),(27,pm),(28,pm),(29,QK s),(30,pm),(31,pm),(32,pm),(33,.ptr 1000000 0 1),(34,QK t),(35,.ptr 3 0 0),(36,QK k),(37,.agg [QK s,QK t,QK k]),(38,res),(4,res)]
def Qk9:List (Nat×V):=Ew++Tq s t k res
def eG:St:={ hnS s t k q body tl with t:=λi=>Zm (Qk9 s t k res) i }
def hnR(i:Nat):List EV.Loc:=((HG Tryz.prog GG Yc i (eG s t k q body tl res)).map (·.1)).getD []
def hnD(i:Nat):Nat:=(Yk Yc i).getD 0
theorem Qyx:(Wf.map λi=>HG Tryz.prog GG Yc i (eG s t k q body tl res))=Wf.map λi=>some (hnR s t k q body tl res i,[.t (hnD i) ((eG s t k q body tl res).t (hnD i))]):=by kernel_rfl
theorem rI:(Wf.all λi=>(hnR s t k q body tl res i).all λl=>match l with|.t x=>Wt Yc i x|.b b=>b != 5)=true:=by kernel_rfl
theorem Qk8:(Wf.map λi=>Yk Yc i)=Wf.map λi=>some (hnD i):=by kernel_rfl
theorem Qic(x:Nat)(h:∀j,j < Yc.size->Yk Yc j≠some x):(eG s t k q body tl res).t x=(hnS s t k q body tl).t x:=by
 have hk:((Tq s t k res).all λp=>(List.range Yc.size).any λj=>Yk Yc j==some p.1)=true:=by kernel_rfl
 show Zm (Ew++Tq s t k res) x=Zm Ew x;grind [List.any_eq_true,List.all_eq_true,List.mem_of_find?_eq_some,Zm,Tq,absurd]
theorem Qk5(hhit:∀x,x∈A6->OU s t k x.2.1=true->I4 false x.2.2=res)(hmiss:(∀x,x∈A6->OU s t k x.2.1=false)->V.Zx=res) :
  iD Tryz.prog GG Yc (hnS s t k q body tl) (eG s t k q body tl res) 5 0 39 25 (Qwp true false 3 1) 226 225 223 A6 (Wf.map λi=>(i,hnR s t k q body tl res i)) [QK s,QK t,QK k] res .Zx (OU s t k) where
 cov:=by
  have h:((List.range Yc.size).all λi=>i==0 || (i==39 || ((A6.any λx=>x.1==i) || Wf.contains i)))=true:=by kernel_rfl
  intro i hi;have:=zJ.1 h i (by simpa using hi);simp only[zY,beq_iff_eq,List.any_eq_true,wj,zI] at this;rcases this with h|h|h|h
  ·exact .inl h
  ·grind
  ·grind
  ·exact .inr (.inr (.inr ⟨(i,_),zM.2 ⟨i,h,rfl⟩,rfl⟩))
 guard:=by
  have h:(Yc.toList.all λo=>o.guard.isNone)=true:=by kernel_rfl
  intro i o ho;have:=zJ.1 h o (by rw[<-Array.getElem?_toList] at ho;exact zV ho);simpa using this
 sf:=Qic s t k q body tl res
 sfn:=rfl
 sfb:=λ_ _=>⟨rfl,rfl⟩
 fresh:=⟨by rfl,by rfl⟩
 step:=by
  intro x hx;obtain⟨i,hi,rfl⟩:=zM.1 hx;exact⟨hnD i,List.map_inj_left.1 Qk8 i hi,List.map_inj_left.1 (Qyx s t k q body tl res) i hi⟩
 reads:=by
  intro x hx l hl;obtain⟨i,hi,rfl⟩:=zM.1 hx;have:=zJ.1 (zJ.1 (rI s t k q body tl res) i hi) l hl;grind
 make:=by
  have h:(Yc[0]?).map (λo=>(o.op,o.dst))=some (.makeMap 226 none,some 5):=by kernel_rfl
  obtain⟨o,ho,he⟩:=zG.1 h;exact⟨o,ho,congrArg Prod.fst he,congrArg Prod.snd he,by show 5 < 46;decide,by rfl,by decide⟩
 maps:=⟨by kernel_rfl,by kernel_rfl,by kernel_rfl,λh=>(by cases h),λ_=>(by rfl)⟩
 put:=by
  intro x hx;simp only[A6,zR,zZ,or_false] at hx;rcases hx with rfl|rfl|rfl|rfl|rfl|rfl
  ·exact EY.of 5 6 8 (by kernel_rfl) (by rfl) (by kernel_rfl) (by kernel_rfl) (by kernel_rfl) ⟨rfl,rfl,by rfl⟩ (by kernel_rfl) (by kernel_rfl) (by kernel_rfl)
  ·exact EY.of 5 9 11 (by kernel_rfl) (by rfl) (by kernel_rfl) (by kernel_rfl) (by kernel_rfl) ⟨rfl,rfl,by rfl⟩ (by kernel_rfl) (by kernel_rfl) (by kernel_rfl)
  ·exact EY.of 5 12 14 (by kernel_rfl) (by rfl) (by kernel_rfl) (by kernel_rfl) (by kernel_rfl) ⟨rfl,rfl,by rfl⟩ (by kernel_rfl) (by kernel_rfl) (by kernel_rfl)
  ·exact EY.of 5 15 17 (by kernel_rfl) (by rfl) (by kernel_rfl) (by kernel_rfl) (by kernel_rfl) ⟨rfl,rfl,by rfl⟩ (by kernel_rfl) (by kernel_rfl) (by kernel_rfl)
  ·exact EY.of 5 18 20 (by kernel_rfl) (by rfl) (by kernel_rfl) (by kernel_rfl) (by kernel_rfl) ⟨rfl,rfl,by rfl⟩ (by kernel_rfl) (by kernel_rfl) (by kernel_rfl)
  ·exact EY.of 5 21 23 (by kernel_rfl) (by rfl) (by kernel_rfl) (by kernel_rfl) (by kernel_rfl) ⟨rfl,rfl,by rfl⟩ (by kernel_rfl) (by kernel_rfl) (by kernel_rfl)
 look:=by
  have h:(Yc[39]?).map (λo=>(o.op,o.dst))=some (.lookup 226 (.tmp 24) (.tmp 37) false,some 38):=by kernel_rfl
  obtain⟨o,ho,he⟩:=zG.1 h;refine⟨o,24,37,38,ho,congrArg Prod.fst he,congrArg Prod.snd he,by show 38 < 46;decide,by rfl,by rfl,by rfl,by kernel_rfl,by kernel_rfl,by kernel_rfl,?_,by kernel_rfl,?_⟩
  ·grind
  have h2:(A6.all λx=>Gr Yc 25 x.1)=true:=by kernel_rfl
  grind
 self:=by kernel_rfl
 hit:=hhit
 Qwn:=hmiss
 apart:=by
  refine⟨by decide,?_,?_,?_⟩
  ·have h:(A6.all λx=>x.1 != 0&&x.1 != 39)=true:=by rfl
   grind
  ·intro x hx;obtain⟨i,hi,rfl⟩:=zM.1 hx;have h:(Wf.all λi=>i != 0)=true:=by rfl
   grind
  ·intro x y hx hy e;simp only[A6,zR,zZ,or_false] at hx hy;grind
end
def oZ(p:Q8)(n:Qq)(ts:List (Nat×V)):Ext:=Ext.of .normal ts [(1000000,⟨22,true,[Ld p]⟩),(3,⟨3,true,[(Z0.c n)]⟩)] [] (by rfl)
theorem Qk7(p:Q8)(n:Qq)(res:V)(hhit:∀x,x∈A6->OU p.fe.fp p.fe.fo n.fw x.2.1=true->I4 false x.2.2=res)(hmiss:(∀x,x∈A6->OU p.fe.fp p.fe.fo n.fw x.2.1=false)->V.Zx=res)
  (hE:(oZ p n (Ew++[(4,res)])).ok=true) (hc:X3 8 res res=res) :
  TV Tryz.prog GG hnC ((oZ p n Ew).D 46).st (λe st=>e=.normal/\QH GG st ((oZ p n (Ew++[(4,res)])).D 46).st):=by
 rw[eHn];refine TV.pY (st:=((oZ p n Ew).D 46).st) Q9 (by kernel_rfl) (Qk5 p.fe.fp p.fe.fo n.fw n.fU n.fG ((Ld p).drop 2) res hhit hmiss) λst hn ht hb'=>⟨rfl,W3 _ hE hn ⟨?_,?_⟩⟩
 ·show [(0,X3 8 pm (st.t 0)),(3,X3 8 (.ptr 3 0 0) (st.t 3)),(4,X3 8 res (st.t 4))]=[(0,pm),(3,.ptr 3 0 0),(4,res)];rw[ht 0,ht 3,ht 4]
  show [(0,pm),(3,.ptr 3 0 0),(4,X3 8 res res)]=_;rw[hc]
 ·show [(1000000,xP [] 1000000 ⟨22,true,[Ld p]⟩ (st.b 1000000)),(3,xP [] 3 ⟨3,true,[(Z0.c n)]⟩ (st.b 3))]=_;rw[(hb' 1000000 (by decide)).1,(hb' 3 (by decide)).1];rfl
theorem Ge(s t k a b c:Int):OU s t k [QK a,QK b,QK c]=true↔s=a/\t=b/\k=c:=by simp[OU,QK]
theorem Qk6(p:Q8)(n:Qq)(x0:Nat×List V×List V)(f:FuncId)(a b c:Int)(h0:x0∈A6)(hk:x0.2.1=[QK a,QK b,QK c])(hf:∀x,x∈A6->x.2.1=[QK a,QK b,QK c]->x.2.2=[Ir f])(hq:OU p.fe.fp p.fe.fo n.fw [QK a,QK b,QK c]=true) :
  TV Tryz.prog GG hnC ((oZ p n Ew).D 46).st (λe st=>e=.normal/\QH GG st ((oZ p n (Ew++[(4,Ir f)])).D 46).st):=by
 refine Qk7 p n (Ir f) (λx hx h=>?_) (λh=>?_) (by rfl) (by rfl)
 ·have hx':x.2.1=[QK a,QK b,QK c]:=by
   obtain⟨e1,e2,e3⟩:=(Ge _ _ _ _ _ _).1 hq;rw[e1,e2,e3] at h;simp only[A6,zR,zZ,or_false] at hx;rcases hx with rfl|rfl|rfl|rfl|rfl|rfl<;>(obtain⟨rfl,rfl,rfl⟩:=(Ge _ _ _ _ _ _).1 h;rfl)
  rw[hf x hx hx'];rfl
 grind
def DA(p:Q8)(n:Qq)(f:FuncId)(a b c:Int)(x0:Nat×List V×List V)(h0:x0∈A6)(hk:x0.2.1=[QK a,QK b,QK c])(hf:∀x,x∈A6->x.2.1=[QK a,QK b,QK c]->x.2.2=[Ir f]):Sub Tryz.prog GG Unit:=
 ⟨hnC,46,oZ p n Ew,bif OU p.fe.fp p.fe.fo n.fw [QK a,QK b,QK c] then some () else none,λ_=>oZ p n (Ew++[(4,Ir f)]),λr h=>by
  cases hq:OU p.fe.fp p.fe.fo n.fw [QK a,QK b,QK c] with
  | false=>grind
  | true=>exact Qk6 p n x0 f a b c h0 hk hf hq⟩
def jE(p:Q8)(n:Qq):Sub Tryz.prog GG Unit:=
 ⟨hnC,46,oZ p n Ew,bif A6.all λx=>!OU p.fe.fp p.fe.fo n.fw x.2.1 then some () else none,λ_=>oZ p n (Ew++[(4,.Zx)]),λr h=>by
  cases hq:A6.all λx=>!OU p.fe.fp p.fe.fo n.fw x.2.1 with
  | false=>grind
  | true=>
   refine Qk7 p n .Zx (λx hx h=>?_) (λ_=>rfl) (by rfl) (by rfl);grind⟩
def tZ(p:Q8)(n:Qq):Sub Tryz.prog GG Unit:=DA p n 161 1 2 2 (4,[QK 1,QK 2,QK 2],[Ir 161]) (by simp[A6]) rfl (by
 intro x hx h;simp only[A6,zR,zZ,or_false] at hx;rcases hx with rfl|rfl|rfl|rfl|rfl|rfl<;>first|rfl|(simp[QK] at h))
def tQ(p:Q8)(n:Qq):Sub Tryz.prog GG Unit:=DA p n 161 1 3 2 (8,[QK 1,QK 3,QK 2],[Ir 161]) (by simp[A6]) rfl (by
 intro x hx h;simp only[A6,zR,zZ,or_false] at hx;rcases hx with rfl|rfl|rfl|rfl|rfl|rfl<;>first|rfl|(simp[QK] at h))
def cV(p:Q8)(n:Qq):Sub Tryz.prog GG Unit:=DA p n 162 1 3 3 (12,[QK 1,QK 3,QK 3],[Ir 162]) (by simp[A6]) rfl (by
 intro x hx h;simp only[A6,zR,zZ,or_false] at hx;rcases hx with rfl|rfl|rfl|rfl|rfl|rfl<;>first|rfl|(simp[QK] at h))
def cT(p:Q8)(n:Qq):Sub Tryz.prog GG Unit:=DA p n 163 1 5 5 (16,[QK 1,QK 5,QK 5],[Ir 163]) (by simp[A6]) rfl (by
 intro x hx h;simp only[A6,zR,zZ,or_false] at hx;rcases hx with rfl|rfl|rfl|rfl|rfl|rfl<;>first|rfl|(simp[QK] at h))
def cC(p:Q8)(n:Qq):Sub Tryz.prog GG Unit:=DA p n 164 2 1 1 (20,[QK 2,QK 1,QK 1],[Ir 164]) (by simp[A6]) rfl (by
 intro x hx h;simp only[A6,zR,zZ,or_false] at hx;rcases hx with rfl|rfl|rfl|rfl|rfl|rfl<;>first|rfl|(simp[QK] at h))
def cS(p:Q8)(n:Qq):Sub Tryz.prog GG Unit:=DA p n 165 2 4 4 (24,[QK 2,QK 4,QK 4],[Ir 165]) (by simp[A6]) rfl (by
 intro x hx h;simp only[A6,zR,zZ,or_false] at hx;rcases hx with rfl|rfl|rfl|rfl|rfl|rfl<;>first|rfl|(simp[QK] at h))
def Qje(p0:Qq)(p1:Q8):TT ((Q2×(List Qq))⊕(ze×ze×ze×ze×Bool×Int)):=.br 999999 (OU p1.fe.fp p1.fe.fo p0.fw [QK 1,QK 2,QK 2]) (.br 990001 true (.sub (tZ p1 p0) λr641=>.Qi 2003 (A5 true 8) [] [] (λr642=>.Qi 3004 (vV p0.fG p1) [(zE,zE)] [] (λr643=>.done (.inl ({ p1.fe with fo:=r643.1,fm:=r643.2.1,fB:=r643.2.2.1,fM:=r643.2.2.2.1,fq:=Z9.mk r643.q.1 r643.q.2.1 r643.q.2.2 },r643.2.2.2.1))) (λr644=>.done (.inr (p1.fe.fj.fA,p1.fe.fj.fO,p1.fe.fj.fh,p1.fe.fH,false,r644)))) (λr645=>.fail)) (.fail)) (.br 999999 (OU p1.fe.fp p1.fe.fo p0.fw [QK 1,QK 3,QK 2]) (.br 990001 true (.sub (tQ p1 p0) λr636=>.Qi 2003 (A5 true 8) [] [] (λr637=>.Qi 3004 (vV p0.fG p1) [(zE,zE)] [] (λr638=>.done (.inl ({ p1.fe with fo:=r638.1,fm:=r638.2.1,fB:=r638.2.2.1,fM:=r638.2.2.2.1,fq:=Z9.mk r638.q.1 r638.q.2.1 r638.q.2.2 },r638.2.2.2.1))) (λr639=>.done (.inr (p1.fe.fj.fA,p1.fe.fj.fO,p1.fe.fj.fh,p1.fe.fH,false,r639)))) (λr640=>.fail)) (.fail)) (.br 999999 (OU p1.fe.fp p1.fe.fo p0.fw [QK 1,QK 3,QK 3]) (.br 990001 true (.sub (cV p1 p0) λr631=>.Qi 2003 (A5 true 8) [] [] (λr632=>.Qi 3004 (vT p0.fG p1) [(zE,zE)] [] (λr633=>.done (.inl (r633.1,r633.2))) (λr634=>.done (.inr (r634.1,r634.2.1,r634.2.2.1,p1.fe.fH,r634.2.2.2.1,r634.q)))) (λr635=>.fail)) (.fail)) (.br 999999 (OU p1.fe.fp p1.fe.fo p0.fw [QK 1,QK 5,QK 5]) (.br 990001 true (.sub (cT p1 p0) λr626=>.Qi 2003 (A5 true 8) [] [] (λr627=>.Qi 3004 (Qhb p0.fG p1) [(zE,zE)] [] (λr628=>.gh 0 (.tell zE [(X9 15 .undef [.sl false 3 (List.map Z0.c []),.undef,.undef,.undef,.undef,.undef,.undef])]) (.done (.inl ({ p1.fe with fo:=6,fB:=r628.1,fM:=[],fq:=Z9.mk r628.2.1 r628.2.2.1 r628.2.2.2 },p1.QG)))) (λr629=>.done (.inr (p1.fe.fj.fA,p1.fe.fj.fO,p1.fe.fj.fh,p1.fe.fH,r629.1,r629.2)))) (λr630=>.fail)) (.fail)) (.br 999999 (OU p1.fe.fp p1.fe.fo p0.fw [QK 2,QK 1,QK 1]) (.br 990001 true (.sub (cC p1 p0) λr621=>.Qi 2003 (A5 true 8) [] [] (λr622=>.Qi 3004 (vC p0.fG p1) [(zE,zE)] [] (λr623=>.done (.inl (r623.1,r623.2))) (λr624=>.done (.inr (p1.fe.fj.fA,p1.fe.fj.fO,p1.fe.fj.fh,p1.fe.fH,false,r624)))) (λr625=>.fail)) (.fail)) (.br 999999 (OU p1.fe.fp p1.fe.fo p0.fw [QK 2,QK 4,QK 4]) (.br 990001 true (.sub (cS p1 p0) λr616=>.Qi 2003 (A5 true 8) [] [] (λr617=>.Qi 3004 (vB p0.fG p1) [(zE,zE)] [] (λr618=>.done (.inl ({ p1.fe with fo:=r618.1,fm:=r618.2.1,fB:=r618.2.2.1,fj:=W9.mk p1.fe.fj.fA p1.fe.fj.fO r618.2.2.2.1,fH:=r618.q.1,fM:=r618.q.2.1,fq:=Z9.mk r618.q.2.2.1 r618.q.2.2.2.1 r618.q.q },r618.q.2.1))) (λr619=>.done (.inr (p1.fe.fj.fA,p1.fe.fj.fO,p1.fe.fj.fh,r619.1,r619.2.1,r619.2.2)))) (λr620=>.fail)) (.fail)) (.br 990001 true (.sub (jE p1 p0) λr613=>.Qi 2003 (A5 false 8) [] [] (λr614=>.fail) (λr615=>.done (.inr (p1.fe.fj.fA,p1.fe.fj.fO,p1.fe.fj.fh,p1.fe.fH,false,8)))) (.fail)))))))
theorem Qin(p0:Qq)(p1:Q8):Hi Tryz.prog GG [0,1,3,4] Tryz.f107 [.ptr 1000000 0 0,.agg (Z0.c p0)] (Ext.of .normal (U5 [.ptr 1000000 0 0,.agg (Z0.c p0)]) [(1000000,⟨22,true,[(A9 p1)]⟩)] [] (by rfl)) (Qje p0 p1) (λ(r:Q2×(List Qq))=>.Qt []) (λ(r:Q2×(List Qq))=>Ext.of .normal [] [(1000000,⟨22,true,[(H4 (W7 r.1) [.str p1.QJ,.sl false 3 (List.map Z0.c r.2)])]⟩)] [] (by rfl)) (λ(r:ze×ze×ze×ze×Bool×Int)=>K2 (.iface (bif r.q.1 then 171 else 124) (.agg #[.int .i64 r.q.2]))) (λ(r:ze×ze×ze×ze×Bool×Int)=>Ext.of .normal [] [(1000000,⟨22,true,[(A9 { p1 with fe:={ p1.fe with fj:=⟨r.1,r.2.1,r.2.2.1⟩,fH:=r.2.2.2.1 } })]⟩)] [] (by rfl)):=by unfold Hi;kernel_rfl
def Qqm(p0:Qq)(p1:Q8):L5 Pg GG (Q2×(List Qq)) (ze×ze×ze×ze×Bool×Int):=.ofFn 107 [] Q9 Tryz.func107 rfl (λ_=>rfl) (λ_=>rfl) (Qin p0 p1)
structure Q6 where
 fw:Int
 fk:Int
 fF:ze
 fP:Qq
noncomputable def bL:Code:=Tryz.f62.body.getD .skip
def Qo3(p:Q8)(v:Q6):TT (Unit):=
 .done ()
def yK(p:Q8)(v:Q6):Ext:=Ext.of .normal [(0,.ptr 1000000 0 0),(1,.agg [.i v.fw,.i v.fk,.str v.fF,.i v.fP.fw,.i v.fP.fU,.str v.fP.fG])] [(1000000,⟨22,true,[(A9 p)]⟩)] [] (by rfl)
def GV(p:Q8)(v:Q6):(Unit)->Ext:=λ(r:Unit)=>Ext.of .normal [(2,.ptr 2 0 0),(3,.ptr 3 0 0)] [(2,⟨1,true,[[.ptr 1000000 0 0]]⟩),(3,⟨6,true,[[.i v.fw,.i v.fk,.str v.fF,.i v.fP.fw,.i v.fP.fU,.str v.fP.fG]]⟩),(1000000,⟨22,true,[(A9 p)]⟩)] [] (by rfl)
theorem Qi4(p:Q8)(v:Q6):Y0 Tryz.prog GG [0,1,2,3] 52 (cL bL) (yK p v) (Qo3 p v) (GV p v):=by unfold Y0;kernel_rfl
def dQ(p:Q8)(v:Q6):TT ((Q2×(List Qq))⊕(ze×ze×ze×ze×Bool×Int)):=
 .br 0 (v.fw==1)
 (.br 4008 (p.fe.fp==1)
  (.Qi 4015 (A5 (p.fe.fo==1) 8) [] [] (λr646=>
    .call 5002 (Qht p) [(1000000,2000000)] [] λr648=>
    .done (.inl ({ p.fe with fo:=r648.1,fm:=r648.2.1,fM:=r648.2.2.1,fq:=Z9.mk r648.2.2.2.1 r648.q.1 r648.q.2 },r648.2.2.1)))
   (λr649=>
    .done (.inr (p.fe.fj.fA,p.fe.fj.fO,p.fe.fj.fh,p.fe.fH,false,8))))
  (.Qi 4015 (A5 false 8) [] [] (λr650=>
    .fail)
   (λr651=>
    .done (.inr (p.fe.fj.fA,p.fe.fj.fO,p.fe.fj.fh,p.fe.fH,false,8)))))
 (.br 0 (v.fw==2)
  (.Qi 7004 (Qqm v.fP p) [(1000000,2000000)] [] (λr652=>
    .done (.inl (r652.1,r652.2)))
   (λr653=>
    .done (.inr (r653.1,r653.2.1,r653.2.2.1,r653.2.2.2.1,r653.q.1,r653.q.2))))
  (.br 0 (v.fw==3)
   (.Qi 9002 (Qhc p) [(1000000,2000000)] [] (λr654=>
     .done (.inl ({ p.fe with fq:=Z9.mk r654.1 r654.2.1 r654.2.2.1 },r654.2.2.2)))
    (λr655=>
     .done (.inr (p.fe.fj.fA,p.fe.fj.fO,p.fe.fj.fh,p.fe.fH,true,6))))
   (.br 0 (v.fw==4)
    (.br 0 (p.fe.fp==2)
     (.done (.inl (p.fe,p.fe.fM)))
     (.done (.inl (p.fe,p.QG))))
    (.done (.inl (p.fe,p.QG))))))
def yW(p:Q8)(v:Q6):Ext:=Ext.of .normal [(2,.ptr 1000002 0 0),(3,.ptr 1000003 0 0),(4,.fn 104 [] [.ptr 1000002 0 0])] [(1000002,⟨1,true,[[.ptr 2000000 0 0]]⟩),(1000003,⟨6,true,[[.i v.fw,.i v.fk,.str v.fF,.i v.fP.fw,.i v.fP.fU,.str v.fP.fG]]⟩),(2000000,⟨22,true,[(A9 p)]⟩)] [] (by rfl)
def LF(p:Q8)(v:Q6)(r:Q2×(List Qq)):Ext:=Ext.of .normal [(2,.ptr 1000002 0 0)] [(1000002,⟨1,true,[[.ptr 2000000 0 0]]⟩),(1000003,⟨6,true,[[.i v.fw,.i v.fk,.str v.fF,.i v.fP.fw,.i v.fP.fU,.str v.fP.fG]]⟩),(2000000,⟨22,true,[(H4 (W7 r.1) [.str p.QJ,.sl false 3 (List.map Z0.c r.2)])]⟩)] [] (by rfl)
def LL(p:Q8)(v:Q6)(r:ze×ze×ze×ze×Bool×Int):Ext:=Ext.of (.panic (K2 (.iface (bif r.q.1 then 171 else 124) (.agg #[.int .i64 r.q.2])))) [(2,.ptr 1000002 0 0)] [(1000002,⟨1,true,[[.ptr 2000000 0 0]]⟩),(1000003,⟨6,true,[[.i v.fw,.i v.fk,.str v.fF,.i v.fP.fw,.i v.fP.fU,.str v.fP.fG]]⟩),(2000000,⟨22,true,[(A9 { p with fe:={ p.fe with fj:=⟨r.1,r.2.1,r.2.2.1⟩,fH:=r.2.2.2.1 } })]⟩)] [] (by rfl)
theorem Qi3(p:Q8)(v:Q6):Y0 Tryz.prog GG [2,3,4,6,7,26,32,36,43] 52 (cR (cR bL)) (yW p v) (dQ p v) (Sum.elim (LF p v) (LL p v)):=by unfold Y0;kernel_rfl
def bK:Array Oper:=Oo (cL (cR bL))
def RJ:Oper:=(bK[0]?).get (by kernel_rfl)
def dC:Oper:=(bK[1]?).get (by kernel_rfl)
theorem eEv:Tryz.f62.body=some ([cL bL].foldr Code.seq (.seq (.region 1 #[RJ,dC] false) (cR (cR bL)))):=by kernel_rfl
noncomputable def cEc:Code:=Tryz.f104.body.getD .skip
def Qd5:Array Oper:=Oo (cL cEc)
def Qow:Oper:=(Qd5[0]?).get (by kernel_rfl)
theorem eEc:Tryz.f104.body=some (.seq (.region 0 #[Qow] false) (cR cEc)):=by kernel_rfl
def Bn(e:Int):Value:=.iface 171 (.agg #[.int .i64 e])
def Hq(e:Int):Value:=.iface 124 (.agg #[.int .i64 e])
def Up(v:Q6):List V:=[.int .i64 v.fw,.int .i64 v.fk,.str v.fF,.int .i64 v.fP.fw,.int .i64 v.fP.fU,.str v.fP.fG]
def Da(p:Q8)(v:Q6):List (Nat×Qa):=[(1000002,⟨1,true,[[.ptr 2000000 0 0]]⟩),(1000003,⟨6,true,[Up v]⟩),(2000000,⟨22,true,[Ld p]⟩)]
def Mi:List V:=[.ptr 1000002 0 0]
def xEc(rv:Value)(h:Wo rv=true)(p:Q8)(v:Q6):Ext:=Ext.of .normal [(0,.ptr 1000002 0 0),(4,.Zw rv)] (Da p v) [] (by rfl)
def TU(p:Q8)(v:Q6):Ext:=Ext.of .normal [] (Da p v) [] (by rfl)
def dN(p:Q8)(e:Int)(q:Int×Int×Int):Q8:=⟨⟨p.fe.fp,7,p.fe.fk,p.fe.fY,p.fe.fh,p.fe.fW,p.fe.fA,p.fe.fX,p.fe.fJ,p.fe.fm,zg,⟨zg,zg,zg⟩,zg,[],⟨q.1,q.2.1,q.2.2⟩,e⟩,p.QJ,[]⟩
def Qo4:TT Unit:=.Qz 3001 (Qw.Qd3 20 20 (.tmp 4) 6 (by kernel_rfl)) λ_=>.tt (.done ())
theorem Qi5(p:Q8)(v:Q6):Y0 Tryz.prog GG [0,4,6] 14 (cR cEc) (xEc .nilIface rfl p v) Qo4 (λ_=>TU p v):=by unfold Y0;kernel_rfl
theorem asF(e:Int)(w:World):∃v,(Instr.typeAssert (Bn e) 20 171 true).run Tryz.prog w=.ok (.tuple #[v,.bool true]) w/\∀γ bs u,Qy γ w bs u (.agg [.int .i64 e]) v:=⟨.agg #[.int .i64 e],by kernel_rfl,λ_ _ _=>.agg [.int .i64 e] [.int .i64 e] rfl λi c x hc hx=>by
 match i,hc,hx with
 | 0,hc,hx=>simp at hc hx;subst hc;subst hx;exact .data (.int _ _)
 | n+1,hc,hx=>simp at hc⟩
theorem asE(e:Int)(w:World):∃v,(Instr.typeAssert (Hq e) 20 171 true).run Tryz.prog w=.ok (.tuple #[v,.bool false]) w/\∀γ bs u,Qy γ w bs u (.agg [.int .i64 0]) v:=⟨.agg #[.int .i64 0],by kernel_rfl,λ_ _ _=>.agg [.int .i64 0] [.int .i64 0] rfl λi c x hc hx=>by
 match i,hc,hx with
 | 0,hc,hx=>simp at hc hx;subst hc;subst hx;exact .data (.int _ _)
 | n+1,hc,hx=>simp at hc⟩
def rF(p:Q8)(e:Int):TT (Int×Int×Int):=.Qz 3001 (Qw.xY 20 20 (.tmp 4) 6 171 (.agg #[.int .i64 e]) (by kernel_rfl)) λ_=>.ff (.Qz 5001 (Qw.asserted (.tmp 4) 20 171 7 (Bn e) true (.agg [.int .i64 e]) (.agg [.int .i64 0]) λw=>by
 simp_all [asF]) λ_=>.tt (.call 7004 (Qhv e p) [(1000000,2000000)] [] λq=>.gh 0 (.tell 2000000 [[.undef,.undef,.undef,.undef,.undef,.undef,.undef,.undef,.undef,.undef,.undef,.undef,.undef,.undef,.undef,.sl false 3 [],.undef,.undef,.undef,.undef,.undef,.sl false 3 []]]) (.done q)))
theorem Qi6(p:Q8)(v:Q6)(e:Int):Y0 Tryz.prog GG [0,1,2,3,4,5,6,8,9] 14 (cR cEc) (xEc (Bn e) rfl p v) (rF p e) (λq=>TU (dN p e q) v):=by unfold Y0;kernel_rfl
def Qo5(e:Int):TT Unit:=.Qz 3001 (Qw.xY 20 20 (.tmp 4) 6 124 (.agg #[.int .i64 e]) (by kernel_rfl)) λ_=>.ff (.Qz 5001 (Qw.asserted (.tmp 4) 20 171 7 (Hq e) false (.agg [.int .i64 e]) (.agg [.int .i64 0]) λw=>by
 simp_all [asE]) λ_=>.ff (.Hn 2002 (.done ())))
theorem Qi7(p:Q8)(v:Q6)(e:Int):Y0 Tryz.prog GG [0,1,2,3,4,5,6,8,9] 14 (cR cEc) (xEc (Hq e) rfl p v) (Qo5 e) (λ_=>Ext.of (.panic (K2 (Hq e))) [] (Da p v) [] (by rfl)):=by unfold Y0;kernel_rfl
theorem xQ(p:Q8)(v:Q6):∀b k,Qe (Da p v) b=some k->X8 b=true:=λb k h=>by
 obtain⟨q,h1,rfl,_⟩:=Yn h;simp only[Da,zR,zZ,or_false] at h1;rcases h1 with rfl|rfl|rfl
 ·grind [X8]
 ·grind [X8]
 grind [X8]
theorem ecD{u u':FrameMode}{rv:Value}(hi:Wo rv=true){p:Q8}{v:Q6}{kp:List Nat}{ρ:Type}{g:TT ρ}{E:ρ->Ext}{r:ρ}{ee:Value->Ending}{outs:zj}(hr:WK u rv u')(k:Y0 Tryz.prog GG kp 14 (cR cEc) (xEc rv hi p v) g E)(hg:g.run=some r)(hok:(E r).ok=true)
  (hex:(ee=.returned/\(E r).ex=.normal)\/∃ch,ee=(λ_=>.panicked ch)/\(E r).ex=.panic ch) (hb:∀b k,outs b=some k->Qe (E r).bs b=some k) :
  WD Tryz.prog GG 104 Mi (Qe (Da p v)) u ee u' outs:=by
 refine Xz (n:=14) (l:=[]) (t1:=4) (rv:=rv) (S1:=((xEc rv hi p v).D 14).st) (ex:=λe=>e=(E r).ex) Tryz.func104 eEc (by kernel_rfl) rfl rfl (by kernel_rfl) (by kernel_rfl) (by kernel_rfl) (by decide) hi hr (by kernel_rfl) (U8.nil ⟨rfl,W3 (xEc rv hi p v) (by rfl) rfl ⟨by rfl,by rfl⟩⟩) ?_ ?_
 ·have h:=k.tv Q9 hg hok;exact h.mono λe s hq=>⟨hq.1,_,hq.2,λb k hk=>hb b k hk⟩
 ·rcases hex with⟨h1,h2⟩|⟨ch,h1,h2⟩
  ·grind
  simp_all
abbrev EvA:=Q2×List Qq
abbrev EvB:=ze×ze×ze×ze×Bool×Int
def evM(p:Q8)(r:EvA):Q8:=⟨r.1,p.QJ,r.2⟩
def bW(p:Q8)(r:EvB):Q8:=⟨⟨p.fe.fp,p.fe.fo,p.fe.fk,p.fe.fY,p.fe.fh,p.fe.fW,p.fe.fA,p.fe.fX,p.fe.fJ,p.fe.fm,p.fe.fB,⟨r.1,r.2.1,r.2.2.1⟩,r.2.2.2.1,p.fe.fM,p.fe.fq,p.fe.fZ⟩,p.QJ,p.QG⟩
def XT(p:Q8)(v:Q6):Ext:=Ext.of .normal [(2,.ptr 1000002 0 0),(3,.ptr 1000003 0 0)] (Da p v) [] (by rfl)
def LN(p:Q8)(v:Q6):Ext:=Ext.of .normal [] [(2,⟨1,true,[[.ptr 1000000 0 0]]⟩),(3,⟨6,true,[Up v]⟩),(1000000,⟨22,true,[Ld p]⟩)] [] (by rfl)
def Ed(p:Q8):List (Nat×Qa):=[(1000000,⟨22,true,[Ld p]⟩)]
theorem Qet{x:Ext}(h:x.us=[1000002,1000003,2000000]):(x.D 52).st.u=Qk:=funext λb=>by
 show (x.us.contains b || Qk b)=Qk b;rw[h];by_cases h1:b=1000002
 ·subst h1;rfl
 ·by_cases h2:b=1000003
  ·subst h2;rfl
  ·by_cases h3:b=2000000
   ·subst h3;rfl
   grind
theorem Br(p:Q8)(v:Q6){q:EvA⊕EvB}{x:Ext}{u u' M:FrameMode}{ee EE:Value->Ending}{p1 p2:Q8}{res:V}{outs:zj}(hx:Sum.elim (LF p v) (LL p v) q=x)(h2:(dQ p v).run=some q)(hok:x.ok=true)(hl:Go.EV.Left u x.ex)(hbs:(x.D 52).st.b=Qe (Da p1 v))(hus:x.us=[1000002,1000003,2000000])
  (hD:WD Tryz.prog GG 104 Mi (Qe (Da p1 v)) u ee u' (Qe (Da p2 v))) (hM:∀z,settled u' (ee z)=M) (hne:∀z,ee z≠.outgrown) (houts:∀b k,outs b=some k->Qe (LN p2 v).bs b=some k)
  (hend:(M=.returning/\EE=.returned/\res=.Qt [])\/∃ch,M=.panicking ch/\EE=(λ_=>.panicked ch)/\res=.undef) :
  WE Tryz.prog GG 62 [.ptr 1000000 0 0,.agg (Up v)] (Qe (Ed p)) EE res outs:=by
 subst hx;have e0:U3 52 [.ptr 1000000 0 0,.agg (Up v)] (Qe (Ed p))=((yK p v).D 52).st:=(B5 (x:=yK p v) (by rfl) (by rfl) 52).symm;have t0:=(Qi4 p v).tv Q9 (r:=()) rfl (by rfl);have t2:=(Qi3 p v).tv Q9 h2 hok;have hsh:QH GG ((GV p v ()).D 52).st.shift ((XT p v).D 52).st:=by
  have eT:((GV p v ()).ts.map λp=>(p.1,W0 sh p.2))=(XT p v).ts:=by kernel_rfl
  have eB:((GV p v ()).bs.map λp=>(sh p.1,p.2.Qb sh))=(XT p v).bs:=by kernel_rfl
  rw[Ur,eT,eB];exact W3 (XT p v) (by rfl) rfl ⟨by rfl,by rfl⟩
 have hU:QH GG ⟨52,((Sum.elim (LF p v) (LL p v) q).D 52).st.t,Qe (Da p2 v),λ_=>true⟩ ((LN p2 v).D 52).st.shift:=by
  have eT:((LN p2 v).ts.map λp=>(p.1,W0 sh p.2))=(TU p2 v).ts:=by kernel_rfl
  have eB:((LN p2 v).bs.map λp=>(sh p.1,p.2.Qb sh))=(TU p2 v).bs:=by kernel_rfl
  rw[Ur,eT,eB,<-iI (x:=TU p2 v) _ (by rfl)];exact W3 (TU p2 v) (by rfl) rfl ⟨by rfl,by rfl⟩
 have st5:B7 Tryz.prog GG #[RJ,dC] 0 ((XT p v).D 52).st (((XT p v).D 52).st.put (some 4) (.fn 104 [] Mi)):=Zt (by rfl)
 have g0:M9 #[RJ,dC] ((XT p v).D 52).st RJ=some true:=by rfl
 have h0:I9 Tryz.prog GG RJ ((XT p v).D 52).st (((XT p v).D 52).st.put (some 4) (.fn 104 [] Mi)):=by
  unfold B7 at st5;simp only[show (#[RJ,dC]:Array Oper)[0]?=some RJ from rfl] at st5;rcases st5 with⟨_,h⟩|⟨h,_⟩
  ·exact h
  ·rw[g0] at h;simp at h
 have gB:QH GG (((XT p v).D 52).st.put (some 4) (.fn 104 [] Mi)) ((yW p v).D 52).st:=W3 (yW p v) (by rfl) rfl ⟨by rfl,by rfl⟩;refine Xq (As:=[cL bL]) (rest:=cR (cR bL)) (rid:=1) (t:=4) (n:=52) (o0:=RJ) (o1:=dC) (caps:=Mi) (insD:=Qe (Da p1 v)) (outsD:=Qe (Da p2 v)) (S0:=((GV p v ()).D 52).st) (S1:=((XT p v).D 52).st) (S2:=((Sum.elim (LF p v) (LL p v) q).D 52).st) (Sx:=((LN p2 v).D 52).st) (u:=u) (u':=u')
  Tryz.func62 eEv (by kernel_rfl) ?_ hsh h0 g0 (by kernel_rfl) (by kernel_rfl) (by rfl) (TV.ghost gB t2) hl (λc hc=>?_) (show 4 < 52 by decide) ⟨hbs,Qet hus⟩ (by grind [xQ]) Tryz.func104 (by kernel_rfl) (by kernel_rfl) hD hM hne hU (Yj (ts:=(LN p2 v).ts) (bs:=(LN p2 v).bs) (us:=(LN p2 v).us) (by rfl) (by rfl)) rfl houts ?_
 ·rw[e0];show TV _ _ (cL bL) _ _;exact t0
 ·simp only[Mi,zR,zZ,or_false] at hc;subst hc;exact⟨1000002,_,rfl,by decide,rfl⟩
 ·rcases hend with⟨h1,h2,rfl⟩|h
  ·exact .inl ⟨h1,h2,by kernel_rfl,λγ w v h=>Qy.IW (γ:=γ) (γ':=γ) (by grind) h (by rfl)⟩
  grind
def evR(p:Q8)(v:Q6):Option (Q8⊕Int):=match (dQ p v).run with
 | some (.inl r)=>some (.inl (evM p r))
 | some (.inr r)=>bif r.q.1 then (match (rF (bW p r) r.q.2).run with|some q=>some (.inl (dN (bW p r) r.q.2 q))|none=>none) else some (.inr r.q.2)
 | none=>none
def dV(e:Int):List PanicEntry:=[{ v:=Hq e,recovered:=false },{ v:=Hq e,recovered:=true }]
theorem Qd0(p:Q8)(v:Q6){p':Q8}(h:evR p v=some (.inl p')):QS Tryz.prog GG 62 [.ptr 1000000 0 0,.agg (Up v)] (Qe (Ed p)) (.Qt []) (Qe (Ed p')):=by
 have sub:∀p2:Q8,∀b k,Qe (Ed p2) b=some k->Qe (LN p2 v).bs b=some k:=λp2 b k hk=>by
  obtain⟨z,h1,rfl,rfl⟩:=Yn hk;simp only[Ed,zR,zZ,or_false] at h1;subst h1;rfl
 unfold evR at h;split at h
 ·rename_i r hr;obtain rfl:=Sum.inl.inj (wh h);exact Br p v (p1:=evM p r) (p2:=evM p r) (u:=.returning) (u':=.returning) (M:=.returning) (ee:=.returned) (EE:=.returned) rfl hr (by rfl) (.inr (.inl ⟨rfl,rfl⟩)) rfl rfl (ecD rfl (.inl ⟨rfl,rfl,rfl⟩) (Qi5 (evM p r) v) (r:=()) rfl (by rfl) (.inl ⟨rfl,rfl⟩) λ_ _ h=>h) (λ_=>rfl) (λ_ h=>by cases h) (sub _) (.inl ⟨rfl,rfl,rfl⟩)
 ·rename_i r hr;cases hf:r.q.1 with
  | false=>grind
  | true=>
   rw[hf] at h;simp only[cond_true] at h;split at h
   ·rename_i q hq;obtain rfl:=Sum.inl.inj (wh h);refine Br p v (p1:=bW p r) (p2:=dN (bW p r) r.q.2 q) (u:=.panicking (K2 (Bn r.q.2))) (u':=.panicking [{ v:=Bn r.q.2,recovered:=true }]) (M:=.returning) (ee:=.returned) (EE:=.returned) rfl hr (by rfl) (.inr (.inr ⟨_,rfl,?_⟩)) rfl rfl (ecD rfl (.inr ⟨Bn r.q.2,[],rfl,rfl,rfl⟩) (Qi6 (bW p r) v r.q.2) hq (by rfl) (.inl ⟨rfl,rfl⟩) λ_ _ h=>h) (λ_=>rfl) (λ_ h=>by cases h) (sub _) (.inl ⟨rfl,rfl,rfl⟩);grind [K2,Bn]
   ·cases h
 ·cases h
theorem Qjp(p:Q8)(v:Q6){e:Int}(h:evR p v=some (.inr e)):WE Tryz.prog GG 62 [.ptr 1000000 0 0,.agg (Up v)] (Qe (Ed p)) (λ_=>.panicked (dV e)) .undef Ot:=by
 unfold evR at h;split at h
 ·cases h
 ·rename_i r hr;cases hf:r.q.1 with
  | true=>
   grind
  | false=>
   rw[hf] at h;obtain rfl:=Sum.inr.inj (wh h);refine Br p v (p1:=bW p r) (p2:=bW p r) (u:=.panicking (K2 (Hq r.q.2))) (u':=.panicking [{ v:=Hq r.q.2,recovered:=true }]) (M:=.panicking (dV r.q.2)) (ee:=λ_=>.panicked (K2 (Hq r.q.2))) (EE:=λ_=>.panicked (dV r.q.2)) rfl hr (by rfl) (.inr (.inr ⟨_,rfl,?_⟩)) rfl rfl (ecD rfl (.inr ⟨Hq r.q.2,[],rfl,rfl,rfl⟩) (Qi7 (bW p r) v r.q.2) (r:=()) rfl (by rfl) (.inr ⟨_,rfl,rfl⟩) λ_ _ h=>h) (λ_=>rfl) (λ_ h=>by cases h) (by grind [Ot]) (by grind);grind [K2,Hq]
 ·cases h
def tK(v:Q6)(p:Q8):L5 Pg GG Q8 Int:=⟨62,[.ptr zE 0 0,.agg (Up v)],Ed p,evR p v,λ_=>.Qt [],Ed,dV,λ_=>[],[],λ_ _ _ h=>by simp at h,λ_ _ _ h=>by simp at h,λ_ h=>Qd0 p v h,λ_ h=>Qjp p v h⟩
def tH(b:Bool)(e:Int):List PanicEntry:=bif b then dV e else K2 (Hq e)
noncomputable def bO:Code:=Tryz.f24.body.getD .skip
def Qo0(s:Q2)(v:Q6):TT (Unit):=
 .done ()
def yU(s:Q2)(v:Q6):Ext:=Ext.of .normal [(0,.agg (W7 s)),(1,.agg [.i v.fw,.i v.fk,.str v.fF,.i v.fP.fw,.i v.fP.fU,.str v.fP.fG])] [] [] (by rfl)
def GC(s:Q2)(v:Q6):(Unit)->Ext:=λ(r:Unit)=>Ext.of .normal [(2,.ptr 2 0 0),(3,.ptr 3 0 0),(4,.ptr 4 0 0),(5,.ptr 5 0 0),(6,.ptr 6 0 0)] [(2,⟨20,true,[(W7 s)]⟩),(3,⟨6,true,[[.i v.fw,.i v.fk,.str v.fF,.i v.fP.fw,.i v.fP.fU,.str v.fP.fG]]⟩),(4,⟨20,true,[(H4 [.i 0,.i 0,.i 0] (X9 5 (.str zg) (H4 [.Qh,.i 0] (X9 5 (.str zg) (H4 [.Qh] (X9 4 (.int .i64 0) []))))))]⟩),(5,⟨1,true,[[.Qh]]⟩),(6,⟨1,true,[[.i 0]]⟩)] [] (by rfl)
theorem Qae(s:Q2)(v:Q6):Y0 Tryz.prog GG [0,1,2,3,4,5,6] 76 (cL bO) (yU s v) (Qo0 s v) (GC s v):=by unfold Y0;kernel_rfl
def g61(p0:List Qq):TT Unit:=.app 3003 Z0 [] p0 32 true (by intros;rfl) (.done ())
theorem Qiy:Y0 Tryz.prog GG [2] 8 (Eo Tryz.f61.body) (Ext.l .normal [(2,.Qh)] []) (.done ():TT Unit) (λ_=>Ext.l .ret [(2,.Qh)] []):=by unfold Y0;kernel_rfl
theorem Qij(p0:List Qq):Y0 Tryz.prog GG [0,2,5,6,7] 8 (Kw Tryz.f61.body) (Ext.l .normal [(0,.sl false 3 (List.map Z0.c p0)),(2,.Qh)] []) (g61 p0) (λ_=>Ext.of .ret [(2,.ref 7 0 ([]++p0).length)] [] [BT.of 7 Z0 3 ([]++p0)] (by rfl)):=by unfold Y0;kernel_rfl
theorem k61(p0:(List Qq)){r:Unit}(h:(g61 p0).run=some r):QS Tryz.prog GG 61 [.sl false 3 (List.map Z0.c p0)] (Qe []) (.ref 7 0 p0.length) (Qe [(7,⟨3,true,List.map Z0.c p0⟩)]):=
 RA (ty:=Z0) (ops0:=Lv Tryz.f61.body) (ops1:=Lt Tryz.f61.body) (yes:=Eo Tryz.f61.body) (rest:=Kw Tryz.f61.body) (t:=43) Q9 (by decide) Tryz.func61 (by kernel_rfl) (by kernel_rfl) (by kernel_rfl) (by kernel_rfl) (by kernel_rfl) (by kernel_rfl) (by kernel_rfl) (by kernel_rfl) (by kernel_rfl) Qiy (Qij p0) (by rfl) h
def s61(p0:List Qq):Sp Unit:=⟨61,[Sl 3 Z0 p0],[],(g61 p0).run,λ_=>Rf 7 p0,λ_=>[(7,⟨3,true,List.map Z0.c p0⟩)],[7],λ_ p hp _=>by rw[wH.1 hp];exact Z0.data _,λ_ h=>k61 p0 h⟩
def eV(s:Q2)(v:Q6):TT ((Q2×(List Qq))⊕(Bool×Int)):=
 .cl 2002 (tE s) λr656=>
 .Qi 2004 (A5 (r656==0) 200) [] [] (λr657=>
  .br 3005 (decide ((1:Int)<=v.fw))
  (.br 3010 (decide (v.fw<=4))
   (.br 3017 (decide (s.fk<=v.fk))
    (.br 3022 (decide (v.fk<=1099511627776))
     (.Qi 3027 (A5 (decide ((v.fF.size:Int)<=64)) 2) [] [] (λr658=>
       .br 4005 (v.fw != 2)
       (.Qi 4010 (A5 true 2) [] [] (λr659=>
         .cl 5004 (s59 v.fF) λr660=>
         .call 7003 (s60 s.fJ) [] [(7,500016)] λr661=>
         .call 7006 (s61 s.fM) [] [(7,500017)] λr662=>
         .gh 10 (.share (Zs.o 500016 Z6 s.fJ) 0) (.gh 10 (.share (Zs.o 500017 Z0 s.fM) 0) (.gh 10 (.tell 7 [(X9 21 .undef [.sl false 3 (List.map Z0.c [])])]) (.Qi 8002 (tK v (Q8.mk { s with fk:=v.fk } r660 [])) [(1000000,7)] [] (λr663=>
          .call 9005 (s61 r663.QG) [] [(7,500018)] λr664=>
          .gh 0 (.share (Zs.o 500018 Z0 r663.QG) 0) (.done (.inl (r663.fe,r663.QG))))
         (λr665=>
          .done (.inr (true,r665)))))))
        (λr666=>
         .fail))
       (.cl 4007 (s58 v.fP) λr667=>
        .Qi 4010 (A5 (r667==0) 2) [] [] (λr668=>
         .cl 5004 (s59 v.fF) λr669=>
         .call 7003 (s60 s.fJ) [] [(7,500019)] λr670=>
         .call 7006 (s61 s.fM) [] [(7,500020)] λr671=>
         .gh 10 (.share (Zs.o 500019 Z6 s.fJ) 0) (.gh 10 (.share (Zs.o 500020 Z0 s.fM) 0) (.gh 10 (.tell 7 [(X9 21 .undef [.sl false 3 (List.map Z0.c [])])]) (.Qi 8002 (tK v (Q8.mk { s with fk:=v.fk } r669 [])) [(1000000,7)] [] (λr672=>
          .call 9005 (s61 r672.QG) [] [(7,500021)] λr673=>
          .gh 0 (.share (Zs.o 500021 Z0 r672.QG) 0) (.done (.inl (r672.fe,r672.QG))))
         (λr674=>
          .done (.inr (true,r674)))))))
        (λr675=>
         .done (.inr (false,2)))))
      (λr676=>
       .done (.inr (false,2))))
     (.Qi 3027 (A5 false 2) [] [] (λr677=>
       .fail)
      (λr678=>
       .done (.inr (false,2)))))
    (.Qi 3027 (A5 false 2) [] [] (λr679=>
      .fail)
     (λr680=>
      .done (.inr (false,2)))))
   (.Qi 3027 (A5 false 2) [] [] (λr681=>
     .fail)
    (λr682=>
     .done (.inr (false,2)))))
  (.Qi 3027 (A5 false 2) [] [] (λr683=>
    .fail)
   (λr684=>
    .done (.inr (false,2)))))
 (λr685=>
  .done (.inr (false,200)))
def yJ(s:Q2)(v:Q6):Ext:=Ext.of .normal [(2,.ptr 1000002 0 0),(3,.ptr 1000003 0 0),(4,.ptr 1000004 0 0),(5,.ptr 1000005 0 0),(6,.ptr 1000006 0 0),(8,.fn 56 [] [.ptr 1000004 0 0,.ptr 1000005 0 0,.ptr 1000006 0 0])] [(1000002,⟨20,true,[(W7 s)]⟩),(1000003,⟨6,true,[[.i v.fw,.i v.fk,.str v.fF,.i v.fP.fw,.i v.fP.fU,.str v.fP.fG]]⟩),(1000004,⟨20,true,[(H4 [.i 0,.i 0,.i 0] (X9 5 (.str zg) (H4 [.Qh,.i 0] (X9 5 (.str zg) (H4 [.Qh] (X9 4 (.int .i64 0) []))))))]⟩),(1000005,⟨1,true,[[.Qh]]⟩),(1000006,⟨1,true,[[.i 0]]⟩)] [] (by rfl)
def LO(s:Q2)(v:Q6)(r:Q2×(List Qq)):Ext:=Ext.of .ret [(4,.ptr 1000004 0 0),(5,.ptr 1000005 0 0),(6,.ptr 1000006 0 0)] [(1000002,⟨20,true,[(W7 s)]⟩),(1000003,⟨6,true,[[.i v.fw,.i v.fk,.str v.fF,.i v.fP.fw,.i v.fP.fU,.str v.fP.fG]]⟩),(1000004,⟨20,true,[(W7 r.1)]⟩),(1000005,⟨1,true,[[.sl false 3 (List.map Z0.c r.2)]]⟩),(1000006,⟨1,true,[[.i 0]]⟩)] [] (by rfl)
def LI(s:Q2)(v:Q6)(r:Bool×Int):Ext:=Ext.of (.panic (tH r.1 r.2)) [(4,.ptr 1000004 0 0),(5,.ptr 1000005 0 0),(6,.ptr 1000006 0 0)] [(1000002,⟨20,true,[(W7 s)]⟩),(1000003,⟨6,true,[[.i v.fw,.i v.fk,.str v.fF,.i v.fP.fw,.i v.fP.fU,.str v.fP.fG]]⟩),(1000004,⟨20,true,[(H4 [.i 0,.i 0,.i 0] (X9 5 (.str zg) (H4 [.Qh,.i 0] (X9 5 (.str zg) (H4 [.Qh] (X9 4 (.int .i64 0) []))))))]⟩),(1000005,⟨1,true,[[.Qh]]⟩),(1000006,⟨1,true,[[.i 0]]⟩)] [] (by rfl)
theorem Qam(s:Q2)(v:Q6):Y0 Tryz.prog GG [2,3,4,5,6,7,8] 76 (cR (cR bO)) (yJ s v) (eV s v) (Sum.elim (LO s v) (LI s v)):=by unfold Y0;kernel_rfl
def sW:Array Oper:=Oo (cL (cR bO))
def Ng:Oper:=(sW[0]?).get (by kernel_rfl)
def jO:Oper:=(sW[1]?).get (by kernel_rfl)
theorem eSt:Tryz.f24.body=some ([cL bO].foldr Code.seq (.seq (.region 1 #[Ng,jO] false) (cR (cR bO)))):=by kernel_rfl
noncomputable def cSc:Code:=Tryz.f56.body.getD .skip
def NQ:Array Oper:=Oo (cL cSc)
def Qhg:Oper:=(NQ[0]?).get (by kernel_rfl)
theorem eSc:Tryz.f56.body=some (.seq (.region 0 NQ false) (cR cSc)):=by kernel_rfl
abbrev qT:=Q2×List Qq×Int
def HS(h:Q2):List V:=[.int .i64 h.fp,.int .i64 h.fo,.int .i64 h.fk,.str h.fY,.str h.fh,.str h.fW,.str h.fA,.str h.fX,.sl false 1 (h.fJ.map Z6.c),.int .i64 h.fm,.str h.fB,.str h.fj.fA,.str h.fj.fO,.str h.fj.fh,.str h.fH,.sl false 3 (h.fM.map Z0.c),.int .i64 h.fq.fE,.int .i64 h.fq.fV,.int .i64 h.fq.fL,.int .i64 h.fZ]
def Pb:Q2:=⟨0,0,0,zg,zg,zg,zg,zg,[],0,zg,⟨zg,zg,zg⟩,zg,[],⟨0,0,0⟩,0⟩
def cJ:List V:=[.int .i64 0,.int .i64 0,.int .i64 0,.str zg,.str zg,.str zg,.str zg,.str zg,.Qh,.int .i64 0,.str zg,.str zg,.str zg,.str zg,.str zg,.Qh,.int .i64 0,.int .i64 0,.int .i64 0,.int .i64 0]
def Al(s:Q2)(v:Q6)(row:List V)(l:V)(e:Int):List (Nat×Qa):=[(1000002,⟨20,true,[HS s]⟩),(1000003,⟨6,true,[Up v]⟩),(1000004,⟨20,true,[row]⟩),(1000005,⟨1,true,[[l]]⟩),(1000006,⟨1,true,[[.int .i64 e]]⟩)]
def Nr(s:Q2)(v:Q6)(r:qT):List (Nat×Qa):=Al s v (HS r.1) (.sl false 3 (r.2.1.map Z0.c)) r.2.2
def Nn(s:Q2)(v:Q6)(e:Int):List (Nat×Qa):=Al s v cJ .Qh e
def JH:List V:=[.ptr 1000004 0 0,.ptr 1000005 0 0,.ptr 1000006 0 0]
def Qhf:List (Nat×V):=[(0,.ptr 1000004 0 0),(1,.ptr 1000005 0 0),(2,.ptr 1000006 0 0)]
def TY(rv:Value)(h:Wo rv=true)(bs:List (Nat×Qa)):Ext:=Ext.of .normal (Qhf++[(6,.Zw rv)]) bs [] (by simp)
def Nz(b:Bool)(e:Int)(bs:List (Nat×Qa)):Ext:=Ext.of .normal (Qhf++[(3,.ptr 3 0 0),(4,.bool b)]) ((3,⟨1,true,[[.i e]]⟩) :: bs) [] (by simp)
def TJ(bs:List (Nat×Qa)):Ext:=Ext.of .normal [] bs [] (by simp)
theorem asS(e:Int)(w:World):∃v,(Instr.typeAssert (Hq e) 20 124 true).run Tryz.prog w=.ok (.tuple #[v,.bool true]) w/\∀γ bs u,Qy γ w bs u (.agg [.int .i64 e]) v:=⟨.agg #[.int .i64 e],by kernel_rfl,λ_ _ _=>.agg [.int .i64 e] [.int .i64 e] rfl λi c x hc hx=>by
 match i,hc,hx with
 | 0,hc,hx=>simp at hc hx;subst hc;subst hx;exact .data (.int _ _)
 | n+1,hc,hx=>simp at hc⟩
theorem asZ(w:World):∃v,(Instr.typeAssert .nilIface 20 124 true).run Tryz.prog w=.ok (.tuple #[v,.bool false]) w/\∀γ bs u,Qy γ w bs u (.agg [.int .i64 0]) v:=⟨.agg #[.int .i64 0],by kernel_rfl,λ_ _ _=>.agg [.int .i64 0] [.int .i64 0] rfl λi c x hc hx=>by
 match i,hc,hx with
 | 0,hc,hx=>simp at hc hx;subst hc;subst hx;exact .data (.int _ _)
 | n+1,hc,hx=>simp at hc⟩
def Qo2:TT Unit:=.Qz 2 (Qw.asserted (.tmp 6) 20 124 7 .nilIface false (.agg [.int .i64 0]) (.agg [.int .i64 0]) λw=>by
 simp_all [asZ]) λ_=>.done ()
def Qo1(e:Int):TT Unit:=.Qz 2 (Qw.asserted (.tmp 6) 20 124 7 (Hq e) true (.agg [.int .i64 e]) (.agg [.int .i64 0]) λw=>by
 simp_all [asS]) λ_=>.done ()
theorem Qax(s:Q2)(v:Q6)(r:qT):K0 Tryz.prog GG [0,1,2,3,4] 14 0 (C6 NQ 6) 8 (TY .nilIface rfl (Nr s v r)) Qo2 (λ_=>Nz false 0 (Nr s v r)):=by unfold K0;kernel_rfl
theorem Qad(s:Q2)(v:Q6)(e:Int):K0 Tryz.prog GG [0,1,2,3,4] 14 0 (C6 NQ 6) 8 (TY (Hq e) rfl (Nn s v 0)) (Qo1 e) (λ_=>Nz true e (Nn s v 0)):=by unfold K0;kernel_rfl
def Qkj:TT Unit:=.ff (.done ())
def Qky:TT Unit:=.tt (.done ())
theorem Qwv(s:Q2)(v:Q6)(r:qT):Y0 Tryz.prog GG [0,1,2,3,4,10] 14 (cR cSc) (Nz false 0 (Nr s v r)) Qkj (λ_=>TJ (Nr s v r)):=by unfold Y0;kernel_rfl
theorem Qwt(s:Q2)(v:Q6)(e:Int):Y0 Tryz.prog GG [0,1,2,3,4,10] 14 (cR cSc) (Nz true e (Nn s v 0)) Qky (λ_=>TJ (Nn s v e)):=by unfold Y0;kernel_rfl
theorem jG(s:Q2)(v:Q6)(row:List V)(l:V)(e:Int):∀b k,Qe (Al s v row l e) b=some k->X8 b=true:=λb k h=>by
 obtain⟨q,h1,rfl,_⟩:=Yn h;simp only[Al,zR,zZ,or_false] at h1;rcases h1 with rfl|rfl|rfl|rfl|rfl
 ·grind [X8]
 ·grind [X8]
 ·grind [X8]
 ·grind [X8]
 grind [X8]
theorem stD{u u':FrameMode}{rv:Value}{b:Bool}{e:Int}{bs bs':List (Nat×Qa)}{g g2:TT Unit}(hi:Wo rv=true)(hr:WK u rv u')(k:K0 Tryz.prog GG [0,1,2,3,4] 14 0 (C6 NQ 6) 8 (TY rv hi bs) g (λ_=>Nz b e bs))(hg:g.run=some ())
  (k2:Y0 Tryz.prog GG [0,1,2,3,4,10] 14 (cR cSc) (Nz b e bs) g2 (λ_=>TJ bs')) (hg2:g2.run=some ()) (hok:(Nz b e bs).ok=true) (hok2:(TJ bs').ok=true)
  (h0:QH GG ((U3 14 JH (Qe bs)).put (some 6) (.Zw rv)) ((TY rv hi bs).D 14).st) :
  WD Tryz.prog GG 56 JH (Qe bs) u .returned u' (Qe bs'):=by
 refine Xz (n:=14) (l:=List.range' 1 7) (t1:=6) (rv:=rv) (S1:=((Nz b e bs).D 14).st) (ex:=λe=>e=.normal) Tryz.func56 eSc (by kernel_rfl) (o0:=Qhg) (by kernel_rfl) (by kernel_rfl) (by kernel_rfl) (by kernel_rfl) (by kernel_rfl) (by decide) hi hr (by kernel_rfl) (U8.ghost h0 ?_) ?_ (by grind)
 ·exact K0.uV (o0:=Qhg) (by kernel_rfl) (by kernel_rfl) (by kernel_rfl) k Q9 hg hok
 ·exact(k2.tv Q9 hg2 hok2).mono λe s hq=>⟨hq.1,_,hq.2,λb k hk=>by
   have e0:(TJ bs').bs=bs':=wL bs'
   show Qe (TJ bs').bs b=some k;grind⟩
theorem Qha(s:Q2)(v:Q6)(r:qT):WD Tryz.prog GG 56 JH (Qe (Nr s v r)) .returning .returned .returning (Qe (Nr s v r)):=
 stD rfl (.inl ⟨rfl,rfl,rfl⟩) (Qax s v r) rfl (Qwv s v r) rfl (by rfl) (by rfl) (W3 (TY .nilIface rfl (Nr s v r)) (by rfl) rfl ⟨by rfl,by rfl⟩)
def stU(b:Bool)(e:Int):FrameMode:=.panicking ({ v:=Hq e,recovered:=true } :: bif b then [{ v:=Hq e,recovered:=true }] else [])
theorem Qhi(s:Q2)(v:Q6)(b:Bool)(e:Int):WD Tryz.prog GG 56 JH (Qe (Nn s v 0)) (.panicking (tH b e)) .returned (stU b e) (Qe (Nn s v e)):=
 stD rfl (.inr (by cases b<;>exact⟨Hq e,_,rfl,rfl,rfl⟩)) (Qad s v e) rfl (Qwt s v e) rfl (by rfl) (by rfl) (W3 (TY (Hq e) rfl (Nn s v 0)) (by rfl) rfl ⟨by rfl,by rfl⟩)
def XC(s:Q2)(v:Q6):Ext:=Ext.of .normal [(2,.ptr 1000002 0 0),(3,.ptr 1000003 0 0),(4,.ptr 1000004 0 0),(5,.ptr 1000005 0 0),(6,.ptr 1000006 0 0)] (Nn s v 0) [] (by rfl)
def PD(s:Q2)(v:Q6)(r:qT):Ext:=Ext.of .normal [(4,.ptr 4 0 0),(5,.ptr 5 0 0),(6,.ptr 6 0 0)] [(2,⟨20,true,[HS s]⟩),(3,⟨6,true,[Up v]⟩),(4,⟨20,true,[HS r.1]⟩),(5,⟨1,true,[[.sl false 3 (r.2.1.map Z0.c)]]⟩),(6,⟨1,true,[[.i r.2.2]]⟩)] [] (by rfl)
def TZ(s:Q2)(v:Q6)(r:qT):Ext:=Ext.of .normal [(4,.ptr 1000004 0 0),(5,.ptr 1000005 0 0),(6,.ptr 1000006 0 0)] (Nr s v r) [] (by rfl)
def stV(r:qT):V:=.Qt [.agg (HS r.1),.sl false 3 (r.2.1.map Z0.c),.int .i64 r.2.2]
theorem Qhm{x:Ext}(h:x.us=[1000002,1000003,1000004,1000005,1000006]):(x.D 76).st.u=Qk:=funext λb=>by
 show (x.us.contains b || Qk b)=Qk b;rw[h];by_cases h1:b=1000002
 ·subst h1;rfl
 ·by_cases h2:b=1000003
  ·subst h2;rfl
  ·by_cases h3:b=1000004
   ·subst h3;rfl
   ·by_cases h4:b=1000005
    ·subst h4;rfl
    ·by_cases h5:b=1000006
     ·subst h5;rfl
     grind
theorem jL(s:Q2)(v:Q6){q:_⊕(Bool×Int)}{x:Ext}{u u':FrameMode}{row1 row2:List V}{l1 l2:V}{e1 e2:Int}{r:qT}(hx:Sum.elim (LO s v) (LI s v) q=x)(h2:(eV s v).run=some q)(hok:x.ok=true)(hl:Go.EV.Left u x.ex)(hbs:(x.D 76).st.b=Qe (Al s v row1 l1 e1))(hus:x.us=[1000002,1000003,1000004,1000005,1000006])
  (hD:WD Tryz.prog GG 56 JH (Qe (Al s v row1 l1 e1)) u .returned u' (Qe (Al s v row2 l2 e2))) (hM:settle u'=.returning)
  (hU:QH GG ⟨76,(x.D 76).st.t,Qe (Al s v row2 l2 e2),λ_=>true⟩ ((TZ s v r).D 76).st) :
  QS Tryz.prog GG 24 [.agg (HS s),.agg (Up v)] (Qe []) (stV r) (Qe []):=by
 subst hx;have e0:U3 76 [.agg (HS s),.agg (Up v)] (Qe [])=((yU s v).D 76).st:=(B5 (x:=yU s v) (by rfl) (by rfl) 76).symm;have t0:=(Qae s v).tv Q9 (r:=()) rfl (by rfl);have t2:=(Qam s v).tv Q9 h2 hok;have hsh:QH GG ((GC s v ()).D 76).st.shift ((XC s v).D 76).st:=by
  have eT:((GC s v ()).ts.map λp=>(p.1,W0 sh p.2))=(XC s v).ts:=by kernel_rfl
  have eB:((GC s v ()).bs.map λp=>(sh p.1,p.2.Qb sh))=(XC s v).bs:=by kernel_rfl
  rw[Ur,eT,eB];exact W3 (XC s v) (by rfl) rfl ⟨by rfl,by rfl⟩
 have hU':QH GG ⟨76,((Sum.elim (LO s v) (LI s v) q).D 76).st.t,Qe (Al s v row2 l2 e2),λ_=>true⟩ ((PD s v r).D 76).st.shift:=by
  have eT:((PD s v r).ts.map λp=>(p.1,W0 sh p.2))=(TZ s v r).ts:=by kernel_rfl
  have eB:((PD s v r).bs.map λp=>(sh p.1,p.2.Qb sh))=(TZ s v r).bs:=by kernel_rfl
  rw[Ur,eT,eB,<-iI (x:=TZ s v r) _ (by rfl)];exact hU
 have st5:B7 Tryz.prog GG #[Ng,jO] 0 ((XC s v).D 76).st (((XC s v).D 76).st.put (some 8) (.fn 56 [] JH)):=Zt (by rfl)
 have g0:M9 #[Ng,jO] ((XC s v).D 76).st Ng=some true:=by rfl
 have h0:I9 Tryz.prog GG Ng ((XC s v).D 76).st (((XC s v).D 76).st.put (some 8) (.fn 56 [] JH)):=by
  unfold B7 at st5;simp only[show (#[Ng,jO]:Array Oper)[0]?=some Ng from rfl] at st5;rcases st5 with⟨_,h⟩|⟨h,_⟩
  ·exact h
  ·rw[g0] at h;simp at h
 have gB:QH GG (((XC s v).D 76).st.put (some 8) (.fn 56 [] JH)) ((yJ s v).D 76).st:=W3 (yJ s v) (by rfl) rfl ⟨by rfl,by rfl⟩;refine Xq (As:=[cL bO]) (rest:=cR (cR bO)) (rid:=1) (t:=8) (n:=76) (o0:=Ng) (o1:=jO) (caps:=JH) (insD:=Qe (Al s v row1 l1 e1)) (outsD:=Qe (Al s v row2 l2 e2)) (S0:=((GC s v ()).D 76).st) (S1:=((XC s v).D 76).st) (S2:=((Sum.elim (LO s v) (LI s v) q).D 76).st) (Sx:=((PD s v r).D 76).st) (u:=u) (u':=u') (M:=.returning)
  Tryz.func24 eSt (by kernel_rfl) ?_ hsh h0 g0 (by kernel_rfl) (by kernel_rfl) (by rfl) (TV.ghost gB t2) hl (λc hc=>?_) (show 8 < 76 by decide) ⟨hbs,Qhm hus⟩ (by grind [jG]) Tryz.func56 (by kernel_rfl) (by kernel_rfl) hD (λ_=>hM) (λ_ h=>by cases h) hU' (Yj (ts:=(PD s v r).ts) (bs:=(PD s v r).bs) (us:=(PD s v r).us) (by rfl) (by rfl)) rfl (by grind [Qe]) (.inl ⟨rfl,rfl,by kernel_rfl,λγ w v h=>Qy.IW (γ:=γ) (γ':=γ) (by grind) h (by rfl)⟩)
 ·rw[e0];show TV _ _ (cL bO) _ _;exact t0
 ·simp only[JH,zR,zZ,or_false] at hc;rcases hc with rfl|rfl|rfl
  ·exact⟨1000004,_,rfl,by decide,rfl⟩
  ·exact⟨1000005,_,rfl,by decide,rfl⟩
  ·exact⟨1000006,_,rfl,by decide,rfl⟩
def jF(r:Q2×List Qq):qT:=(r.1,r.2,0)
def stM(s:Q2)(v:Q6):Option qT:=match (eV s v).run with
 | some (.inl r)=>some (jF r)
 | some (.inr r)=>some (Pb,[],r.2)
 | none=>none
theorem Qhx(s:Q2)(v:Q6){r:qT}(h:stM s v=some r):QS Tryz.prog GG 24 [.agg (HS s),.agg (Up v)] (Qe []) (stV r) (Qe []):=by
 unfold stM at h;split at h
 ·rename_i q hq;obtain rfl:=wh h;exact jL s v (u:=.returning) (u':=.returning) (row1:=HS (jF q).1) (row2:=HS (jF q).1) (l1:=.sl false 3 ((jF q).2.1.map Z0.c)) (l2:=.sl false 3 ((jF q).2.1.map Z0.c)) (e1:=(jF q).2.2) (e2:=(jF q).2.2) (r:=jF q) rfl hq (by rfl) (.inl ⟨rfl,rfl⟩) rfl rfl (Qha s v (jF q)) rfl (W3 (TZ s v (jF q)) (by rfl) rfl ⟨by rfl,by rfl⟩)
 ·rename_i q hq;obtain rfl:=wh h;exact jL s v (u:=.panicking (tH q.1 q.2)) (u':=stU q.1 q.2) (row1:=cJ) (row2:=cJ) (l1:=.Qh) (l2:=.Qh) (e1:=0) (e2:=q.2) (r:=(Pb,[],q.2)) rfl hq (by rfl) (.inr (.inr ⟨_,rfl,rfl⟩)) rfl rfl (Qhi s v q.1 q.2) (by cases q.1<;>rfl) (W3 (TZ s v (Pb,[],q.2)) (by rfl) rfl ⟨by rfl,by rfl⟩)
 ·cases h
def Om(p0:Q2)(p1:Q6):Sp qT:=⟨24,[.agg (HS p0),.agg (Up p1)],[],stM p0 p1,stV,λ_=>[],[],λ_ _ h=>by simp at h,λ_ h=>Qhx p0 p1 h⟩
def Q7:Ty Bool:=⟨λx=>[.bool x],λx=>[.bool x],λ_=>rfl,λ_=>rfl,λ_ _=>rfl,λ_=>rfl⟩
def zo(a b c:Nat)(f:zl):=Qw.DR (P:=Tryz.prog) (G:=GG) 289 (.tmp a) b c ⟨1,true,(List.map Q7.c (vec f))⟩ (.agg (K1 f))
def zu(a b c:Nat)(f g:zl):=Qw.KN (P:=Tryz.prog) (G:=GG) (ty:=Q7) 289 (.tmp a) (.tmp b) c ⟨1,true,(List.map Q7.c (vec f))⟩ (.agg (K1 g)) (vec g)
def zw(a:Nat):=Qw.Mp (P:=Tryz.prog) (G:=GG) (ty:=Q7) 289 a (vec (λ_=>false))
def zy(a b c d:Nat)(f:zl)(i:Int):=Qw.Yi (P:=Tryz.prog) (G:=GG) (e:=4) 289 (.tmp a) (.tmp b) c d ⟨1,true,(List.map Q7.c (vec f))⟩ 0 .i64 i 32
def Qkp(p0:Int):TT ((Nat->Bool)):=.Qz 1 (zw 2) λ_=>.Qz 1001 (zw 3) λ_=>.bind 1 (.lp (λ(l688:(Nat->Bool)×Int×Int)=>Ext.of .normal [(0,.i l688.2.1),(2,.ptr 2 0 0),(3,.ptr 3 0 0),(4,.i l688.2.2)] [] [BT.of 2 Q7 1 (vec (λ_=>false)) true,BT.of 3 Q7 1 (vec l688.1) true] (by rfl)) (λl688=>.br 0 (decide ((0:Int)<=l688.2.2)) (.Qz 5005 (zy 3 9 13 3 l688.1 l688.2.2) λ_=>.row 5006 Q7 (vec l688.1) (0+l688.2.2.toNat) true λx689=>.re 5006 (Jd.SM 3 Q7 l688.1 (0+l688.2.2.toNat) ((Int.tmod l688.2.1 2)==1)) (.done (.inl ((Na l688.1 (0+l688.2.2.toNat) ((Int.tmod l688.2.1 2)==1)),(Q0 (Int.tdiv l688.2.1 2)),(Q0 (l688.2.2 - 1)))))) (.done (.inr l688.1))) ((λ_=>false),p0,31)) (λ(e690:(Nat->Bool))=>Ext.of (.exit 0) [(2,.ptr 2 0 0),(3,.ptr 3 0 0)] [] [BT.of 2 Q7 1 (vec (λ_=>false)) true,BT.of 3 Q7 1 (vec e690) true] (by rfl)) (λe690=>.Qz 7001 (zo 3 16 3 e690) λ_=>.Qz 7002 (zu 2 16 2 (λ_=>false) e690) λ_=>.done e690)
def Oe(p0:Int):Sp ((Nat->Bool)):=oF [0,2,3,4,6] Tryz.func230 [.i p0] (Qkp p0) (λr=>.agg (K1 r))
def zx(a b:Nat)(f:zl):=Qw.DQ (P:=Tryz.prog) (G:=GG) (ty:=Q7) 289 (.tmp a) b (vec f)
def Qkr(p0:zl):TT (Int):=.Qz 1 (zx 0 1 p0) λ_=>.bind 1 (.lp (λ(l693:Int×Int)=>Ext.of .normal [(1,.ptr 1 0 0),(2,.i 0),(3,.i l693.1),(4,.i l693.2)] [] [BT.of 1 Q7 1 (vec p0) true] (by rfl)) (λl693=>.br 0 (decide (l693.2 < 32)) (.Qz 6002 (zy 1 11 12 1 p0 l693.2) λ_=>.row 6003 Q7 (vec p0) (0+l693.2.toNat) true λx694=>.br 0 x694 (.done (.inl ((Q0 ((Q0 ((2:Int) * l693.1))+1)),(Q0 (l693.2+1))))) (.done (.inl ((Q0 ((2:Int) * l693.1)),(Q0 (l693.2+1)))))) (.done (.inr l693.1))) (0,0)) (λ(e695:Int)=>Ext.l (.exit 0) [(2,.i 0),(3,.i e695)] []) (λe695=>.done e695)
def NU(p0:zl):Sp (Int):=oF [0,1,2,3,4,6,13] Tryz.func232 [.agg (K1 p0)] (Qkr p0) (λr=>.int .i64 r)
def Qkg(p0:zl)(p1:Int):TT ((Nat->Bool)):=.Qz 1 (zx 0 2 p0) λ_=>.Qz 2 (zw 4) λ_=>.Qz 1001 (zw 5) λ_=>.bind 1 (.lp (λ(l699:(Nat->Bool)×Int)=>Ext.of .normal [(1,.i p1),(2,.ptr 2 0 0),(4,.ptr 4 0 0),(5,.ptr 5 0 0),(6,.i l699.2)] [] [BT.of 2 Q7 1 (vec p0) true,BT.of 4 Q7 1 (vec (λ_=>false)) true,BT.of 5 Q7 1 (vec l699.1) true] (by rfl)) (λl699=>.br 0 (decide (l699.2 < 32)) (.Qz 5006 (zy 2 15 16 2 p0 l699.2) λ_=>.row 5007 Q7 (vec p0) (0+l699.2.toNat) true λx700=>.Qz 5008 (Qw.Yi (e:=4) 289 (.tmp 5) (.tmp 14) 18 5 ⟨1,true,(List.map Q7.c (vec l699.1))⟩ 0 .i64 (Int.tmod (Q0 (l699.2+p1)) 32) 32) λ_=>.row 5009 Q7 (vec l699.1) (0+(Int.tmod (Q0 (l699.2+p1)) 32).toNat) true λx701=>.re 5009 (Jd.SM 5 Q7 l699.1 (0+(Int.tmod (Q0 (l699.2+p1)) 32).toNat) x700) (.done (.inl ((Na l699.1 (0+(Int.tmod (Q0 (l699.2+p1)) 32).toNat) x700),(Q0 (l699.2+1)))))) (.done (.inr l699.1))) ((λ_=>false),0)) (λ(e702:(Nat->Bool))=>Ext.of (.exit 0) [(4,.ptr 4 0 0),(5,.ptr 5 0 0)] [] [BT.of 4 Q7 1 (vec (λ_=>false)) true,BT.of 5 Q7 1 (vec e702) true] (by rfl)) (λe702=>.Qz 6001 (zo 5 19 5 e702) λ_=>.Qz 6002 (zu 4 19 4 (λ_=>false) e702) λ_=>.done e702)
def Xd(p0:zl)(p1:Int):Sp ((Nat->Bool)):=oF [0,1,2,4,5,6,8] Tryz.func234 [.agg (K1 p0),.i p1] (Qkg p0 p1) (λr=>.agg (K1 r))
def Qkf(p0:zl)(p1:Int):TT ((Nat->Bool)):=.Qz 1 (zx 0 2 p0) λ_=>.Qz 2 (zw 4) λ_=>.Qz 1001 (zw 5) λ_=>.bind 1 (.lp (λ(l706:(Nat->Bool)×Int)=>Ext.of .normal [(1,.i p1),(2,.ptr 2 0 0),(4,.ptr 4 0 0),(5,.ptr 5 0 0),(6,.i l706.2)] [] [BT.of 2 Q7 1 (vec p0) true,BT.of 4 Q7 1 (vec (λ_=>false)) true,BT.of 5 Q7 1 (vec l706.1) true] (by rfl)) (λl706=>.br 0 (decide ((Q0 (l706.2+p1)) < 32)) (.Qz 5005 (zy 2 16 17 2 p0 l706.2) λ_=>.row 5006 Q7 (vec p0) (0+l706.2.toNat) true λx707=>.Qz 5007 (Qw.Yi (e:=4) 289 (.tmp 5) (.tmp 15) 19 5 ⟨1,true,(List.map Q7.c (vec l706.1))⟩ 0 .i64 (Q0 (l706.2+p1)) 32) λ_=>.row 5008 Q7 (vec l706.1) (0+(Q0 (l706.2+p1)).toNat) true λx708=>.re 5008 (Jd.SM 5 Q7 l706.1 (0+(Q0 (l706.2+p1)).toNat) x707) (.done (.inl ((Na l706.1 (0+(Q0 (l706.2+p1)).toNat) x707),(Q0 (l706.2+1)))))) (.done (.inr l706.1))) ((λ_=>false),0)) (λ(e709:(Nat->Bool))=>Ext.of (.exit 0) [(4,.ptr 4 0 0),(5,.ptr 5 0 0)] [] [BT.of 4 Q7 1 (vec (λ_=>false)) true,BT.of 5 Q7 1 (vec e709) true] (by rfl)) (λe709=>.Qz 6001 (zo 5 20 5 e709) λ_=>.Qz 6002 (zu 4 20 4 (λ_=>false) e709) λ_=>.done e709)
def lW(p0:zl)(p1:Int):Sp ((Nat->Bool)):=oF [0,1,2,4,5,6,10] Tryz.func235 [.agg (K1 p0),.i p1] (Qkf p0 p1) (λr=>.agg (K1 r))
def Qkl(p0 p1:zl):TT ((Nat->Bool)):=.Qz 1 (zx 0 2 p0) λ_=>.Qz 2 (zx 1 3 p1) λ_=>.Qz 3 (zw 4) λ_=>.Qz 1001 (zw 5) λ_=>.bind 1 (.lp (λ(l714:(Nat->Bool)×Int)=>Ext.of .normal [(2,.ptr 2 0 0),(3,.ptr 3 0 0),(4,.ptr 4 0 0),(5,.ptr 5 0 0),(6,.i l714.2)] [] [BT.of 2 Q7 1 (vec p0) true,BT.of 3 Q7 1 (vec p1) true,BT.of 4 Q7 1 (vec (λ_=>false)) true,BT.of 5 Q7 1 (vec l714.1) true] (by rfl)) (λl714=>.br 0 (decide (l714.2 < 32)) (.Qz 5003 (zy 2 12 13 2 p0 l714.2) λ_=>.row 5004 Q7 (vec p0) (0+l714.2.toNat) true λx715=>.Qz 5006 (zy 3 15 16 3 p1 l714.2) λ_=>.row 5007 Q7 (vec p1) (0+l714.2.toNat) true λx716=>.Qz 5009 (zy 5 11 19 5 l714.1 l714.2) λ_=>.row 5010 Q7 (vec l714.1) (0+l714.2.toNat) true λx717=>.re 5010 (Jd.SM 5 Q7 l714.1 (0+l714.2.toNat) (!(x715==x716))) (.done (.inl ((Na l714.1 (0+l714.2.toNat) (!(x715==x716))),(Q0 (l714.2+1)))))) (.done (.inr l714.1))) ((λ_=>false),0)) (λ(e718:(Nat->Bool))=>Ext.of (.exit 0) [(4,.ptr 4 0 0),(5,.ptr 5 0 0)] [] [BT.of 4 Q7 1 (vec (λ_=>false)) true,BT.of 5 Q7 1 (vec e718) true] (by rfl)) (λe718=>.Qz 6001 (zo 5 20 5 e718) λ_=>.Qz 6002 (zu 4 20 4 (λ_=>false) e718) λ_=>.done e718)
def TN(p0 p1:zl):Sp ((Nat->Bool)):=oF [0,1,2,3,4,5,6,8] Tryz.func236 [.agg (K1 p0),.agg (K1 p1)] (Qkl p0 p1) (λr=>.agg (K1 r))
def Qko(p0 p1:zl):TT ((Nat->Bool)):=.Qz 1 (zx 0 2 p0) λ_=>.Qz 2 (zx 1 3 p1) λ_=>.Qz 3 (zw 4) λ_=>.Qz 1001 (zw 5) λ_=>.bind 1 (.lp (λ(l724:(Nat->Bool)×Int)=>Ext.of .normal [(2,.ptr 2 0 0),(3,.ptr 3 0 0),(4,.ptr 4 0 0),(5,.ptr 5 0 0),(6,.i l724.2)] [] [BT.of 2 Q7 1 (vec p0) true,BT.of 3 Q7 1 (vec p1) true,BT.of 4 Q7 1 (vec (λ_=>false)) true,BT.of 5 Q7 1 (vec l724.1) true] (by rfl)) (λl724=>.br 0 (decide (l724.2 < 32)) (.Qz 5003 (zy 2 12 13 2 p0 l724.2) λ_=>.row 5004 Q7 (vec p0) (0+l724.2.toNat) true λx725=>.br 5006 x725 (.Qz 5007 (zy 3 16 17 3 p1 l724.2) λ_=>.row 5008 Q7 (vec p1) (0+l724.2.toNat) true λx726=>.Qz 5010 (zy 5 11 20 5 l724.1 l724.2) λ_=>.row 5011 Q7 (vec l724.1) (0+l724.2.toNat) true λx727=>.re 5011 (Jd.SM 5 Q7 l724.1 (0+l724.2.toNat) x726) (.done (.inl ((Na l724.1 (0+l724.2.toNat) x726),(Q0 (l724.2+1)))))) (.Qz 5010 (zy 5 11 20 5 l724.1 l724.2) λ_=>.row 5011 Q7 (vec l724.1) (0+l724.2.toNat) true λx728=>.re 5011 (Jd.SM 5 Q7 l724.1 (0+l724.2.toNat) false) (.done (.inl ((Na l724.1 (0+l724.2.toNat) false),(Q0 (l724.2+1))))))) (.done (.inr l724.1))) ((λ_=>false),0)) (λ(e729:(Nat->Bool))=>Ext.of (.exit 0) [(4,.ptr 4 0 0),(5,.ptr 5 0 0)] [] [BT.of 4 Q7 1 (vec (λ_=>false)) true,BT.of 5 Q7 1 (vec e729) true] (by rfl)) (λe729=>.Qz 6001 (zo 5 21 5 e729) λ_=>.Qz 6002 (zu 4 21 4 (λ_=>false) e729) λ_=>.done e729)
def NJ(p0 p1:zl):Sp ((Nat->Bool)):=oF [0,1,2,3,4,5,6,8] Tryz.func237 [.agg (K1 p0),.agg (K1 p1)] (Qko p0 p1) (λr=>.agg (K1 r))
def Qki(p0:zl):TT ((Nat->Bool)):=.Qz 1 (zx 0 1 p0) λ_=>.Qz 2 (zw 2) λ_=>.Qz 1001 (zw 3) λ_=>.bind 1 (.lp (λ(l733:(Nat->Bool)×Int)=>Ext.of .normal [(1,.ptr 1 0 0),(2,.ptr 2 0 0),(3,.ptr 3 0 0),(4,.i l733.2)] [] [BT.of 1 Q7 1 (vec p0) true,BT.of 2 Q7 1 (vec (λ_=>false)) true,BT.of 3 Q7 1 (vec l733.1) true] (by rfl)) (λl733=>.br 0 (decide (l733.2 < 32)) (.Qz 5003 (zy 1 10 11 1 p0 l733.2) λ_=>.row 5004 Q7 (vec p0) (0+l733.2.toNat) true λx734=>.Qz 5006 (zy 3 9 14 3 l733.1 l733.2) λ_=>.row 5007 Q7 (vec l733.1) (0+l733.2.toNat) true λx735=>.re 5007 (Jd.SM 3 Q7 l733.1 (0+l733.2.toNat) (!x734)) (.done (.inl ((Na l733.1 (0+l733.2.toNat) (!x734)),(Q0 (l733.2+1)))))) (.done (.inr l733.1))) ((λ_=>false),0)) (λ(e736:(Nat->Bool))=>Ext.of (.exit 0) [(2,.ptr 2 0 0),(3,.ptr 3 0 0)] [] [BT.of 2 Q7 1 (vec (λ_=>false)) true,BT.of 3 Q7 1 (vec e736) true] (by rfl)) (λe736=>.Qz 6001 (zo 3 15 3 e736) λ_=>.Qz 6002 (zu 2 15 2 (λ_=>false) e736) λ_=>.done e736)
def lH(p0:zl):Sp ((Nat->Bool)):=oF [0,1,2,3,4,6] Tryz.func238 [.agg (K1 p0)] (Qki p0) (λr=>.agg (K1 r))
def Qkn(p0 p1 p2:zl):TT ((Nat->Bool)):=.Qz 1 (zx 0 3 p0) λ_=>.Qz 2 (zx 1 4 p1) λ_=>.Qz 3 (zx 2 5 p2) λ_=>.Qz 4 (zw 6) λ_=>.Qz 1001 (zo 3 7 3 p0) λ_=>.Qz 1002 (zo 4 8 4 p1) λ_=>.cl 1003 (TN p0 p1) λr737=>.Qz 1004 (zo 5 10 5 p2) λ_=>.cl 1005 (TN r737 p2) λr738=>.Qz 1006 (zu 6 11 6 (λ_=>false) r738) λ_=>.done r738
def Se(p0 p1 p2:zl):Sp ((Nat->Bool)):=oF [0,1,2,3,4,5,6] Tryz.func233 [.agg (K1 p0),.agg (K1 p1),.agg (K1 p2)] (Qkn p0 p1 p2) (λr=>.agg (K1 r))
def Xx(p0 p1 p2 p3 p4:Int):Sp (Int):=oF [0,1,2,3,4,10] Tryz.func231 [.i p0,.i p1,.i p2,.i p3,.i p4] (.done (Int.tmod (Q0 ((Q0 ((Q0 ((Q0 (p0+p1))+p2))+p3))+p4)) 4294967296):TT (Int)) (λr=>.int .i64 r)
end Go.Proofs.YtjdieimefebnfaaGreatDoor
