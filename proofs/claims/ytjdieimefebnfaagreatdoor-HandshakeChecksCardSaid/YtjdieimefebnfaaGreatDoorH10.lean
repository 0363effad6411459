/- Guides and contracts, printed by a program. Guides and contracts, printed by a program. Guides and contracts, printed by a program. The table of a ha ..; no conditions. -/
import Derived.Test.YtjdieimefebnfaaGreatDoorH9
import Derived.Test.YtjdieimefebnfaaGreatDoorH6
import Derived.Test.YtjdieimefebnfaaGreatDoorH7
import Derived.KernelRfl
set_option linter.unusedVariables false
set_option linter.unusedSimpArgs false
set_option maxRecDepth 100000
noncomputable section
namespace Go.Proofs.YtjdieimefebnfaaGreatDoor
open Go Go.EV
structure H1 where
 JD:Int
 Zv:Int
 Yr:Int
 JX:Int
 ZP:Int
 QC:Int
 ET:Int
 KQ:Bool
structure U0 where
 fq:za
 fP:za
 fe:za
structure Q2 where
 fB:Int
 fw:Int
 fj:Int
 fV:za
 fe:za
 fQ:za
 fq:za
 fT:za
 fp:(List za)
 fm:Int
 fE:za
 fh:U0
 fI:za
 fo:(List Z1)
 fA:Z8
 gc:Int
structure Q9 where
 fc:Q2
 QZ:za
 QL:(List Z1)
def L6:Ty H1:=⟨λx=>[.i x.JD,.i x.Zv,.i x.Yr,.i x.JX,.i x.ZP,.i x.QC,.i x.ET,.bool x.KQ],λx=>[.i x.JD,.i x.Zv,.i x.Yr,.i x.JX,.i x.ZP,.i x.QC,.i x.ET,.bool x.KQ],λ_=>rfl,λ_=>rfl,λ_ _=>rfl,λ_=>rfl⟩
def Z0:Ty Z1:=⟨λx=>[.i x.ft,.i x.fZ,.str x.fk],λx=>[.i x.ft,.i x.fZ,.str x.fk],λ_=>rfl,λ_=>rfl,λ_ _=>rfl,λ_=>rfl⟩
def QM(s:Q2):List V:=[.int .i64 s.fB,.int .i64 s.fw,.int .i64 s.fj,.str s.fV,.str s.fe,.str s.fQ,.str s.fq,.str s.fT,.sl false 1 (List.map Z2.c s.fp),.int .i64 s.fm,.str s.fE,.str s.fh.fq,.str s.fh.fP,.str s.fh.fe,.str s.fI,.sl false 3 (List.map Z0.c s.fo),.int .i64 s.fA.fF,.int .i64 s.fA.fX,.int .i64 s.fA.fM,.int .i64 s.gc]
def YQ(m:Q9):List V:=Zj (QM m.fc) [.str m.QZ,.sl false 3 (List.map Z0.c m.QL)]
def Qjs(p0:za):TT (Bool):=.done ((p0.size:Int) != 32)
def rF(p0:za):Sp (Bool):=oF [0,2] Tryz.func172 [.str p0] (Qjs p0) (λr=>.bool r)
def jN(p0:List za):TT (Int):=.QD 1 (.lp (λ(l505:Int)=>Ext.l .normal [(0,Sl 1 Z2 p0),(1,.fn 172 [] []),(4,.i 0),(7,.i (M6 Z2 p0)),(8,.i l505)] []) (λl505=>.br 0 (decide (l505 < (M6 Z2 p0))) (.row 4004 Z2 p0 l505.toNat (decide (0<=l505)) λx506=>.cl 4006 (rF x506) λr507=>.br 0 r507 (.done (.inr (.inl l505))) (.done (.inl (Q0 (l505+1))))) (.done (.inr (.inr ())))) 0) (λ(e508:Int)=>Ext.l .ret [(4,.i e508)] []) (λ(e509:Unit)=>Ext.l (.exit 0) [(4,.i 0)] []) (λe508=>.done e508) (λe509=>.done (-1))
def RM(p0:List za):Sp (Int):=oF [0,1,4,5,7,8,9,16] Tryz.func173 [Sl 1 Z2 p0,.fn 172 [] []] (jN p0) (λr=>.int .i64 r)
def jS(p0:List za):TT (Bool):=.cl 1003 (RM p0) λr510=>.done (decide ((0:Int)<=r510))
def RO(p0:List za):Sp (Bool):=oF [0,1,4] Tryz.func114 [Sl 1 Z2 p0,.fn 172 [] []] (jS p0) (λr=>.bool r)
def Qh1(p0:List za):TT (Bool):=.cl 1002 (RO p0) λr511=>.done (!r511)
def Ck(p0:List za):Sp (Bool):=oF [0,2] Tryz.func113 [Sl 1 Z2 p0] (Qh1 p0) (λr=>.bool r)
def Qk8 :Sp ((List H1)):=oF [0] Tryz.func121 [] (.gh 0 (.share (QE.o 12 L6 [(H1.mk 1 1 0 0 0 0 0 false),(H1.mk 2 1 0 0 0 0 0 false),(H1.mk 2 1 1 6 0 0 2 false),(H1.mk 1 2 1 1 0 0 1 true),(H1.mk 1 3 2 7 100 0 1 true),(H1.mk 2 4 1 7 168 1 3 true),(H1.mk 1 5 3 8 204 2 4 true),(H1.mk 1 6 3 8 240 2 0 false),(H1.mk 2 6 2 8 240 2 5 false),(H1.mk 1 7 0 8 0 0 0 false),(H1.mk 2 7 0 8 0 0 0 false)]) 0) (.done [(H1.mk 1 1 0 0 0 0 0 false),(H1.mk 2 1 0 0 0 0 0 false),(H1.mk 2 1 1 6 0 0 2 false),(H1.mk 1 2 1 1 0 0 1 true),(H1.mk 1 3 2 7 100 0 1 true),(H1.mk 2 4 1 7 168 1 3 true),(H1.mk 1 5 3 8 204 2 4 true),(H1.mk 1 6 3 8 240 2 0 false),(H1.mk 2 6 2 8 240 2 5 false),(H1.mk 1 7 0 8 0 0 0 false),(H1.mk 2 7 0 8 0 0 0 false)]):TT ((List H1))) (λr=>Sl 8 L6 r)
def s66 :Sp (Z8):=oF [0] Tryz.func66 [] (.done (Z8.mk (-1) 0 0):TT (Z8)) (λr=>.agg [.int .i64 r.fF,.int .i64 r.fX,.int .i64 r.fM])
def Qut(p0:za):TT (Int):=.cl 1002 (OV p0) λr517=>.br 0 (!r517) (.done 5) (.done 0)
def pN(p0:za):Sp (Int):=oF [0,2,5] Tryz.func116 [.str p0] (Qut p0) (λr=>.int .i64 r)
def Quv(p0:za):TT (Bool):=.cl 1002 (pN p0) λr518=>.done (r518 != 0)
def pR(p0:za):Sp (Bool):=oF [0,2] Tryz.func115 [.str p0] (Quv p0) (λr=>.bool r)
def jG(p0:List za):TT (Int):=.QD 1 (.lp (λ(l520:Int)=>Ext.l .normal [(0,Sl 1 Z2 p0),(1,.fn 115 [] []),(4,.i 0),(7,.i (M6 Z2 p0)),(8,.i l520)] []) (λl520=>.br 0 (decide (l520 < (M6 Z2 p0))) (.row 4004 Z2 p0 l520.toNat (decide (0<=l520)) λx521=>.cl 4006 (pR x521) λr522=>.br 0 r522 (.done (.inr (.inl l520))) (.done (.inl (Q0 (l520+1))))) (.done (.inr (.inr ())))) 0) (λ(e523:Int)=>Ext.l .ret [(4,.i e523)] []) (λ(e524:Unit)=>Ext.l (.exit 0) [(4,.i 0)] []) (λe523=>.done e523) (λe524=>.done (-1))
def RK(p0:List za):Sp (Int):=oF [0,1,4,5,7,8,9,16] Tryz.func173 [Sl 1 Z2 p0,.fn 115 [] []] (jG p0) (λr=>.int .i64 r)
def jP(p0:List za):TT (Bool):=.cl 1003 (RK p0) λr525=>.done (decide ((0:Int)<=r525))
def RI(p0:List za):Sp (Bool):=oF [0,1,4] Tryz.func114 [Sl 1 Z2 p0,.fn 115 [] []] (jP p0) (λr=>.bool r)
def Qjr(p0:List Int)(p1:Int):TT (Int):=.QD 1 (.lp (λ(l534:Int)=>Ext.l .normal [(0,Sl 1 Q3 p0),(1,.i p1),(4,.i 0),(7,.i (M6 Q3 p0)),(8,.i l534)] []) (λl534=>.br 0 (decide (l534 < (M6 Q3 p0))) (.row 4004 Q3 p0 l534.toNat (decide (0<=l534)) λx535=>.br 0 (p1==x535) (.done (.inr (.inl l534))) (.done (.inl (Q0 (l534+1))))) (.done (.inr (.inr ())))) 0) (λ(e536:Int)=>Ext.l .ret [(4,.i e536)] []) (λ(e537:Unit)=>Ext.l (.exit 0) [(4,.i 0)] []) (λe536=>.done e536) (λe537=>.done (-1))
def rI(p0:List Int)(p1:Int):Sp (Int):=oF [0,1,4,5,7,8,9,16] Tryz.func176 [Sl 1 Q3 p0,.i p1] (Qjr p0 p1) (λr=>.int .i64 r)
def Qus(p0:List Int)(p1:Int):TT (Bool):=.cl 1003 (rI p0 p1) λr538=>.done (decide ((0:Int)<=r538))
def pG(p0:List Int)(p1:Int):Sp (Bool):=oF [0,1,4] Tryz.func119 [Sl 1 Q3 p0,.i p1] (Qus p0 p1) (λr=>.bool r)
def Qjg(p0:Q9)(p1:H1):TT (Int):=.br 0 (p1.QC==1) (.done (Q0 (p1.ZP+(p0.fc.fe.size:Int)))) (.br 0 (p1.QC==2) (.done (Q0 ((Q0 (p1.ZP+(p0.fc.fe.size:Int)))+(p0.fc.fh.fe.size:Int)))) (.done p1.ZP))
def rX(p0:Q9)(p1:H1):Sp (Int):=oF [0,1,3,4,6,7,18] Tryz.func178 [.snap (YQ p0),.agg (L6.c p1)] (Qjg p0 p1) (λr=>.int .i64 r)
def Qur(p0:Q9)(p1:H1):TT (Bool):=.QK 1 [67] (.oR 1010 (p0.fc.fB != p1.JD) (.oR 1020 (p0.fc.fw != p1.Zv) (.oR 1030 (decide (p0.fc.fm < p1.Yr)) (.oR 1040 (decide (p1.JX < p0.fc.fm)) (.cl 1048 (rX p0 p1) λr543=>.oR 1052 ((p0.fc.fE.size:Int) != r543) (.done (!(p1.KQ==(decide ((0:Int)<=p0.fc.fA.fF)))))))))) zi λc544=>.br 0 c544 (.done false) (.bind 0 (.br 0 (p1.QC==0) (.QK 7 [5] (.an 7009 ((decide (p0.fc.fh.fq=zd))&&((decide (p0.fc.fh.fP=zd))&&((decide (p0.fc.fh.fe=zd))&&true))) (.done (decide (p0.fc.fI=zd)))) zi λc545=>.done c545) (.br 0 (p1.QC==1) (.QK 9 [5] (.view 9014 (Ck [p0.fc.fh.fq,p0.fc.fh.fP]) [] λr546=>.an 9016 r546 (.an 9025 (decide (p0.fc.fh.fe=zd)) (.done (decide (p0.fc.fI=zd))))) zi λc547=>.done c547) (.QK 5 [5] (.view 5019 (Ck [p0.fc.fh.fq,p0.fc.fh.fP,p0.fc.fI]) [] λr548=>.an 5021 r548 (.cl 5027 (dA p0.fc.fh.fe) λr549=>.done r549)) zi λc550=>.done c550))) (λ(e551:Bool)=>Ext.l .normal [(0,.snap (YQ p0)),(3,.ptr 3 0 0),(4,.bool false),(5,.bool e551)] [(3,⟨8,true,[(L6.c p1)]⟩)]) (λe551=>.br 0 (p1.ET==0) (.QK 11 [4] (.an 11003 e551 (.done ((M6 Z0 p0.fc.fo)==0))) zi λc552=>.done c552) (.QK 12 [4] (.an 12003 e551 (.an 12012 ((M6 Z0 p0.fc.fo)==1) (.row 12017 Z0 p0.fc.fo 0 true λx553=>.cl 12019 (s58 x553) λr554=>.an 12023 (r554==0) (.row 12028 Z0 p0.fc.fo 0 true λx555=>.an 12036 (x555.ft==p1.ET) (.row 12041 Z0 p0.fc.fo 0 true λx556=>.done (x556.fZ==(Q0 (p0.fc.fm - 1)))))))) zi λc557=>.done c557)))
def pL(p0:Q9)(p1:H1):Sp (Bool):=oF [0,1,3,4,5,67,69,98,115,150] Tryz.func122 [.snap (YQ p0),.agg (L6.c p1)] (Qur p0 p1) (λr=>.bool r)
def Qjn(p0:List H1)(p1:Q9):TT (Int):=.QD 1 (.lp (λ(l559:Int)=>Ext.l .normal [(0,Sl 8 L6 p0),(1,.fn 122 [.snap (YQ p1)] []),(4,.i 0),(7,.i (M6 L6 p0)),(8,.i l559)] []) (λl559=>.br 0 (decide (l559 < (M6 L6 p0))) (.row 4004 L6 p0 l559.toNat (decide (0<=l559)) λx560=>.cl 4006 (pL p1 x560) λr561=>.br 0 r561 (.done (.inr (.inl l559))) (.done (.inl (Q0 (l559+1))))) (.done (.inr (.inr ())))) 0) (λ(e562:Int)=>Ext.l .ret [(4,.i e562)] []) (λ(e563:Unit)=>Ext.l (.exit 0) [(4,.i 0)] []) (λe562=>.done e562) (λe563=>.done (-1))
def rA(p0:List H1)(p1:Q9):Sp (Int):=oF [0,1,4,5,7,8,9,16] Tryz.func177 [Sl 8 L6 p0,.fn 122 [.snap (YQ p1)] []] (Qjn p0 p1) (λr=>.int .i64 r)
def Qup(p0:List H1)(p1:Q9):TT (Bool):=.cl 1003 (rA p0 p1) λr564=>.done (decide ((0:Int)<=r564))
def pF(p0:List H1)(p1:Q9):Sp (Bool):=oF [0,1,4] Tryz.func120 [Sl 8 L6 p0,.fn 122 [.snap (YQ p1)] []] (Qup p0 p1) (λr=>.bool r)
def g65(p0:Q9):TT (Bool):=.bind 0 (.br 0 (p0.fc.fB==2) (.view 3007 (Ck [p0.fc.fT]) [] λr512=>.done r512) (.done (decide (p0.fc.fT=zd)))) (λ(e513:Bool)=>Ext.l .normal [(0,.snap (YQ p0)),(2,.bool false),(3,.bool e513)] []) (λe513=>.bind 0 (.br 0 (p0.fc.fw==7) (.gh 0 (.Qc 33 600014) (.done [2,4,6,9,10])) (.gh 0 (.Qc 26 600014) (.done [0]))) (λ(e514:(List Int))=>Ext.of .normal [(0,.snap (YQ p0)),(2,.bool false),(3,.bool e513),(4,Rf 600014 e514)] [] [Bt 600014 Q3 1 e514] (by rfl)) (λe514=>.QK 7 [5] (.an 7009 (decide ((M6 Z2 p0.fc.fp)<=8)) (.cl 7014 (RI p0.fc.fp) λr526=>.done (!r526))) zi λc527=>.QK 8 [6] (.an 8008 (decide ((0:Int)<=p0.fc.fj)) (.an 8016 (decide (p0.fc.fj<=1099511627776)) (.view 8032 (Ck [p0.fc.fV,p0.fc.fQ,p0.fc.fq]) [] λr528=>.an 8035 r528 (.an 8038 e513 (.an 8041 c527 (.cl 8046 (dA p0.fc.fe) λr529=>.done r529)))))) zi λc530=>.QK 9 [2] (.an 9003 c530 (.cl 9008 (dX p0.fc.fA) λr531=>.an 9012 (r531==0) (.view 9018 (pG e514 p0.fc.gc) [(QE.o 600014 Q3 e514)] λr539=>.an 9021 r539 (.cl 9021 Qk8 λr540=>.cl 9024 (pF r540 p0) λr565=>.done r565)))) zi λc566=>.done c566))
def s65(p0:Q9):Sp (Bool):=oF [0,2,3,4,5,6,18,32] Tryz.func65 [.snap (YQ p0)] (g65 p0) (λr=>.bool r)
def g28(p0:Q2):TT (Int):=.gh 4 (.tell 3 [(Zj (QM p0) [.str zd,.sl false 3 (List.map Z0.c [])])]) (.view 2001 (s65 (Q9.mk p0 zd [])) [] λr512=>.br 0 (!r512) (.done 200) (.done 0))
def Tp(p0:Q2):Sp (Int):=oF [0,1,2,3,7] Tryz.func28 [.agg (QM p0)] (g28 p0) (λr=>.int .i64 r)
def g60(p0:List za):TT Unit:=.app 3003 Z2 [] p0 16 true (by intros;rfl) (.done ())
theorem Qmg:Y1 Tryz.prog GG [2] 8 (MK Tryz.f60.body) (Ext.l .normal [(2,.Qy)] []) (.done ():TT Unit) (λ_=>Ext.l .ret [(2,.Qy)] []):=by unfold Y1;kernel_rfl
theorem Qmn(p0:List za):Y1 Tryz.prog GG [0,2,5,6,7] 8 (Wb Tryz.f60.body) (Ext.l .normal [(0,.sl false 1 (List.map Z2.c p0)),(2,.Qy)] []) (g60 p0) (λ_=>Ext.of .ret [(2,.ref 7 0 ([]++p0).length)] [] [BT.of 7 Z2 1 ([]++p0)] (by rfl)):=by unfold Y1;kernel_rfl
theorem k60(p0:(List za)){r:Unit}(h:(g60 p0).run=some r):QR Tryz.prog GG 60 [.sl false 1 (List.map Z2.c p0)] (Qm []) (.ref 7 0 p0.length) (Qm [(7,⟨1,true,List.map Z2.c p0⟩)]):=
 Nl (ty:=Z2) (ops0:=Oi Tryz.f60.body) (ops1:=Oa Tryz.f60.body) (yes:=MK Tryz.f60.body) (rest:=Wb Tryz.f60.body) (t:=40) Q7 (by decide) Tryz.func60 (by kernel_rfl) (by kernel_rfl) (by kernel_rfl) (by kernel_rfl) (by kernel_rfl) (by kernel_rfl) (by kernel_rfl) (by kernel_rfl) (by kernel_rfl) Qmg (Qmn p0) (by rfl) h
def s60(p0:List za):Sp Unit:=⟨60,[Sl 1 Z2 p0],[],(g60 p0).run,λ_=>Rf 7 p0,λ_=>[(7,⟨1,true,List.map Z2.c p0⟩)],[7],λ_ p hp _=>by rw[wm.1 hp];exact Z2.data _,λ_ h=>k60 p0 h⟩
def g30(p0:Int)(p1 p2 p3 p4 p5:za)(p6:List za)(p7:Int):TT (Q2×Int):=.call 1009 (s60 p6) [] [(7,500015)] λr513=>.cl 1010 s66 λr514=>.view 2002 (Tp (Q2.mk p0 1 p7 p1 p2 p3 p4 p5 p6 0 zd (U0.mk zd zd zd) zd [] r514 0)) [(QE.o 500015 Z2 p6)] λr515=>.br 0 (r515 != 0) (.done ((Q2.mk 0 0 0 zd zd zd zd zd [] 0 zd (U0.mk zd zd zd) zd [] (Z8.mk 0 0 0) 0),2)) (.cl 4002 (s46 p2) λr516=>.cl 5002 (s67 p1) λr517=>.QK 6 [55] (.oR 6004 (r517.2 != 0) (.done (!decide (r517.1=r516.1.fJ)))) zi λc518=>.br 0 c518 (.done ((Q2.mk 0 0 0 zd zd zd zd zd [] 0 zd (U0.mk zd zd zd) zd [] (Z8.mk 0 0 0) 0),2)) (.gh 0 (.share (QE.o 500015 Z2 p6) 1) (.done ((Q2.mk p0 1 p7 p1 p2 p3 p4 p5 p6 0 zd (U0.mk zd zd zd) zd [] r514 0),0))))
def Vv(p0:Int)(p1 p2 p3 p4 p5:za)(p6:List za)(p7:Int):Sp (Q2×Int):=oF [0,1,2,3,4,5,6,7,16,17,18,19,21,22,36,55] Tryz.func30 [.i p0,.str p1,.str p2,.str p3,.str p4,.str p5,Sl 1 Z2 p6,.i p7] (g30 p0 p1 p2 p3 p4 p5 p6 p7) (λr=>.Qs [.agg (QM r.1),.i r.2])
def g26(p0:Q2):TT (Int×Int):=.cl 1002 (Tp p0) λr519=>.br 0 (r519 != 0) (.done (0,200)) (.br 0 (decide (p0.fA.fF < 0)) (.done (0,4)) (.done (p0.fA.fF,0)))
def eO(p0:Q2):Sp (Int×Int):=oF [0,1,2,3,4,8] Tryz.func26 [.agg (QM p0)] (g26 p0) (λr=>.Qs [.i r.1,.i r.2])
def IV(p:Q9):List V:=(YQ p)
def s57(p0:Bool)(p1:Int):Sp (Unit):=oF [0,1,5] Tryz.func57 [.bool p0,.i p1] (.br 0 (!p0) (.fail) (.done ()):TT (Unit)) (λr=>.Qs [])
def Qj4(p0:za)(p1:Int):TT (za):=.cl 1004 (s57 (p1==0) p1) λr521=>.done p0
def OT(p0:za)(p1:Int):Sp (za):=oF [0,1,4] Tryz.func213 [.str p0,.i p1] (Qj4 p0 p1) (λr=>.str r)
def tF(p0:Q9):TT (za):=.cl 1006 (s67 p0.fc.fQ) λr520=>.cl 1009 (OT r520.1 r520.2) λr522=>.done r522
def VW(p0:Q9):Sp (za):=oF [0,2] Tryz.func160 [.snap (YQ p0)] (tF p0) (λr=>.str r)
def Qj6(p0:Z8)(p1:Int):TT (Z8):=.cl 1004 (s57 (p1==0) p1) λr527=>.done p0
def nV(p0:Z8)(p1:Int):Sp (Z8):=oF [0,1,2,4] Tryz.func211 [.agg [.i p0.fF,.i p0.fX,.i p0.fM],.i p1] (Qj6 p0 p1) (λr=>.agg [.i r.fF,.i r.fX,.i r.fM])
def tG(p0 p1:Int)(p2:za)(p3:Q9):TT (Int×Int×Int×Int×(List Z1)):=.cl 3002 s66 λr524=>.QK 4 [54] (.an 4004 (p0 != 1) (.done (p0 != 6))) zi λc525=>.br 0 c525 (.cl 5007 (nT p3.fc.fj) λr526=>.cl 5010 (nV r526.1 r526.2) λr528=>.gh 0 (.share (QE.o 30 Z0 [(Z1.mk p1 p3.fc.fm p2)]) 0) (.gh 0 (.share (QE.o 32 Z0 [(Z1.mk p1 p3.fc.fm p2)]) 0) (.done (r528.fF,r528.fX,r528.fM,(Q0 (p3.fc.fm+1)),[(Z1.mk p1 p3.fc.fm p2)])))) (.gh 0 (.share (QE.o 30 Z0 [(Z1.mk p1 p3.fc.fm p2)]) 0) (.gh 0 (.share (QE.o 32 Z0 [(Z1.mk p1 p3.fc.fm p2)]) 0) (.done (r524.fF,r524.fX,r524.fM,(Q0 (p3.fc.fm+1)),[(Z1.mk p1 p3.fc.fm p2)]))))
def Lq(p0 p1:Int)(p2:za)(p3:Q9):Sp (Int×Int×Int×Int×(List Z1)):=.ZL 159 [] Q7 Tryz.func159 rfl (λ_=>rfl) (show WK Pg GG [0,1,2,3,8,9,54] Tryz.f159 [.ptr zy 0 0,.i p0,.i p1,.str p2] (Ext.of .normal (H2 [.ptr zy 0 0,.i p0,.i p1,.str p2]) [(zy,⟨22,true,[(YQ p3)]⟩)] [] (by rfl)) (tG p0 p1 p2 p3) (λ(r:Int×Int×Int×Int×(List Z1))=>.agg [.i p1,.i p3.fc.fm,.str p2]) (λ(r:Int×Int×Int×Int×(List Z1))=>Ext.of .normal [] [(zy,⟨22,true,[(YQ { p3 with fc:={ p3.fc with fw:=p0,fm:=r.2.2.2.1,fo:=r.q,fA:=⟨r.1,r.2.1,r.2.2.1⟩ },QL:=r.q })]⟩)] [] (by rfl)) by unfold WK;kernel_rfl)
def tC(p0:Q9):TT (Int×Int×(List Z1)×Int×Int×Int):=.view 8 (VW p0) [] λr523=>.Qd 9 (decide (p0.fc.fq.size+r523.size<=9223372036854775807)) (.call 10 (Lq 2 1 (p0.fc.fq++r523) p0) [(zy,zy)] [] λr529=>.done (2,r529.2.2.2.1,r529.q,r529.1,r529.2.1,r529.2.2.1))
def Qz4(p0:Q9):Sp (Int×Int×(List Z1)×Int×Int×Int):=.ZL 106 [] Q7 Tryz.func106 rfl (λ_=>rfl) (show WK Pg GG [0] Tryz.f106 [.ptr zy 0 0] (Ext.of .normal (H2 [.ptr zy 0 0]) [(zy,⟨22,true,[(YQ p0)]⟩)] [] (by rfl)) (tC p0) (λ(r:Int×Int×(List Z1)×Int×Int×Int)=>.Qs []) (λ(r:Int×Int×(List Z1)×Int×Int×Int)=>Ext.of .normal [] [(zy,⟨22,true,[(YQ { p0 with fc:={ p0.fc with fw:=r.1,fm:=r.2.1,fo:=r.2.2.1,fA:=⟨r.2.2.2.1,r.q.1,r.q.2⟩ },QL:=r.2.2.1 })]⟩)] [] (by rfl)) by unfold WK;kernel_rfl)
def jO(p0:Bool)(p1:Int):TT ((Unit)⊕(Unit)):=.br 0 (!p0) (.Qz 1003 (Qh.Zk 124 (.tmp 7) 8 (.agg [.int .i64 p1]) (.agg #[.int .i64 p1]) rfl (by kernel_rfl)) λ_=>.UD 1004 (.done (.inr ()))) (.done (.inl ()))
theorem Qy4(p0:Bool)(p1:Int):UU Tryz.prog GG [0,1,5] Tryz.f57 [.bool p0,.i p1] (Ext.of .normal (H2 [.bool p0,.i p1]) [] [] (by rfl)) (jO p0 p1) (λ(_:Unit)=>.Qs []) (λ(r:Unit)=>Ext.of .normal [] [] [] (by rfl)) (λ(r:Unit)=>W9 (.iface 124 (.agg #[.int .i64 p1]))) (λ(r:Unit)=>Ext.of .normal [] [] [] (by rfl)):=by unfold UU;kernel_rfl
def D9(p0:Bool)(p1:Int):O0 Tryz.prog GG (Unit) (Unit):=.ofFn 57 [] Q7 Tryz.func57 rfl (λ_=>rfl) (λ_=>rfl) (Qy4 p0 p1)
def tH(p0:Z1)(p1:Q9):TT (za):=.Qd 2021 (decide ((strOfNums [(Qk p0.ft),(Qk (Z5 .i64 (p0.fk.size:Int) 16)),(Qk (Z5 .i64 (p0.fk.size:Int) 8)),(Qk (p0.fk.size:Int))]).size+p0.fk.size<=9223372036854775807)) (.Qd 2022 (decide (p1.fc.fE.size+((strOfNums [(Qk p0.ft),(Qk (Z5 .i64 (p0.fk.size:Int) 16)),(Qk (Z5 .i64 (p0.fk.size:Int) 8)),(Qk (p0.fk.size:Int))])++p0.fk).size<=9223372036854775807)) (.done (p1.fc.fE++((strOfNums [(Qk p0.ft),(Qk (Z5 .i64 (p0.fk.size:Int) 16)),(Qk (Z5 .i64 (p0.fk.size:Int) 8)),(Qk (p0.fk.size:Int))])++p0.fk))))
def Xc(p0:Z1)(p1:Q9):Sp (za):=.ZL 214 [] Q7 Tryz.func214 rfl (λ_=>rfl) (show WK Pg GG [0,1,3,4] Tryz.f214 [.ptr zy 0 0,.agg (Z0.c p0)] (Ext.of .normal (H2 [.ptr zy 0 0,.agg (Z0.c p0)]) [(zy,⟨22,true,[(YQ p1)]⟩)] [] (by rfl)) (tH p0 p1) (λ(r:za)=>.Qs []) (λ(r:za)=>Ext.of .normal [] [(zy,⟨22,true,[(YQ { p1 with fc:={ p1.fc with fE:=r } })]⟩)] [] (by rfl)) by unfold WK;kernel_rfl)
def tL(p0:za)(p1:Q9):TT ((Int×Int×za×(List Z1)×Int×Int×Int)⊕(Int)):=.Qi 4 (D9 ((p0.size:Int)==32) 5) [] [] (λr530=>.Qi 1007 (D9 (decide (p1.fc.fm < 7)) 3) [] [] (λr531=>.view 2008 (VW p1) [] λr532=>.Qd 2009 (decide (p1.fc.fq.size+r532.size<=9223372036854775807)) (.Qd 2011 (decide ((p1.fc.fq++r532).size+p0.size<=9223372036854775807)) (.call 2012 (Lq 3 1 ((p1.fc.fq++r532)++p0) p1) [(zy,zy)] [] λr533=>.call 4003 (Xc (Z1.mk 1 p1.fc.fm ((p1.fc.fq++r532)++p0)) { p1 with fc:={ p1.fc with fw:=3,fm:=r533.2.2.2.1,fE:=zd,fo:=r533.q,fA:=Z8.mk r533.1 r533.2.1 r533.2.2.1 },QL:=r533.q }) [(zy,zy)] [] λr534=>.done (.inl (3,r533.2.2.2.1,r534,r533.q,r533.1,r533.2.1,r533.2.2.1))))) (λr535=>.done (.inr 3))) (λr536=>.done (.inr 5))
theorem Qe0(p0:za)(p1:Q9):UU Tryz.prog GG [0,1,4] Tryz.f161 [.ptr 1000000 0 0,.str p0] (Ext.of .normal (H2 [.ptr 1000000 0 0,.str p0]) [(1000000,⟨22,true,[(YQ p1)]⟩)] [] (by rfl)) (tL p0 p1) (λ(r:Int×Int×za×(List Z1)×Int×Int×Int)=>.Qs []) (λ(r:Int×Int×za×(List Z1)×Int×Int×Int)=>Ext.of .normal [] [(1000000,⟨22,true,[(YQ { p1 with fc:={ p1.fc with fw:=r.1,fm:=r.2.1,fE:=r.2.2.1,fo:=r.2.2.2.1,fA:=⟨r.q.1,r.q.2.1,r.q.2.2⟩ },QL:=r.2.2.2.1 })]⟩)] [] (by rfl)) (λ(r:Int)=>W9 (.iface 124 (.agg #[.int .i64 r]))) (λ(r:Int)=>Ext.of .normal [] [(1000000,⟨22,true,[(YQ p1)]⟩)] [] (by rfl)):=by unfold UU;kernel_rfl
def rV(p0:za)(p1:Q9):O0 Pg GG (Int×Int×za×(List Z1)×Int×Int×Int) (Int):=.ofFn 161 [] Q7 Tryz.func161 rfl (λ_=>rfl) (λ_=>rfl) (Qe0 p0 p1)
def tU(p0:za)(p1:Q9):TT ((za×za×Int×Int×Int)⊕(Bool×Int)):=.cl 1002 (s46 p0) λr538=>.Qi 2003 (D9 (r538.2==0) 5) [] [] (λr539=>.cl 3012 (nI r538.1 p1.fc.fp p1.fc.fj) λr540=>.br 0 (r540 != 0) (.Qz 5003 (Qh.Zk 171 (.tmp 31) 32 (.agg [.int .i64 r540]) (.agg #[.int .i64 r540]) rfl (by kernel_rfl)) λ_=>.UD 5004 (.done (.inr (true,r540)))) (.done (.inl (r538.1.fy,r538.1.fJ,r538.1.fG,r538.1.fH,r538.1.fO)))) (λr541=>.done (.inr (false,5)))
theorem Qmp(p0:za)(p1:Q9):UU Tryz.prog GG [0,1,4,5,6,7,29] Tryz.f215 [.ptr 1000000 0 0,.str p0] (Ext.of .normal (H2 [.ptr 1000000 0 0,.str p0]) [(1000000,⟨22,true,[(YQ p1)]⟩)] [] (by rfl)) (tU p0 p1) (λ(r:za×za×Int×Int×Int)=>.agg [.str r.1,.str r.2.1,.i r.2.2.1,.i r.2.2.2.1,.i r.q]) (λ(r:za×za×Int×Int×Int)=>Ext.of .normal [] [(1000000,⟨22,true,[(YQ p1)]⟩)] [] (by rfl)) (λ(r:Bool×Int)=>W9 (.iface (bif r.1 then 171 else 124) (.agg #[.int .i64 r.2]))) (λ(r:Bool×Int)=>Ext.of .normal [] [(1000000,⟨22,true,[(YQ p1)]⟩)] [] (by rfl)):=by unfold UU;kernel_rfl
def nC(p0:za)(p1:Q9):O0 Pg GG (za×za×Int×Int×Int) (Bool×Int):=.ofFn 215 [] Q7 Tryz.func215 rfl (λ_=>rfl) (λ_=>rfl) (Qmp p0 p1)
def tY(p0 p1:za):TT ((za)⊕(Int)):=.cl 1003 (nA p0 p1) λr543=>.br 0 (r543.2 != 0) (.Qz 3003 (Qh.Zk 171 (.tmp 16) 17 (.agg [.int .i64 r543.2]) (.agg #[.int .i64 r543.2]) rfl (by kernel_rfl)) λ_=>.UD 3004 (.done (.inr r543.2))) (.done (.inl r543.1))
theorem Qmr(p0 p1:za):UU Tryz.prog GG [0,1,4,5,6,14] Tryz.f217 [.str p0,.str p1] (Ext.of .normal (H2 [.str p0,.str p1]) [] [] (by rfl)) (tY p0 p1) (λ(r:za)=>.str r) (λ(r:za)=>Ext.of .normal [] [] [] (by rfl)) (λ(r:Int)=>W9 (.iface 171 (.agg #[.int .i64 r]))) (λ(r:Int)=>Ext.of .normal [] [] [] (by rfl)):=by unfold UU;kernel_rfl
def VY(p0 p1:za):O0 Pg GG (za) (Int):=.ofFn 217 [] Q7 Tryz.func217 rfl (λ_=>rfl) (λ_=>rfl) (Qmr p0 p1)
def tJ(p0 p1 p2 p3:za)(p4:Q9):TT (za):=.Qd 4 (decide (p0.size+p1.size<=9223372036854775807)) (.Qd 7 (decide (p2.size+p3.size<=9223372036854775807)) (.cl 8 (s94 (p0++p1) (p2++p3) (bs [116,97,110,110,111,121,32,109,97,115,116,101,114]) 32) λr548=>.cl 11 (OT r548.1 r548.2) λr549=>.done r549))
def nB(p0 p1 p2 p3:za)(p4:Q9):Sp (za):=.ZL 216 [] Q7 Tryz.func216 rfl (λ_=>rfl) (show WK Pg GG [0,1,2,3,4] Tryz.f216 [.ptr zy 0 0,.str p0,.str p1,.str p2,.str p3] (Ext.of .normal (H2 [.ptr zy 0 0,.str p0,.str p1,.str p2,.str p3]) [(zy,⟨22,true,[(YQ p4)]⟩)] [] (by rfl)) (tJ p0 p1 p2 p3 p4) (λ(r:za)=>.Qs []) (λ(r:za)=>Ext.of .normal [] [(zy,⟨22,true,[(YQ { p4 with fc:={ p4.fc with fI:=r } })]⟩)] [] (by rfl)) by unfold WK;kernel_rfl)
def tZ(p0:Q9)(p1 p2:za):TT (za):=.cl 1007 (s94 p0.fc.fI zd p1 32) λr552=>.cl 1010 (OT r552.1 r552.2) λr553=>.cl 2003 (s95 p2) λr554=>.cl 2006 (OT r554.1 r554.2) λr555=>.cl 2007 (s96 r553 r555) λr556=>.cl 2010 (OT r556.1 r556.2) λr557=>.done r557
def VZ(p0:Q9)(p1 p2:za):Sp (za):=oF [0,1,2,6,7] Tryz.func218 [.snap (YQ p0),.str p1,.str p2] (tZ p0 p1 p2) (λr=>.str r)
def tO(p0:za)(p1:Q9):TT ((Q2×(List Z1))⊕(za×za×za×Bool×Int)):=.Qi 4 (D9 (decide ((64:Int) < (p0.size:Int))) 5) [] [] (λr537=>.Qd 1003 (decide (0<=(64:Int))&&decide ((64:Int)<=(p0.size:Int))) (.Qi 1004 (nC (p0.extract 64 p0.size) p1) [(zy,zy)] [] (λr542=>.Qd 2003 (decide (0<=(32:Int))&&decide ((32:Int)<=(p0.size:Int))) (.Qd 2005 ((decide (0<=(64:Int))&&decide ((64:Int)<=(p0.size:Int)))&&true) (.Qd 2007 (decide (0<=(64:Int))&&decide ((64:Int)<=(p0.size:Int))) (.Qi 3009 (VY p1.fc.fQ r542.2.1) [] [] (λr544=>.Qi 3021 (VY p1.fc.fV (p0.extract 32 64)) [] [] (λr545=>.call 3033 (nB r544 r545 p1.fc.fq (p0.extract 0 32) { p1 with fc:={ p1.fc with fh:=U0.mk (p0.extract 0 32) (p0.extract 32 64) (p0.extract 64 p0.size) } }) [(zy,zy)] [] λr550=>.call 4004 (Xc (Z1.mk 3 0 p0) { p1 with fc:={ p1.fc with fh:=U0.mk (p0.extract 0 32) (p0.extract 32 64) (p0.extract 64 p0.size),fI:=r550 } }) [(zy,zy)] [] λr551=>.Qd 5014 (decide (r551.size+p1.fc.fe.size<=9223372036854775807)) (.view 5015 (VZ { p1 with fc:={ p1.fc with fE:=r551,fh:=U0.mk (p0.extract 0 32) (p0.extract 32 64) (p0.extract 64 p0.size),fI:=r550 } } (bs [99,108,105,101,110,116]) (r551++p1.fc.fe)) [] λr558=>.Qd 5021 (decide (r558.size+p1.fc.fe.size<=9223372036854775807)) (.call 5022 (Lq 5 4 (r558++p1.fc.fe) { p1 with fc:={ p1.fc with fE:=r551,fh:=U0.mk (p0.extract 0 32) (p0.extract 32 64) (p0.extract 64 p0.size),fI:=r550 } }) [(zy,zy)] [] λr559=>.call 5023 (Xc (Z1.mk 4 p1.fc.fm (r558++p1.fc.fe)) { p1 with fc:={ p1.fc with fw:=5,fm:=r559.2.2.2.1,fE:=r551,fh:=U0.mk (p0.extract 0 32) (p0.extract 32 64) (p0.extract 64 p0.size),fI:=r550,fo:=r559.q,fA:=Z8.mk r559.1 r559.2.1 r559.2.2.1 },QL:=r559.q }) [(zy,zy)] [] λr560=>.done (.inl ({ p1.fc with fw:=5,fm:=r559.2.2.2.1,fE:=r560,fh:=U0.mk (p0.extract 0 32) (p0.extract 32 64) (p0.extract 64 p0.size),fI:=r550,fo:=r559.q,fA:=Z8.mk r559.1 r559.2.1 r559.2.2.1 },r559.q))))) (λr561=>.done (.inr ((p0.extract 0 32),(p0.extract 32 64),(p0.extract 64 p0.size),true,r561)))) (λr562=>.done (.inr ((p0.extract 0 32),(p0.extract 32 64),(p0.extract 64 p0.size),true,r562))))))) (λr563=>.done (.inr (p1.fc.fh.fq,p1.fc.fh.fP,p1.fc.fh.fe,r563.1,r563.2))))) (λr564=>.done (.inr (p1.fc.fh.fq,p1.fc.fh.fP,p1.fc.fh.fe,false,5)))
theorem Qmv(p0:za)(p1:Q9):UU Tryz.prog GG [0,1,4] Tryz.f162 [.ptr 1000000 0 0,.str p0] (Ext.of .normal (H2 [.ptr 1000000 0 0,.str p0]) [(1000000,⟨22,true,[(YQ p1)]⟩)] [] (by rfl)) (tO p0 p1) (λ(r:Q2×(List Z1))=>.Qs []) (λ(r:Q2×(List Z1))=>Ext.of .normal [] [(1000000,⟨22,true,[(Zj (QM r.1) [.str p1.QZ,.sl false 3 (List.map Z0.c r.2)])]⟩)] [] (by rfl)) (λ(r:za×za×za×Bool×Int)=>W9 (.iface (bif r.2.2.2.1 then 171 else 124) (.agg #[.int .i64 r.q]))) (λ(r:za×za×za×Bool×Int)=>Ext.of .normal [] [(1000000,⟨22,true,[(YQ { p1 with fc:={ p1.fc with fh:=⟨r.1,r.2.1,r.2.2.1⟩ } })]⟩)] [] (by rfl)):=by unfold UU;kernel_rfl
def rT(p0:za)(p1:Q9):O0 Pg GG (Q2×(List Z1)) (za×za×za×Bool×Int):=.ofFn 162 [] Q7 Tryz.func162 rfl (λ_=>rfl) (λ_=>rfl) (Qmv p0 p1)
def tI(p0:za)(p1:Q9):TT ((za×Int×Int×Int)⊕(Bool×Int)):=.Qi 4 (D9 ((p0.size:Int)==32) 5) [] [] (λr565=>.view 1008 (VZ p1 (bs [115,101,114,118,101,114]) p1.fc.fE) [] λr566=>.br 0 (!decide (p0=r566)) (.Qz 2002 (Qh.Zk 171 (.tmp 17) 18 (.agg [.int .i64 9]) (.agg #[.int .i64 9]) rfl (by kernel_rfl)) λ_=>.UD 2003 (.done (.inr (true,9)))) (.call 3004 (Xc (Z1.mk 5 0 p0) p1) [(zy,zy)] [] λr567=>.cl 4004 s66 λr568=>.done (.inl (r567,r568.fF,r568.fX,r568.fM)))) (λr569=>.done (.inr (false,5)))
theorem Qmt(p0:za)(p1:Q9):UU Tryz.prog GG [0,1,16] Tryz.f163 [.ptr 1000000 0 0,.str p0] (Ext.of .normal (H2 [.ptr 1000000 0 0,.str p0]) [(1000000,⟨22,true,[(YQ p1)]⟩)] [] (by rfl)) (tI p0 p1) (λ(r:za×Int×Int×Int)=>.Qs []) (λ(r:za×Int×Int×Int)=>Ext.of .normal [] [(1000000,⟨22,true,[[.i p1.fc.fB,.i 6,.i p1.fc.fj,.str p1.fc.fV,.str p1.fc.fe,.str p1.fc.fQ,.str p1.fc.fq,.str p1.fc.fT,.sl false 1 (List.map Z2.c p1.fc.fp),.i p1.fc.fm,.str r.1,.str p1.fc.fh.fq,.str p1.fc.fh.fP,.str p1.fc.fh.fe,.str p1.fc.fI,.Qy,.i r.2.1,.i r.2.2.1,.i r.2.2.2,.i p1.fc.gc,.str p1.QZ,.sl false 3 (List.map Z0.c p1.QL)]]⟩)] [] (by rfl)) (λ(r:Bool×Int)=>W9 (.iface (bif r.1 then 171 else 124) (.agg #[.int .i64 r.2]))) (λ(r:Bool×Int)=>Ext.of .normal [] [(1000000,⟨22,true,[(YQ p1)]⟩)] [] (by rfl)):=by unfold UU;kernel_rfl
def Qz2(p0:za)(p1:Q9):O0 Pg GG (za×Int×Int×Int) (Bool×Int):=.ofFn 163 [] Q7 Tryz.func163 rfl (λ_=>rfl) (λ_=>rfl) (Qmt p0 p1)
def tA(p0:za)(p1:Q9):TT ((Q2×(List Z1))⊕(Int)):=.br 5 ((p0.size:Int)==64) (.Qi 9 (D9 true 5) [] [] (λr570=>.Qd 1011 (decide (0<=(64:Int))&&decide ((64:Int)<=(p0.size:Int))) (.Qd 1012 (decide (p1.QZ.size+(p0.extract 0 64).size<=9223372036854775807)) (.cl 1013 (s96 p1.fc.fT (p1.QZ++(p0.extract 0 64))) λr571=>.cl 1016 (OT r571.1 r571.2) λr572=>.Qd 2002 (decide (0<=(64:Int))&&decide ((64:Int)<=(p0.size:Int))) (.br 0 (!decide ((p0.extract 64 p0.size)=r572)) (.Qi 3007 (D9 (decide (p1.fc.fm < 6)) 3) [] [] (λr573=>.call 4003 (Lq 1 2 r572 p1) [(zy,zy)] [] λr574=>.done (.inl ({ p1.fc with fw:=1,fm:=r574.2.2.2.1,fo:=r574.q,fA:=Z8.mk r574.1 r574.2.1 r574.2.2.1 },r574.q))) (λr575=>.done (.inr 3))) (.Qd 5003 (decide (0<=(32:Int))&&decide ((32:Int)<=(p0.size:Int))) (.Qd 5005 ((decide (0<=(64:Int))&&decide ((64:Int)<=(p0.size:Int)))&&true) (.call 6004 (Xc (Z1.mk 1 0 p0) { p1 with fc:={ p1.fc with fh:=U0.mk (p0.extract 0 32) (p0.extract 32 64) zd } }) [(zy,zy)] [] λr576=>.view 7009 (VW { p1 with fc:={ p1.fc with fE:=r576,fh:=U0.mk (p0.extract 0 32) (p0.extract 32 64) zd } }) [] λr577=>.Qd 7010 (decide (p1.fc.fq.size+r577.size<=9223372036854775807)) (.Qd 7016 (decide ((p1.fc.fq++r577).size+p1.fc.fe.size<=9223372036854775807)) (.call 7017 (Lq 4 3 ((p1.fc.fq++r577)++p1.fc.fe) { p1 with fc:={ p1.fc with fE:=r576,fh:=U0.mk (p0.extract 0 32) (p0.extract 32 64) zd } }) [(zy,zy)] [] λr578=>.call 7018 (Xc (Z1.mk 3 p1.fc.fm ((p1.fc.fq++r577)++p1.fc.fe)) { p1 with fc:={ p1.fc with fw:=4,fm:=r578.2.2.2.1,fE:=r576,fh:=U0.mk (p0.extract 0 32) (p0.extract 32 64) zd,fo:=r578.q,fA:=Z8.mk r578.1 r578.2.1 r578.2.2.1 },QL:=r578.q }) [(zy,zy)] [] λr579=>.done (.inl ({ p1.fc with fw:=4,fm:=r578.2.2.2.1,fE:=r579,fh:=U0.mk (p0.extract 0 32) (p0.extract 32 64) zd,fo:=r578.q,fA:=Z8.mk r578.1 r578.2.1 r578.2.2.1 },r578.q))))))))))) (λr580=>.fail)) (.Qi 9 (D9 ((p0.size:Int)==96) 5) [] [] (λr581=>.Qd 1011 (decide (0<=(64:Int))&&decide ((64:Int)<=(p0.size:Int))) (.Qd 1012 (decide (p1.QZ.size+(p0.extract 0 64).size<=9223372036854775807)) (.cl 1013 (s96 p1.fc.fT (p1.QZ++(p0.extract 0 64))) λr582=>.cl 1016 (OT r582.1 r582.2) λr583=>.Qd 2002 (decide (0<=(64:Int))&&decide ((64:Int)<=(p0.size:Int))) (.br 0 (!decide ((p0.extract 64 p0.size)=r583)) (.Qi 3007 (D9 (decide (p1.fc.fm < 6)) 3) [] [] (λr584=>.call 4003 (Lq 1 2 r583 p1) [(zy,zy)] [] λr585=>.done (.inl ({ p1.fc with fw:=1,fm:=r585.2.2.2.1,fo:=r585.q,fA:=Z8.mk r585.1 r585.2.1 r585.2.2.1 },r585.q))) (λr586=>.done (.inr 3))) (.Qd 5003 (decide (0<=(32:Int))&&decide ((32:Int)<=(p0.size:Int))) (.Qd 5005 ((decide (0<=(64:Int))&&decide ((64:Int)<=(p0.size:Int)))&&true) (.call 6004 (Xc (Z1.mk 1 0 p0) { p1 with fc:={ p1.fc with fh:=U0.mk (p0.extract 0 32) (p0.extract 32 64) zd } }) [(zy,zy)] [] λr587=>.view 7009 (VW { p1 with fc:={ p1.fc with fE:=r587,fh:=U0.mk (p0.extract 0 32) (p0.extract 32 64) zd } }) [] λr588=>.Qd 7010 (decide (p1.fc.fq.size+r588.size<=9223372036854775807)) (.Qd 7016 (decide ((p1.fc.fq++r588).size+p1.fc.fe.size<=9223372036854775807)) (.call 7017 (Lq 4 3 ((p1.fc.fq++r588)++p1.fc.fe) { p1 with fc:={ p1.fc with fE:=r587,fh:=U0.mk (p0.extract 0 32) (p0.extract 32 64) zd } }) [(zy,zy)] [] λr589=>.call 7018 (Xc (Z1.mk 3 p1.fc.fm ((p1.fc.fq++r588)++p1.fc.fe)) { p1 with fc:={ p1.fc with fw:=4,fm:=r589.2.2.2.1,fE:=r587,fh:=U0.mk (p0.extract 0 32) (p0.extract 32 64) zd,fo:=r589.q,fA:=Z8.mk r589.1 r589.2.1 r589.2.2.1 },QL:=r589.q }) [(zy,zy)] [] λr590=>.done (.inl ({ p1.fc with fw:=4,fm:=r589.2.2.2.1,fE:=r590,fh:=U0.mk (p0.extract 0 32) (p0.extract 32 64) zd,fo:=r589.q,fA:=Z8.mk r589.1 r589.2.1 r589.2.2.1 },r589.q))))))))))) (λr591=>.done (.inr 5)))
theorem Qmc(p0:za)(p1:Q9):UU Tryz.prog GG [0,1,4,33] Tryz.f164 [.ptr 1000000 0 0,.str p0] (Ext.of .normal (H2 [.ptr 1000000 0 0,.str p0]) [(1000000,⟨22,true,[(YQ p1)]⟩)] [] (by rfl)) (tA p0 p1) (λ(r:Q2×(List Z1))=>.Qs []) (λ(r:Q2×(List Z1))=>Ext.of .normal [] [(1000000,⟨22,true,[(Zj (QM r.1) [.str p1.QZ,.sl false 3 (List.map Z0.c r.2)])]⟩)] [] (by rfl)) (λ(r:Int)=>W9 (.iface 124 (.agg #[.int .i64 r]))) (λ(r:Int)=>Ext.of .normal [] [(1000000,⟨22,true,[(YQ p1)]⟩)] [] (by rfl)):=by unfold UU;kernel_rfl
def rC(p0:za)(p1:Q9):O0 Pg GG (Q2×(List Z1)) (Int):=.ofFn 164 [] Q7 Tryz.func164 rfl (λ_=>rfl) (λ_=>rfl) (Qmc p0 p1)
def tX(p0:za)(p1:Q9):TT ((Int×Int×za×za×za×(List Z1)×Int×Int×Int)⊕(za×Bool×Int)):=.Qi 4 (D9 (decide ((32:Int) < (p0.size:Int))) 5) [] [] (λr592=>.Qd 1002 (decide (0<=(32:Int))&&decide ((32:Int)<=(p0.size:Int))) (.Qd 1004 (decide (0<=(32:Int))&&decide ((32:Int)<=(p0.size:Int))) (.Qi 2003 (nC (p0.extract 32 p0.size) p1) [(zy,zy)] [] (λr593=>.Qi 3013 (VY p1.fc.fV p1.fc.fh.fP) [] [] (λr594=>.Qi 3021 (VY p1.fc.fQ r593.2.1) [] [] (λr595=>.call 3033 (nB r594 r595 p1.fc.fh.fq p1.fc.fq p1) [(zy,zy)] [] λr598=>.Qd 4009 (decide (p1.fc.fE.size+(p0.extract 32 p0.size).size<=9223372036854775807)) (.view 4010 (VZ { p1 with fc:={ p1.fc with fI:=r598 } } (bs [99,108,105,101,110,116]) (p1.fc.fE++(p0.extract 32 p0.size))) [] λr599=>.br 0 (!decide ((p0.extract 0 32)=r599)) (.Qz 5002 (Qh.Zk 171 (.tmp 62) 63 (.agg [.int .i64 9]) (.agg #[.int .i64 9]) rfl (by kernel_rfl)) λ_=>.UD 5003 (.done (.inr (r598,true,9)))) (.call 7004 (Xc (Z1.mk 4 0 p0) { p1 with fc:={ p1.fc with fh:=U0.mk p1.fc.fh.fq p1.fc.fh.fP (p0.extract 32 p0.size),fI:=r598 } }) [(zy,zy)] [] λr600=>.view 8009 (VZ { p1 with fc:={ p1.fc with fE:=r600,fh:=U0.mk p1.fc.fh.fq p1.fc.fh.fP (p0.extract 32 p0.size),fI:=r598 } } (bs [115,101,114,118,101,114]) r600) [] λr601=>.call 8010 (Lq 6 5 r601 { p1 with fc:={ p1.fc with fE:=r600,fh:=U0.mk p1.fc.fh.fq p1.fc.fh.fP (p0.extract 32 p0.size),fI:=r598 } }) [(zy,zy)] [] λr602=>.call 8011 (Xc (Z1.mk 5 p1.fc.fm r601) { p1 with fc:={ p1.fc with fw:=6,fm:=r602.2.2.2.1,fE:=r600,fh:=U0.mk p1.fc.fh.fq p1.fc.fh.fP (p0.extract 32 p0.size),fI:=r598,fo:=r602.q,fA:=Z8.mk r602.1 r602.2.1 r602.2.2.1 },QL:=r602.q }) [(zy,zy)] [] λr603=>.done (.inl (6,r602.2.2.2.1,r603,(p0.extract 32 p0.size),r598,r602.q,r602.1,r602.2.1,r602.2.2.1))))) (λr604=>.done (.inr (p1.fc.fI,true,r604)))) (λr605=>.done (.inr (p1.fc.fI,true,r605)))) (λr606=>.done (.inr (p1.fc.fI,r606.1,r606.2)))))) (λr607=>.done (.inr (p1.fc.fI,false,5)))
theorem Qmb(p0:za)(p1:Q9):UU Tryz.prog GG [0,1,4,5,6,61] Tryz.f165 [.ptr 1000000 0 0,.str p0] (Ext.of .normal (H2 [.ptr 1000000 0 0,.str p0]) [(1000000,⟨22,true,[(YQ p1)]⟩)] [] (by rfl)) (tX p0 p1) (λ(r:Int×Int×za×za×za×(List Z1)×Int×Int×Int)=>.Qs []) (λ(r:Int×Int×za×za×za×(List Z1)×Int×Int×Int)=>Ext.of .normal [] [(1000000,⟨22,true,[(YQ { p1 with fc:={ p1.fc with fw:=r.1,fm:=r.2.1,fE:=r.2.2.1,fh:={ p1.fc.fh with fe:=r.2.2.2.1 },fI:=r.q.1,fo:=r.q.2.1,fA:=⟨r.q.2.2.1,r.q.2.2.2.1,r.q.q⟩ },QL:=r.q.2.1 })]⟩)] [] (by rfl)) (λ(r:za×Bool×Int)=>W9 (.iface (bif r.2.1 then 171 else 124) (.agg #[.int .i64 r.2.2]))) (λ(r:za×Bool×Int)=>Ext.of .normal [] [(1000000,⟨22,true,[(YQ { p1 with fc:={ p1.fc with fI:=r.1 } })]⟩)] [] (by rfl)):=by unfold UU;kernel_rfl
def rB(p0:za)(p1:Q9):O0 Pg GG (Int×Int×za×za×za×(List Z1)×Int×Int×Int) (za×Bool×Int):=.ofFn 165 [] Q7 Tryz.func165 rfl (λ_=>rfl) (λ_=>rfl) (Qmb p0 p1)
def Qu1(p0:Bool)(p1:Int):TT (Bool):=.cl 1004 (s57 (p1==0) p1) λr609=>.done p0
def rS(p0:Bool)(p1:Int):Sp (Bool):=oF [0,1,4] Tryz.func166 [.bool p0,.i p1] (Qu1 p0 p1) (λr=>.bool r)
def tS(p0:Q9):TT ((Int×Int×Int×(List Z1))⊕(Unit)):=.cl 11 (dH p0.fc.fA p0.fc.fj) λr608=>.cl 14 (rS r608.1 r608.2) λr610=>.br 0 (!r610) (.done (.inl (p0.fc.fA.fF,p0.fc.fA.fX,p0.fc.fA.fM,p0.QL))) (.cl 1011 (rR p0.fc.fA p0.fc.fj) λr611=>.br 0 (r611.2 != 0) (.Qz 3002 (Qh.Zk 171 (.tmp 35) 36 (.agg [.int .i64 6]) (.agg #[.int .i64 6]) rfl (by kernel_rfl)) λ_=>.UD 3003 (.done (.inr ()))) (.done (.inl (r611.1.fF,r611.1.fX,r611.1.fM,p0.fc.fo))))
theorem Qe4(p0:Q9):UU Tryz.prog GG [0,2,3,18,34] Tryz.f108 [.ptr 1000000 0 0] (Ext.of .normal (H2 [.ptr 1000000 0 0]) [(1000000,⟨22,true,[(YQ p0)]⟩)] [] (by rfl)) (tS p0) (λ(r:Int×Int×Int×(List Z1))=>.Qs []) (λ(r:Int×Int×Int×(List Z1))=>Ext.of .normal [] [(1000000,⟨22,true,[(YQ { p0 with fc:={ p0.fc with fA:=⟨r.1,r.2.1,r.2.2.1⟩ },QL:=r.2.2.2 })]⟩)] [] (by rfl)) (λ(r:Unit)=>W9 (.iface 171 (.agg #[.int .i64 6]))) (λ(r:Unit)=>Ext.of .normal [] [(1000000,⟨22,true,[(YQ p0)]⟩)] [] (by rfl)):=by unfold UU;kernel_rfl
def Qz3(p0:Q9):O0 Pg GG (Int×Int×Int×(List Z1)) (Unit):=.ofFn 108 [] Q7 Tryz.func108 rfl (λ_=>rfl) (λ_=>rfl) (Qe4 p0)
def tT(p0:Int)(p1:Q9):TT (Int×Int×Int):=.cl 11 s66 λr612=>.done (r612.fF,r612.fX,r612.fM)
def Qz5(p0:Int)(p1:Q9):Sp (Int×Int×Int):=.ZL 105 [] Q7 Tryz.func105 rfl (λ_=>rfl) (show WK Pg GG [0,1] Tryz.f105 [.ptr zy 0 0,.i p0] (Ext.of .normal (H2 [.ptr zy 0 0,.i p0]) [(zy,⟨22,true,[(YQ p1)]⟩)] [] (by rfl)) (tT p0 p1) (λ(r:Int×Int×Int)=>.Qs []) (λ(r:Int×Int×Int)=>Ext.of .normal [] [(zy,⟨22,true,[(Zj [.i p1.fc.fB,.i 7,.i p1.fc.fj,.str p1.fc.fV,.str p1.fc.fe,.str p1.fc.fQ,.str p1.fc.fq,.str p1.fc.fT,Sl 1 Z2 p1.fc.fp,.i p1.fc.fm] (Zs 5 (.str zd) [.Qy,.i r.1,.i r.2.1,.i r.2.2,.i p0,.str p1.QZ,.Qy]))]⟩)] [] (by rfl)) by unfold WK;kernel_rfl)
noncomputable def cHn:Code:=Tryz.f107.body.getD .skip
def hnC:Code:=cL (cR cHn)
def ZN:Array Oper:=Ik hnC
theorem eHn:hnC=.region 1 ZN true:=by kernel_rfl
def QJ(n:Int):V:=.int .i64 n
def pm:V:=.ptr 1000000 0 0
def An(f:FuncId):V:=.fn f [pm] []
def X0:List (Nat×List V×List V):=[(4,[QJ 1,QJ 2,QJ 2],[An 161]),(8,[QJ 1,QJ 3,QJ 2],[An 161]),(12,[QJ 1,QJ 3,QJ 3],[An 162]),(16,[QJ 1,QJ 5,QJ 5],[An 163]),(20,[QJ 2,QJ 1,QJ 1],[An 164]),(24,[QJ 2,QJ 4,QJ 4],[An 165])]
def HK:List Nat:=[1,2,3,5,6,7,9,10,11,13,14,15,17,18,19,21,22,23,25,26,27,28,29,30,31,32,33,34,35,36,37,38,40]
def Ir(s t k:Int)(r:List V):Bool:=match r with
 | [.int _ a,.int _ b,.int _ c]=>s==a&&(t==b&&(k==c&&true))
 | _=>false
section
variable (s t k q:Int) (body:za) (tl:List V) (res:V)
def Ms:List (Nat×V):=[(0,pm),(3,.ptr 3 0 0)]
def Qeq:List (Nat×Qa):=[(1000000,⟨22,true,[.int .i64 s :: .int .i64 t :: tl]⟩),(3,⟨3,true,[[.int .i64 k,.int .i64 q,.str body]]⟩)]
def hnS:St:=E1 46 Ms (Qeq s t k q body tl) [1000000,3]
def Bx:List (Nat×V):=[(5,.mp 5),(6,.agg [QJ 1,QJ 2,QJ 2]),(7,pm),(8,An 161),(9,.agg [QJ 1,QJ 3,QJ 2]),(10,pm),(11,An 161),(12,.agg [QJ 1,QJ 3,QJ 3]),(13,pm),(14,An 162),(15,.agg [QJ 1,QJ 5,QJ 5]),(16,pm),(17,An 163),
 (18,.agg [QJ 2,QJ 1,QJ 1]),(19,pm),(20,An 164),(21,.agg [QJ 2,QJ 4,QJ 4]),(22,pm),(23,An 165),(24,.mp 5),(25,pm),(26,pm),(27,pm),(28,pm),(29,QJ s),(30,pm),(31,pm),(32,pm),(33,.ptr 1000000 0 1),(34,QJ t),(35,.ptr 3 0 0),(36,QJ k),(37,.agg [QJ s,QJ t,QJ k]),(38,res),(4,res)]
def Qyz:List (Nat×V):=Ms++Bx s t k res
def jM:St:={ hnS s t k q body tl with t:=λi=>Ze (Qyz s t k res) i }
def hnR(i:Nat):List EV.Loc:=((He Tryz.prog GG ZN i (jM s t k q body tl res)).map (·.1)).getD []
def hnD(i:Nat):Nat:=(V2 ZN i).getD 0
theorem cI:(HK.map λi=>He Tryz.prog GG ZN i (jM s t k q body tl res))=HK.map λi=>some (hnR s t k q body tl res i,[.t (hnD i) ((jM s t k q body tl res).t (hnD i))]):=by kernel_rfl
theorem iH:(HK.all λi=>(hnR s t k q body tl res i).all λl=>match l with|.t x=>HL ZN i x|.b b=>b != 5)=true:=by kernel_rfl
theorem Qyq:(HK.map λi=>V2 ZN i)=HK.map λi=>some (hnD i):=by kernel_rfl
theorem Qe9(x:Nat)(h:∀j,j < ZN.size->V2 ZN j≠some x):(jM s t k q body tl res).t x=(hnS s t k q body tl).t x:=by
 have hk:((Bx s t k res).all λp=>(List.range ZN.size).any λj=>V2 ZN j==some p.1)=true:=by kernel_rfl
 show Ze (Ms++Bx s t k res) x=Ze Ms x
 grind [List.any_eq_true,List.all_eq_true,List.mem_of_find?_eq_some,Ze,Bx,absurd]
theorem Qy7(hhit:∀x,x∈X0->Ir s t k x.2.1=true->X9 false x.2.2=res)(hmiss:(∀x,x∈X0->Ir s t k x.2.1=false)->V.Zx=res) :
  kB Tryz.prog GG ZN (hnS s t k q body tl) (jM s t k q body tl res) 5 0 39 25 (Qzt true false 3 1) 226 225 223 X0 (HK.map λi=>(i,hnR s t k q body tl res i)) [QJ s,QJ t,QJ k] res .Zx (Ir s t k) where
 cov:=by
  have h:((List.range ZN.size).all λi=>i==0 || (i==39 || ((X0.any λx=>x.1==i) || HK.contains i)))=true:=by kernel_rfl
  intro i hi
  have:=zF.1 h i (by simpa using hi)
  simp only[zT,beq_iff_eq,List.any_eq_true,zZ,zA] at this
  rcases this with h|h|h|h
  ·exact .inl h
  ·grind
  ·grind
  ·exact .inr (.inr (.inr ⟨(i,_),zG.2 ⟨i,h,rfl⟩,rfl⟩))
 guard:=by
  have h:(ZN.toList.all λo=>o.guard.isNone)=true:=by kernel_rfl
  intro i o ho
  have:=zF.1 h o (by rw[<-Array.getElem?_toList] at ho;exact zP ho)
  simpa using this
 sf:=Qe9 s t k q body tl res
 sfn:=rfl
 sfb:=λ_ _=>⟨rfl,rfl⟩
 fresh:=⟨by rfl,by rfl⟩
 step:=by
  intro x hx
  obtain⟨i,hi,rfl⟩:=zG.1 hx
  exact⟨hnD i,List.map_inj_left.1 Qyq i hi,List.map_inj_left.1 (cI s t k q body tl res) i hi⟩
 reads:=by
  intro x hx l hl
  obtain⟨i,hi,rfl⟩:=zG.1 hx
  have:=zF.1 (zF.1 (iH s t k q body tl res) i hi) l hl
  grind
 make:=by
  have h:(ZN[0]?).map (λo=>(o.op,o.dst))=some (.makeMap 226 none,some 5):=by kernel_rfl
  obtain⟨o,ho,he⟩:=zC.1 h
  exact⟨o,ho,congrArg Prod.fst he,congrArg Prod.snd he,by show 5 < 46;decide,by rfl,by decide⟩
 maps:=⟨by kernel_rfl,by kernel_rfl,by kernel_rfl,λh=>(by cases h),λ_=>(by rfl)⟩
 put:=by
  intro x hx
  simp only[X0,zN,zR,or_false] at hx
  rcases hx with rfl|rfl|rfl|rfl|rfl|rfl
  ·exact MN.of 5 6 8 (by kernel_rfl) (by rfl) (by kernel_rfl) (by kernel_rfl) (by kernel_rfl) ⟨rfl,rfl,by rfl⟩ (by kernel_rfl) (by kernel_rfl) (by kernel_rfl)
  ·exact MN.of 5 9 11 (by kernel_rfl) (by rfl) (by kernel_rfl) (by kernel_rfl) (by kernel_rfl) ⟨rfl,rfl,by rfl⟩ (by kernel_rfl) (by kernel_rfl) (by kernel_rfl)
  ·exact MN.of 5 12 14 (by kernel_rfl) (by rfl) (by kernel_rfl) (by kernel_rfl) (by kernel_rfl) ⟨rfl,rfl,by rfl⟩ (by kernel_rfl) (by kernel_rfl) (by kernel_rfl)
  ·exact MN.of 5 15 17 (by kernel_rfl) (by rfl) (by kernel_rfl) (by kernel_rfl) (by kernel_rfl) ⟨rfl,rfl,by rfl⟩ (by kernel_rfl) (by kernel_rfl) (by kernel_rfl)
  ·exact MN.of 5 18 20 (by kernel_rfl) (by rfl) (by kernel_rfl) (by kernel_rfl) (by kernel_rfl) ⟨rfl,rfl,by rfl⟩ (by kernel_rfl) (by kernel_rfl) (by kernel_rfl)
  ·exact MN.of 5 21 23 (by kernel_rfl) (by rfl) (by kernel_rfl) (by kernel_rfl) (by kernel_rfl) ⟨rfl,rfl,by rfl⟩ (by kernel_rfl) (by kernel_rfl) (by kernel_rfl)
 look:=by
  have h:(ZN[39]?).map (λo=>(o.op,o.dst))=some (.lookup 226 (.tmp 24) (.tmp 37) false,some 38):=by kernel_rfl
  obtain⟨o,ho,he⟩:=zC.1 h
  refine⟨o,24,37,38,ho,congrArg Prod.fst he,congrArg Prod.snd he,by show 38 < 46;decide,by rfl,by rfl,by rfl,by kernel_rfl,by kernel_rfl,by kernel_rfl,?_,by kernel_rfl,?_⟩
  ·grind
  have h2:(X0.all λx=>LS ZN 25 x.1)=true:=by kernel_rfl
  grind
 self:=by kernel_rfl
 hit:=hhit
 Qzb:=hmiss
 apart:=by
  refine⟨by decide,?_,?_,?_⟩
  ·have h:(X0.all λx=>x.1 != 0&&x.1 != 39)=true:=by rfl
   grind
  ·intro x hx
   obtain⟨i,hi,rfl⟩:=zG.1 hx
   have h:(HK.all λi=>i != 0)=true:=by rfl
   grind
  ·intro x y hx hy e
   simp only[X0,zN,zR,or_false] at hx hy
   grind
end
def mX(p:Q9)(n:Z1)(ts:List (Nat×V)):Ext:=Ext.of .normal ts [(1000000,⟨22,true,[IV p]⟩),(3,⟨3,true,[(Z0.c n)]⟩)] [] (by rfl)
theorem Qy9(p:Q9)(n:Z1)(res:V)(hhit:∀x,x∈X0->Ir p.fc.fB p.fc.fw n.ft x.2.1=true->X9 false x.2.2=res)(hmiss:(∀x,x∈X0->Ir p.fc.fB p.fc.fw n.ft x.2.1=false)->V.Zx=res)
  (hE:(mX p n (Ms++[(4,res)])).ok=true) (hc:D4 8 res res=res) :
  TV Tryz.prog GG hnC ((mX p n Ms).D 46).st (λe st=>e=.normal/\QU GG st ((mX p n (Ms++[(4,res)])).D 46).st):=by
 rw[eHn]
 refine TV.iN (st:=((mX p n Ms).D 46).st) Q7 (by kernel_rfl) (Qy7 p.fc.fB p.fc.fw n.ft n.fZ n.fk ((IV p).drop 2) res hhit hmiss) λst hn ht hb'=>⟨rfl,H9 _ hE hn ⟨?_,?_⟩⟩
 ·show [(0,D4 8 pm (st.t 0)),(3,D4 8 (.ptr 3 0 0) (st.t 3)),(4,D4 8 res (st.t 4))]=[(0,pm),(3,.ptr 3 0 0),(4,res)]
  rw[ht 0,ht 3,ht 4]
  show [(0,pm),(3,.ptr 3 0 0),(4,D4 8 res res)]=_
  rw[hc]
 ·show [(1000000,uP [] 1000000 ⟨22,true,[IV p]⟩ (st.b 1000000)),(3,uP [] 3 ⟨3,true,[(Z0.c n)]⟩ (st.b 3))]=_
  rw[(hb' 1000000 (by decide)).1,(hb' 3 (by decide)).1]
  rfl
theorem LA(s t k a b c:Int):Ir s t k [QJ a,QJ b,QJ c]=true↔s=a/\t=b/\k=c:=by simp[Ir,QJ]
theorem Qy8(p:Q9)(n:Z1)(x0:Nat×List V×List V)(f:FuncId)(a b c:Int)(h0:x0∈X0)(hk:x0.2.1=[QJ a,QJ b,QJ c])(hf:∀x,x∈X0->x.2.1=[QJ a,QJ b,QJ c]->x.2.2=[An f])(hq:Ir p.fc.fB p.fc.fw n.ft [QJ a,QJ b,QJ c]=true) :
  TV Tryz.prog GG hnC ((mX p n Ms).D 46).st (λe st=>e=.normal/\QU GG st ((mX p n (Ms++[(4,An f)])).D 46).st):=by
 refine Qy9 p n (An f) (λx hx h=>?_) (λh=>?_) (by rfl) (by rfl)
 ·have hx':x.2.1=[QJ a,QJ b,QJ c]:=by
   obtain⟨e1,e2,e3⟩:=(LA _ _ _ _ _ _).1 hq
   rw[e1,e2,e3] at h
   simp only[X0,zN,zR,or_false] at hx
   rcases hx with rfl|rfl|rfl|rfl|rfl|rfl<;>(obtain⟨rfl,rfl,rfl⟩:=(LA _ _ _ _ _ _).1 h;rfl)
  rw[hf x hx hx'];rfl
 grind
def EO(p:Q9)(n:Z1)(f:FuncId)(a b c:Int)(x0:Nat×List V×List V)(h0:x0∈X0)(hk:x0.2.1=[QJ a,QJ b,QJ c])(hf:∀x,x∈X0->x.2.1=[QJ a,QJ b,QJ c]->x.2.2=[An f]):Sub Tryz.prog GG Unit:=
 ⟨hnC,46,mX p n Ms,bif Ir p.fc.fB p.fc.fw n.ft [QJ a,QJ b,QJ c] then some () else none,λ_=>mX p n (Ms++[(4,An f)]),λr h=>by
  cases hq:Ir p.fc.fB p.fc.fw n.ft [QJ a,QJ b,QJ c] with
  | false=>grind
  | true=>exact Qy8 p n x0 f a b c h0 hk hf hq⟩
def Vw(p:Q9)(n:Z1):Sub Tryz.prog GG Unit:=
 ⟨hnC,46,mX p n Ms,bif X0.all λx=>!Ir p.fc.fB p.fc.fw n.ft x.2.1 then some () else none,λ_=>mX p n (Ms++[(4,.Zx)]),λr h=>by
  cases hq:X0.all λx=>!Ir p.fc.fB p.fc.fw n.ft x.2.1 with
  | false=>grind
  | true=>
   refine Qy9 p n .Zx (λx hx h=>?_) (λ_=>rfl) (by rfl) (by rfl)
   grind⟩
def gV(p:Q9)(n:Z1):Sub Tryz.prog GG Unit:=EO p n 161 1 2 2 (4,[QJ 1,QJ 2,QJ 2],[An 161]) (by simp[X0]) rfl (by
 intro x hx h
 simp only[X0,zN,zR,or_false] at hx
 rcases hx with rfl|rfl|rfl|rfl|rfl|rfl<;>first|rfl|(simp[QJ] at h))
def gC(p:Q9)(n:Z1):Sub Tryz.prog GG Unit:=EO p n 161 1 3 2 (8,[QJ 1,QJ 3,QJ 2],[An 161]) (by simp[X0]) rfl (by
 intro x hx h
 simp only[X0,zN,zR,or_false] at hx
 rcases hx with rfl|rfl|rfl|rfl|rfl|rfl<;>first|rfl|(simp[QJ] at h))
def gS(p:Q9)(n:Z1):Sub Tryz.prog GG Unit:=EO p n 162 1 3 3 (12,[QJ 1,QJ 3,QJ 3],[An 162]) (by simp[X0]) rfl (by
 intro x hx h
 simp only[X0,zN,zR,or_false] at hx
 rcases hx with rfl|rfl|rfl|rfl|rfl|rfl<;>first|rfl|(simp[QJ] at h))
def gP(p:Q9)(n:Z1):Sub Tryz.prog GG Unit:=EO p n 163 1 5 5 (16,[QJ 1,QJ 5,QJ 5],[An 163]) (by simp[X0]) rfl (by
 intro x hx h
 simp only[X0,zN,zR,or_false] at hx
 rcases hx with rfl|rfl|rfl|rfl|rfl|rfl<;>first|rfl|(simp[QJ] at h))
def gR(p:Q9)(n:Z1):Sub Tryz.prog GG Unit:=EO p n 164 2 1 1 (20,[QJ 2,QJ 1,QJ 1],[An 164]) (by simp[X0]) rfl (by
 intro x hx h
 simp only[X0,zN,zR,or_false] at hx
 rcases hx with rfl|rfl|rfl|rfl|rfl|rfl<;>first|rfl|(simp[QJ] at h))
def gN(p:Q9)(n:Z1):Sub Tryz.prog GG Unit:=EO p n 165 2 4 4 (24,[QJ 2,QJ 4,QJ 4],[An 165]) (by simp[X0]) rfl (by
 intro x hx h
 simp only[X0,zN,zR,or_false] at hx
 rcases hx with rfl|rfl|rfl|rfl|rfl|rfl<;>first|rfl|(simp[QJ] at h))
def tB(p0:Z1)(p1:Q9):TT ((Q2×(List Z1))⊕(za×za×za×za×Bool×Int)):=.br 999999 (Ir p1.fc.fB p1.fc.fw p0.ft [QJ 1,QJ 2,QJ 2]) (.br 990001 true (.sub (gV p1 p0) λr641=>.Qi 2003 (D9 true 8) [] [] (λr642=>.Qi 3004 (rV p0.fk p1) [(zy,zy)] [] (λr643=>.done (.inl ({ p1.fc with fw:=r643.1,fm:=r643.2.1,fE:=r643.2.2.1,fo:=r643.2.2.2.1,fA:=Z8.mk r643.q.1 r643.q.2.1 r643.q.2.2 },r643.2.2.2.1))) (λr644=>.done (.inr (p1.fc.fh.fq,p1.fc.fh.fP,p1.fc.fh.fe,p1.fc.fI,false,r644)))) (λr645=>.fail)) (.fail)) (.br 999999 (Ir p1.fc.fB p1.fc.fw p0.ft [QJ 1,QJ 3,QJ 2]) (.br 990001 true (.sub (gC p1 p0) λr636=>.Qi 2003 (D9 true 8) [] [] (λr637=>.Qi 3004 (rV p0.fk p1) [(zy,zy)] [] (λr638=>.done (.inl ({ p1.fc with fw:=r638.1,fm:=r638.2.1,fE:=r638.2.2.1,fo:=r638.2.2.2.1,fA:=Z8.mk r638.q.1 r638.q.2.1 r638.q.2.2 },r638.2.2.2.1))) (λr639=>.done (.inr (p1.fc.fh.fq,p1.fc.fh.fP,p1.fc.fh.fe,p1.fc.fI,false,r639)))) (λr640=>.fail)) (.fail)) (.br 999999 (Ir p1.fc.fB p1.fc.fw p0.ft [QJ 1,QJ 3,QJ 3]) (.br 990001 true (.sub (gS p1 p0) λr631=>.Qi 2003 (D9 true 8) [] [] (λr632=>.Qi 3004 (rT p0.fk p1) [(zy,zy)] [] (λr633=>.done (.inl (r633.1,r633.2))) (λr634=>.done (.inr (r634.1,r634.2.1,r634.2.2.1,p1.fc.fI,r634.2.2.2.1,r634.q)))) (λr635=>.fail)) (.fail)) (.br 999999 (Ir p1.fc.fB p1.fc.fw p0.ft [QJ 1,QJ 5,QJ 5]) (.br 990001 true (.sub (gP p1 p0) λr626=>.Qi 2003 (D9 true 8) [] [] (λr627=>.Qi 3004 (Qz2 p0.fk p1) [(zy,zy)] [] (λr628=>.gh 0 (.tell zy [(Zs 15 .undef [.sl false 3 (List.map Z0.c []),.undef,.undef,.undef,.undef,.undef,.undef])]) (.done (.inl ({ p1.fc with fw:=6,fE:=r628.1,fo:=[],fA:=Z8.mk r628.2.1 r628.2.2.1 r628.2.2.2 },p1.QL)))) (λr629=>.done (.inr (p1.fc.fh.fq,p1.fc.fh.fP,p1.fc.fh.fe,p1.fc.fI,r629.1,r629.2)))) (λr630=>.fail)) (.fail)) (.br 999999 (Ir p1.fc.fB p1.fc.fw p0.ft [QJ 2,QJ 1,QJ 1]) (.br 990001 true (.sub (gR p1 p0) λr621=>.Qi 2003 (D9 true 8) [] [] (λr622=>.Qi 3004 (rC p0.fk p1) [(zy,zy)] [] (λr623=>.done (.inl (r623.1,r623.2))) (λr624=>.done (.inr (p1.fc.fh.fq,p1.fc.fh.fP,p1.fc.fh.fe,p1.fc.fI,false,r624)))) (λr625=>.fail)) (.fail)) (.br 999999 (Ir p1.fc.fB p1.fc.fw p0.ft [QJ 2,QJ 4,QJ 4]) (.br 990001 true (.sub (gN p1 p0) λr616=>.Qi 2003 (D9 true 8) [] [] (λr617=>.Qi 3004 (rB p0.fk p1) [(zy,zy)] [] (λr618=>.done (.inl ({ p1.fc with fw:=r618.1,fm:=r618.2.1,fE:=r618.2.2.1,fh:=U0.mk p1.fc.fh.fq p1.fc.fh.fP r618.2.2.2.1,fI:=r618.q.1,fo:=r618.q.2.1,fA:=Z8.mk r618.q.2.2.1 r618.q.2.2.2.1 r618.q.q },r618.q.2.1))) (λr619=>.done (.inr (p1.fc.fh.fq,p1.fc.fh.fP,p1.fc.fh.fe,r619.1,r619.2.1,r619.2.2)))) (λr620=>.fail)) (.fail)) (.br 990001 true (.sub (Vw p1 p0) λr613=>.Qi 2003 (D9 false 8) [] [] (λr614=>.fail) (λr615=>.done (.inr (p1.fc.fh.fq,p1.fc.fh.fP,p1.fc.fh.fe,p1.fc.fI,false,8)))) (.fail)))))))
theorem Qe5(p0:Z1)(p1:Q9):UU Tryz.prog GG [0,1,3,4] Tryz.f107 [.ptr 1000000 0 0,.agg (Z0.c p0)] (Ext.of .normal (H2 [.ptr 1000000 0 0,.agg (Z0.c p0)]) [(1000000,⟨22,true,[(YQ p1)]⟩)] [] (by rfl)) (tB p0 p1) (λ(r:Q2×(List Z1))=>.Qs []) (λ(r:Q2×(List Z1))=>Ext.of .normal [] [(1000000,⟨22,true,[(Zj (QM r.1) [.str p1.QZ,.sl false 3 (List.map Z0.c r.2)])]⟩)] [] (by rfl)) (λ(r:za×za×za×za×Bool×Int)=>W9 (.iface (bif r.q.1 then 171 else 124) (.agg #[.int .i64 r.q.2]))) (λ(r:za×za×za×za×Bool×Int)=>Ext.of .normal [] [(1000000,⟨22,true,[(YQ { p1 with fc:={ p1.fc with fh:=⟨r.1,r.2.1,r.2.2.1⟩,fI:=r.2.2.2.1 } })]⟩)] [] (by rfl)):=by unfold UU;kernel_rfl
def pB(p0:Z1)(p1:Q9):O0 Pg GG (Q2×(List Z1)) (za×za×za×za×Bool×Int):=.ofFn 107 [] Q7 Tryz.func107 rfl (λ_=>rfl) (λ_=>rfl) (Qe5 p0 p1)
structure Q8 where
 ft:Int
 fj:Int
 fG:za
 fR:Z1
noncomputable def lP:Code:=Tryz.f62.body.getD .skip
def Qeh(p:Q9)(v:Q8):TT (Unit):=
 .done ()
def TE(p:Q9)(v:Q8):Ext:=Ext.of .normal [(0,.ptr 1000000 0 0),(1,.agg [.i v.ft,.i v.fj,.str v.fG,.i v.fR.ft,.i v.fR.fZ,.str v.fR.fk])] [(1000000,⟨22,true,[(YQ p)]⟩)] [] (by rfl)
def FY(p:Q9)(v:Q8):(Unit)->Ext:=λ(r:Unit)=>Ext.of .normal [(2,.ptr 2 0 0),(3,.ptr 3 0 0)] [(2,⟨1,true,[[.ptr 1000000 0 0]]⟩),(3,⟨6,true,[[.i v.ft,.i v.fj,.str v.fG,.i v.fR.ft,.i v.fR.fZ,.str v.fR.fk]]⟩),(1000000,⟨22,true,[(YQ p)]⟩)] [] (by rfl)
theorem Qmk(p:Q9)(v:Q8):Y1 Tryz.prog GG [0,1,2,3] 52 (cL lP) (TE p v) (Qeh p v) (FY p v):=by unfold Y1;kernel_rfl
def jI(p:Q9)(v:Q8):TT ((Q2×(List Z1))⊕(za×za×za×za×Bool×Int)):=
 .br 0 (v.ft==1)
 (.br 4008 (p.fc.fB==1)
  (.Qi 4015 (D9 (p.fc.fw==1) 8) [] [] (λr646=>
    .call 5002 (Qz4 p) [(1000000,2000000)] [] λr648=>
    .done (.inl ({ p.fc with fw:=r648.1,fm:=r648.2.1,fo:=r648.2.2.1,fA:=Z8.mk r648.2.2.2.1 r648.q.1 r648.q.2 },r648.2.2.1)))
   (λr649=>
    .done (.inr (p.fc.fh.fq,p.fc.fh.fP,p.fc.fh.fe,p.fc.fI,false,8))))
  (.Qi 4015 (D9 false 8) [] [] (λr650=>
    .fail)
   (λr651=>
    .done (.inr (p.fc.fh.fq,p.fc.fh.fP,p.fc.fh.fe,p.fc.fI,false,8)))))
 (.br 0 (v.ft==2)
  (.Qi 7004 (pB v.fR p) [(1000000,2000000)] [] (λr652=>
    .done (.inl (r652.1,r652.2)))
   (λr653=>
    .done (.inr (r653.1,r653.2.1,r653.2.2.1,r653.2.2.2.1,r653.q.1,r653.q.2))))
  (.br 0 (v.ft==3)
   (.Qi 9002 (Qz3 p) [(1000000,2000000)] [] (λr654=>
     .done (.inl ({ p.fc with fA:=Z8.mk r654.1 r654.2.1 r654.2.2.1 },r654.2.2.2)))
    (λr655=>
     .done (.inr (p.fc.fh.fq,p.fc.fh.fP,p.fc.fh.fe,p.fc.fI,true,6))))
   (.br 0 (v.ft==4)
    (.br 0 (p.fc.fB==2)
     (.done (.inl (p.fc,p.fc.fo)))
     (.done (.inl (p.fc,p.QL))))
    (.done (.inl (p.fc,p.QL))))))
def TM(p:Q9)(v:Q8):Ext:=Ext.of .normal [(2,.ptr 1000002 0 0),(3,.ptr 1000003 0 0),(4,.fn 104 [] [.ptr 1000002 0 0])] [(1000002,⟨1,true,[[.ptr 2000000 0 0]]⟩),(1000003,⟨6,true,[[.i v.ft,.i v.fj,.str v.fG,.i v.fR.ft,.i v.fR.fZ,.str v.fR.fk]]⟩),(2000000,⟨22,true,[(YQ p)]⟩)] [] (by rfl)
def OH(p:Q9)(v:Q8)(r:Q2×(List Z1)):Ext:=Ext.of .normal [(2,.ptr 1000002 0 0)] [(1000002,⟨1,true,[[.ptr 2000000 0 0]]⟩),(1000003,⟨6,true,[[.i v.ft,.i v.fj,.str v.fG,.i v.fR.ft,.i v.fR.fZ,.str v.fR.fk]]⟩),(2000000,⟨22,true,[(Zj (QM r.1) [.str p.QZ,.sl false 3 (List.map Z0.c r.2)])]⟩)] [] (by rfl)
def OU(p:Q9)(v:Q8)(r:za×za×za×za×Bool×Int):Ext:=Ext.of (.panic (W9 (.iface (bif r.q.1 then 171 else 124) (.agg #[.int .i64 r.q.2])))) [(2,.ptr 1000002 0 0)] [(1000002,⟨1,true,[[.ptr 2000000 0 0]]⟩),(1000003,⟨6,true,[[.i v.ft,.i v.fj,.str v.fG,.i v.fR.ft,.i v.fR.fZ,.str v.fR.fk]]⟩),(2000000,⟨22,true,[(YQ { p with fc:={ p.fc with fh:=⟨r.1,r.2.1,r.2.2.1⟩,fI:=r.2.2.2.1 } })]⟩)] [] (by rfl)
theorem Qmw(p:Q9)(v:Q8):Y1 Tryz.prog GG [2,3,4,6,7,26,32,36,43] 52 (cR (cR lP)) (TM p v) (jI p v) (Sum.elim (OH p v) (OU p v)):=by unfold Y1;kernel_rfl
def lF:Array Oper:=Ik (cL (cR lP))
def Nw:Oper:=(lF[0]?).get (by kernel_rfl)
def uU:Oper:=(lF[1]?).get (by kernel_rfl)
theorem eEv:Tryz.f62.body=some ([cL lP].foldr Code.seq (.seq (.region 1 #[Nw,uU] false) (cR (cR lP)))):=by kernel_rfl
noncomputable def cEc:Code:=Tryz.f104.body.getD .skip
def Qhk:Array Oper:=Ik (cL cEc)
def Qef:Oper:=(Qhk[0]?).get (by kernel_rfl)
theorem eEc:Tryz.f104.body=some (.seq (.region 0 #[Qef] false) (cR cEc)):=by kernel_rfl
def PW(e:Int):Value:=.iface 171 (.agg #[.int .i64 e])
def Uf(e:Int):Value:=.iface 124 (.agg #[.int .i64 e])
def JI(v:Q8):List V:=[.int .i64 v.ft,.int .i64 v.fj,.str v.fG,.int .i64 v.fR.ft,.int .i64 v.fR.fZ,.str v.fR.fk]
def Ep(p:Q9)(v:Q8):List (Nat×Qa):=[(1000002,⟨1,true,[[.ptr 2000000 0 0]]⟩),(1000003,⟨6,true,[JI v]⟩),(2000000,⟨22,true,[IV p]⟩)]
def KZ:List V:=[.ptr 1000002 0 0]
def xEc(rv:Value)(h:HW rv=true)(p:Q9)(v:Q8):Ext:=Ext.of .normal [(0,.ptr 1000002 0 0),(4,.Zk rv)] (Ep p v) [] (by rfl)
def BM(p:Q9)(v:Q8):Ext:=Ext.of .normal [] (Ep p v) [] (by rfl)
def uZ(p:Q9)(e:Int)(q:Int×Int×Int):Q9:=⟨⟨p.fc.fB,7,p.fc.fj,p.fc.fV,p.fc.fe,p.fc.fQ,p.fc.fq,p.fc.fT,p.fc.fp,p.fc.fm,zd,⟨zd,zd,zd⟩,zd,[],⟨q.1,q.2.1,q.2.2⟩,e⟩,p.QZ,[]⟩
def Qew:TT Unit:=.Qz 3001 (Qh.Qhw 20 20 (.tmp 4) 6 (by kernel_rfl)) λ_=>.tt (.done ())
theorem Qmm(p:Q9)(v:Q8):Y1 Tryz.prog GG [0,4,6] 14 (cR cEc) (xEc .nilIface rfl p v) Qew (λ_=>BM p v):=by unfold Y1;kernel_rfl
theorem asF(e:Int)(w:World):∃v,(Instr.typeAssert (PW e) 20 171 true).run Tryz.prog w=.ok (.tuple #[v,.bool true]) w/\∀γ bs u,Qj γ w bs u (.agg [.int .i64 e]) v:=⟨.agg #[.int .i64 e],by kernel_rfl,λ_ _ _=>.agg [.int .i64 e] [.int .i64 e] rfl λi c x hc hx=>by
 match i,hc,hx with
 | 0,hc,hx=>simp at hc hx;subst hc;subst hx;exact .data (.int _ _)
 | n+1,hc,hx=>simp at hc⟩
theorem asE(e:Int)(w:World):∃v,(Instr.typeAssert (Uf e) 20 171 true).run Tryz.prog w=.ok (.tuple #[v,.bool false]) w/\∀γ bs u,Qj γ w bs u (.agg [.int .i64 0]) v:=⟨.agg #[.int .i64 0],by kernel_rfl,λ_ _ _=>.agg [.int .i64 0] [.int .i64 0] rfl λi c x hc hx=>by
 match i,hc,hx with
 | 0,hc,hx=>simp at hc hx;subst hc;subst hx;exact .data (.int _ _)
 | n+1,hc,hx=>simp at hc⟩
def iK(p:Q9)(e:Int):TT (Int×Int×Int):=.Qz 3001 (Qh.uM 20 20 (.tmp 4) 6 171 (.agg #[.int .i64 e]) (by kernel_rfl)) λ_=>.ff (.Qz 5001 (Qh.asserted (.tmp 4) 20 171 7 (PW e) true (.agg [.int .i64 e]) (.agg [.int .i64 0]) λw=>by
 simp_all [asF]) λ_=>.tt (.call 7004 (Qz5 e p) [(1000000,2000000)] [] λq=>.gh 0 (.tell 2000000 [[.undef,.undef,.undef,.undef,.undef,.undef,.undef,.undef,.undef,.undef,.undef,.undef,.undef,.undef,.undef,.sl false 3 [],.undef,.undef,.undef,.undef,.undef,.sl false 3 []]]) (.done q)))
theorem Qme(p:Q9)(v:Q8)(e:Int):Y1 Tryz.prog GG [0,1,2,3,4,5,6,8,9] 14 (cR cEc) (xEc (PW e) rfl p v) (iK p e) (λq=>BM (uZ p e q) v):=by unfold Y1;kernel_rfl
def Qek(e:Int):TT Unit:=.Qz 3001 (Qh.uM 20 20 (.tmp 4) 6 124 (.agg #[.int .i64 e]) (by kernel_rfl)) λ_=>.ff (.Qz 5001 (Qh.asserted (.tmp 4) 20 171 7 (Uf e) false (.agg [.int .i64 e]) (.agg [.int .i64 0]) λw=>by
 simp_all [asE]) λ_=>.ff (.UD 2002 (.done ())))
theorem Qmd(p:Q9)(v:Q8)(e:Int):Y1 Tryz.prog GG [0,1,2,3,4,5,6,8,9] 14 (cR cEc) (xEc (Uf e) rfl p v) (Qek e) (λ_=>Ext.of (.panic (W9 (Uf e))) [] (Ep p v) [] (by rfl)):=by unfold Y1;kernel_rfl
theorem uW(p:Q9)(v:Q8):∀b k,Qm (Ep p v) b=some k->D7 b=true:=λb k h=>by
 obtain⟨q,h1,rfl,_⟩:=ZX h
 simp only[Ep,zN,zR,or_false] at h1
 rcases h1 with rfl|rfl|rfl
 ·grind [D7]
 ·grind [D7]
 grind [D7]
theorem ecD{u u':FrameMode}{rv:Value}(hi:HW rv=true){p:Q9}{v:Q8}{kp:List Nat}{ρ:Type}{g:TT ρ}{E:ρ->Ext}{r:ρ}{ee:Value->Ending}{outs:zg}(hr:HT u rv u')(k:Y1 Tryz.prog GG kp 14 (cR cEc) (xEc rv hi p v) g E)(hg:g.run=some r)(hok:(E r).ok=true)
  (hex:(ee=.returned/\(E r).ex=.normal)\/∃ch,ee=(λ_=>.panicked ch)/\(E r).ex=.panic ch) (hb:∀b k,outs b=some k->Qm (E r).bs b=some k) :
  Wz Tryz.prog GG 104 KZ (Qm (Ep p v)) u ee u' outs:=by
 refine Dh (n:=14) (l:=[]) (t1:=4) (rv:=rv) (S1:=((xEc rv hi p v).D 14).st) (ex:=λe=>e=(E r).ex) Tryz.func104 eEc (by kernel_rfl) rfl rfl (by kernel_rfl) (by kernel_rfl) (by kernel_rfl) (by decide) hi hr (by kernel_rfl) (U6.nil ⟨rfl,H9 (xEc rv hi p v) (by rfl) rfl ⟨by rfl,by rfl⟩⟩) ?_ ?_
 ·have h:=k.tv Q7 hg hok
  exact h.mono λe s hq=>⟨hq.1,_,hq.2,λb k hk=>hb b k hk⟩
 ·rcases hex with⟨h1,h2⟩|⟨ch,h1,h2⟩
  ·grind
  simp_all
abbrev EvA:=Q2×List Z1
abbrev EvB:=za×za×za×za×Bool×Int
def evM(p:Q9)(r:EvA):Q9:=⟨r.1,p.QZ,r.2⟩
def lL(p:Q9)(r:EvB):Q9:=⟨⟨p.fc.fB,p.fc.fw,p.fc.fj,p.fc.fV,p.fc.fe,p.fc.fQ,p.fc.fq,p.fc.fT,p.fc.fp,p.fc.fm,p.fc.fE,⟨r.1,r.2.1,r.2.2.1⟩,r.2.2.2.1,p.fc.fo,p.fc.fA,p.fc.gc⟩,p.QZ,p.QL⟩
def Xu(p:Q9)(v:Q8):Ext:=Ext.of .normal [(2,.ptr 1000002 0 0),(3,.ptr 1000003 0 0)] (Ep p v) [] (by rfl)
def OW(p:Q9)(v:Q8):Ext:=Ext.of .normal [] [(2,⟨1,true,[[.ptr 1000000 0 0]]⟩),(3,⟨6,true,[JI v]⟩),(1000000,⟨22,true,[IV p]⟩)] [] (by rfl)
def MZ(p:Q9):List (Nat×Qa):=[(1000000,⟨22,true,[IV p]⟩)]
theorem Qhz{x:Ext}(h:x.us=[1000002,1000003,2000000]):(x.D 52).st.u=Qw:=funext λb=>by
 show (x.us.contains b || Qw b)=Qw b
 rw[h]
 by_cases h1:b=1000002
 ·subst h1;rfl
 ·by_cases h2:b=1000003
  ·subst h2;rfl
  ·by_cases h3:b=2000000
   ·subst h3;rfl
   grind
theorem PK(p:Q9)(v:Q8){q:EvA⊕EvB}{x:Ext}{u u' M:FrameMode}{ee EE:Value->Ending}{p1 p2:Q9}{res:V}{outs:zg}(hx:Sum.elim (OH p v) (OU p v) q=x)(h2:(jI p v).run=some q)(hok:x.ok=true)(hl:Go.EV.Left u x.ex)(hbs:(x.D 52).st.b=Qm (Ep p1 v))(hus:x.us=[1000002,1000003,2000000])
  (hD:Wz Tryz.prog GG 104 KZ (Qm (Ep p1 v)) u ee u' (Qm (Ep p2 v))) (hM:∀z,settled u' (ee z)=M) (hne:∀z,ee z≠.outgrown) (houts:∀b k,outs b=some k->Qm (OW p2 v).bs b=some k)
  (hend:(M=.returning/\EE=.returned/\res=.Qs [])\/∃ch,M=.panicking ch/\EE=(λ_=>.panicked ch)/\res=.undef) :
  Wq Tryz.prog GG 62 [.ptr 1000000 0 0,.agg (JI v)] (Qm (MZ p)) EE res outs:=by
 subst hx
 have e0:U3 52 [.ptr 1000000 0 0,.agg (JI v)] (Qm (MZ p))=((TE p v).D 52).st:=(R3 (x:=TE p v) (by rfl) (by rfl) 52).symm
 have t0:=(Qmk p v).tv Q7 (r:=()) rfl (by rfl)
 have t2:=(Qmw p v).tv Q7 h2 hok
 have hsh:QU GG ((FY p v ()).D 52).st.shift ((Xu p v).D 52).st:=by
  have eT:((FY p v ()).ts.map λp=>(p.1,H7 sh p.2))=(Xu p v).ts:=by kernel_rfl
  have eB:((FY p v ()).bs.map λp=>(sh p.1,p.2.Qc sh))=(Xu p v).bs:=by kernel_rfl
  rw[JA,eT,eB]
  exact H9 (Xu p v) (by rfl) rfl ⟨by rfl,by rfl⟩
 have hU:QU GG ⟨52,((Sum.elim (OH p v) (OU p v) q).D 52).st.t,Qm (Ep p2 v),λ_=>true⟩ ((OW p2 v).D 52).st.shift:=by
  have eT:((OW p2 v).ts.map λp=>(p.1,H7 sh p.2))=(BM p2 v).ts:=by kernel_rfl
  have eB:((OW p2 v).bs.map λp=>(sh p.1,p.2.Qc sh))=(BM p2 v).bs:=by kernel_rfl
  rw[JA,eT,eB,<-kV (x:=BM p2 v) _ (by rfl)]
  exact H9 (BM p2 v) (by rfl) rfl ⟨by rfl,by rfl⟩
 have st5:R6 Tryz.prog GG #[Nw,uU] 0 ((Xu p v).D 52).st (((Xu p v).D 52).st.put (some 4) (.fn 104 [] KZ)):=C0 (by rfl)
 have g0:M3 #[Nw,uU] ((Xu p v).D 52).st Nw=some true:=by rfl
 have h0:A8 Tryz.prog GG Nw ((Xu p v).D 52).st (((Xu p v).D 52).st.put (some 4) (.fn 104 [] KZ)):=by
  unfold R6 at st5
  simp only[show (#[Nw,uU]:Array Oper)[0]?=some Nw from rfl] at st5
  rcases st5 with⟨_,h⟩|⟨h,_⟩
  ·exact h
  ·rw[g0] at h;simp at h
 have gB:QU GG (((Xu p v).D 52).st.put (some 4) (.fn 104 [] KZ)) ((TM p v).D 52).st:=H9 (TM p v) (by rfl) rfl ⟨by rfl,by rfl⟩
 refine Du (As:=[cL lP]) (rest:=cR (cR lP)) (rid:=1) (t:=4) (n:=52) (o0:=Nw) (o1:=uU) (caps:=KZ) (insD:=Qm (Ep p1 v)) (outsD:=Qm (Ep p2 v)) (S0:=((FY p v ()).D 52).st) (S1:=((Xu p v).D 52).st) (S2:=((Sum.elim (OH p v) (OU p v) q).D 52).st) (Sx:=((OW p2 v).D 52).st) (u:=u) (u':=u')
  Tryz.func62 eEv (by kernel_rfl) ?_ hsh h0 g0 (by kernel_rfl) (by kernel_rfl) (by rfl) (TV.ghost gB t2) hl (λc hc=>?_) (show 4 < 52 by decide) ⟨hbs,Qhz hus⟩ (by grind [uW]) Tryz.func104 (by kernel_rfl) (by kernel_rfl) hD hM hne hU (T8 (ts:=(OW p2 v).ts) (bs:=(OW p2 v).bs) (us:=(OW p2 v).us) (by rfl) (by rfl)) rfl houts ?_
 ·rw[e0]
  show TV _ _ (cL lP) _ _
  exact t0
 ·simp only[KZ,zN,zR,or_false] at hc
  subst hc
  exact⟨1000002,_,rfl,by decide,rfl⟩
 ·rcases hend with⟨h1,h2,rfl⟩|h
  ·exact .inl ⟨h1,h2,by kernel_rfl,λγ w v h=>Qj.AW (γ:=γ) (γ':=γ) (by grind) h (by rfl)⟩
  grind
def vW(p:Q9)(v:Q8):Option (Q9⊕Int):=match (jI p v).run with
 | some (.inl r)=>some (.inl (evM p r))
 | some (.inr r)=>bif r.q.1 then (match (iK (lL p r) r.q.2).run with|some q=>some (.inl (uZ (lL p r) r.q.2 q))|none=>none) else some (.inr r.q.2)
 | none=>none
def uH(e:Int):List PanicEntry:=[{ v:=Uf e,recovered:=false },{ v:=Uf e,recovered:=true }]
theorem Qhj(p:Q9)(v:Q8){p':Q9}(h:vW p v=some (.inl p')):QR Tryz.prog GG 62 [.ptr 1000000 0 0,.agg (JI v)] (Qm (MZ p)) (.Qs []) (Qm (MZ p')):=by
 have sub:∀p2:Q9,∀b k,Qm (MZ p2) b=some k->Qm (OW p2 v).bs b=some k:=λp2 b k hk=>by
  obtain⟨z,h1,rfl,rfl⟩:=ZX hk
  simp only[MZ,zN,zR,or_false] at h1
  subst h1;rfl
 unfold vW at h
 split at h
 ·rename_i r hr
  obtain rfl:=Sum.inl.inj (zV h)
  exact PK p v (p1:=evM p r) (p2:=evM p r) (u:=.returning) (u':=.returning) (M:=.returning) (ee:=.returned) (EE:=.returned) rfl hr (by rfl) (.inr (.inl ⟨rfl,rfl⟩)) rfl rfl (ecD rfl (.inl ⟨rfl,rfl,rfl⟩) (Qmm (evM p r) v) (r:=()) rfl (by rfl) (.inl ⟨rfl,rfl⟩) λ_ _ h=>h) (λ_=>rfl) (λ_ h=>by cases h) (sub _) (.inl ⟨rfl,rfl,rfl⟩)
 ·rename_i r hr
  cases hf:r.q.1 with
  | false=>grind
  | true=>
   rw[hf] at h
   simp only[cond_true] at h
   split at h
   ·rename_i q hq
    obtain rfl:=Sum.inl.inj (zV h)
    refine PK p v (p1:=lL p r) (p2:=uZ (lL p r) r.q.2 q) (u:=.panicking (W9 (PW r.q.2))) (u':=.panicking [{ v:=PW r.q.2,recovered:=true }]) (M:=.returning) (ee:=.returned) (EE:=.returned) rfl hr (by rfl) (.inr (.inr ⟨_,rfl,?_⟩)) rfl rfl (ecD rfl (.inr ⟨PW r.q.2,[],rfl,rfl,rfl⟩) (Qme (lL p r) v r.q.2) hq (by rfl) (.inl ⟨rfl,rfl⟩) λ_ _ h=>h) (λ_=>rfl) (λ_ h=>by cases h) (sub _) (.inl ⟨rfl,rfl,rfl⟩)
    grind [W9,PW]
   ·cases h
 ·cases h
theorem vU(p:Q9)(v:Q8){e:Int}(h:vW p v=some (.inr e)):Wq Tryz.prog GG 62 [.ptr 1000000 0 0,.agg (JI v)] (Qm (MZ p)) (λ_=>.panicked (uH e)) .undef Ii:=by
 unfold vW at h
 split at h
 ·cases h
 ·rename_i r hr
  cases hf:r.q.1 with
  | true=>
   grind
  | false=>
   rw[hf] at h
   obtain rfl:=Sum.inr.inj (zV h)
   refine PK p v (p1:=lL p r) (p2:=lL p r) (u:=.panicking (W9 (Uf r.q.2))) (u':=.panicking [{ v:=Uf r.q.2,recovered:=true }]) (M:=.panicking (uH r.q.2)) (ee:=λ_=>.panicked (W9 (Uf r.q.2))) (EE:=λ_=>.panicked (uH r.q.2)) rfl hr (by rfl) (.inr (.inr ⟨_,rfl,?_⟩)) rfl rfl (ecD rfl (.inr ⟨Uf r.q.2,[],rfl,rfl,rfl⟩) (Qmd (lL p r) v r.q.2) (r:=()) rfl (by rfl) (.inr ⟨_,rfl,rfl⟩) λ_ _ h=>h) (λ_=>rfl) (λ_ h=>by cases h) (by grind [Ii]) (by grind)
   grind [W9,Uf]
 ·cases h
def nW(v:Q8)(p:Q9):O0 Pg GG Q9 Int:=⟨62,[.ptr zy 0 0,.agg (JI v)],MZ p,vW p v,λ_=>.Qs [],MZ,uH,λ_=>[],[],λ_ _ _ h=>by simp at h,λ_ _ _ h=>by simp at h,λ_ h=>Qhj p v h,λ_ h=>vU p v h⟩
def nJ(b:Bool)(e:Int):List PanicEntry:=bif b then uH e else W9 (Uf e)
noncomputable def lR:Code:=Tryz.f24.body.getD .skip
def Qey(s:Q2)(v:Q8):TT (Unit):=
 .done ()
def TW(s:Q2)(v:Q8):Ext:=Ext.of .normal [(0,.agg (QM s)),(1,.agg [.i v.ft,.i v.fj,.str v.fG,.i v.fR.ft,.i v.fR.fZ,.str v.fR.fk])] [] [] (by rfl)
def FZ(s:Q2)(v:Q8):(Unit)->Ext:=λ(r:Unit)=>Ext.of .normal [(2,.ptr 2 0 0),(3,.ptr 3 0 0),(4,.ptr 4 0 0),(5,.ptr 5 0 0),(6,.ptr 6 0 0)] [(2,⟨20,true,[(QM s)]⟩),(3,⟨6,true,[[.i v.ft,.i v.fj,.str v.fG,.i v.fR.ft,.i v.fR.fZ,.str v.fR.fk]]⟩),(4,⟨20,true,[(Zj [.i 0,.i 0,.i 0] (Zs 5 (.str zd) (Zj [.Qy,.i 0] (Zs 5 (.str zd) (Zj [.Qy] (Zs 4 (.int .i64 0) []))))))]⟩),(5,⟨1,true,[[.Qy]]⟩),(6,⟨1,true,[[.i 0]]⟩)] [] (by rfl)
theorem Qkb(s:Q2)(v:Q8):Y1 Tryz.prog GG [0,1,2,3,4,5,6] 76 (cL lR) (TW s v) (Qey s v) (FZ s v):=by unfold Y1;kernel_rfl
def g61(p0:List Z1):TT Unit:=.app 3003 Z0 [] p0 32 true (by intros;rfl) (.done ())
theorem Qml:Y1 Tryz.prog GG [2] 8 (MK Tryz.f61.body) (Ext.l .normal [(2,.Qy)] []) (.done ():TT Unit) (λ_=>Ext.l .ret [(2,.Qy)] []):=by unfold Y1;kernel_rfl
theorem Qmf(p0:List Z1):Y1 Tryz.prog GG [0,2,5,6,7] 8 (Wb Tryz.f61.body) (Ext.l .normal [(0,.sl false 3 (List.map Z0.c p0)),(2,.Qy)] []) (g61 p0) (λ_=>Ext.of .ret [(2,.ref 7 0 ([]++p0).length)] [] [BT.of 7 Z0 3 ([]++p0)] (by rfl)):=by unfold Y1;kernel_rfl
theorem k61(p0:(List Z1)){r:Unit}(h:(g61 p0).run=some r):QR Tryz.prog GG 61 [.sl false 3 (List.map Z0.c p0)] (Qm []) (.ref 7 0 p0.length) (Qm [(7,⟨3,true,List.map Z0.c p0⟩)]):=
 Nl (ty:=Z0) (ops0:=Oi Tryz.f61.body) (ops1:=Oa Tryz.f61.body) (yes:=MK Tryz.f61.body) (rest:=Wb Tryz.f61.body) (t:=43) Q7 (by decide) Tryz.func61 (by kernel_rfl) (by kernel_rfl) (by kernel_rfl) (by kernel_rfl) (by kernel_rfl) (by kernel_rfl) (by kernel_rfl) (by kernel_rfl) (by kernel_rfl) Qml (Qmf p0) (by rfl) h
def s61(p0:List Z1):Sp Unit:=⟨61,[Sl 3 Z0 p0],[],(g61 p0).run,λ_=>Rf 7 p0,λ_=>[(7,⟨3,true,List.map Z0.c p0⟩)],[7],λ_ p hp _=>by rw[wm.1 hp];exact Z0.data _,λ_ h=>k61 p0 h⟩
def jA(s:Q2)(v:Q8):TT ((Q2×(List Z1))⊕(Bool×Int)):=
 .cl 2002 (Tp s) λr656=>
 .Qi 2004 (D9 (r656==0) 200) [] [] (λr657=>
  .br 3005 (decide ((1:Int)<=v.ft))
  (.br 3010 (decide (v.ft<=4))
   (.br 3017 (decide (s.fj<=v.fj))
    (.br 3022 (decide (v.fj<=1099511627776))
     (.Qi 3027 (D9 (decide ((v.fG.size:Int)<=64)) 2) [] [] (λr658=>
       .br 4005 (v.ft != 2)
       (.Qi 4010 (D9 true 2) [] [] (λr659=>
         .cl 5004 (s59 v.fG) λr660=>
         .call 7003 (s60 s.fp) [] [(7,500016)] λr661=>
         .call 7006 (s61 s.fo) [] [(7,500017)] λr662=>
         .gh 10 (.share (QE.o 500016 Z2 s.fp) 0) (.gh 10 (.share (QE.o 500017 Z0 s.fo) 0) (.gh 10 (.tell 7 [(Zs 21 .undef [.sl false 3 (List.map Z0.c [])])]) (.Qi 8002 (nW v (Q9.mk { s with fj:=v.fj } r660 [])) [(1000000,7)] [] (λr663=>
          .call 9005 (s61 r663.QL) [] [(7,500018)] λr664=>
          .gh 0 (.share (QE.o 500018 Z0 r663.QL) 0) (.done (.inl (r663.fc,r663.QL))))
         (λr665=>
          .done (.inr (true,r665)))))))
        (λr666=>
         .fail))
       (.cl 4007 (s58 v.fR) λr667=>
        .Qi 4010 (D9 (r667==0) 2) [] [] (λr668=>
         .cl 5004 (s59 v.fG) λr669=>
         .call 7003 (s60 s.fp) [] [(7,500019)] λr670=>
         .call 7006 (s61 s.fo) [] [(7,500020)] λr671=>
         .gh 10 (.share (QE.o 500019 Z2 s.fp) 0) (.gh 10 (.share (QE.o 500020 Z0 s.fo) 0) (.gh 10 (.tell 7 [(Zs 21 .undef [.sl false 3 (List.map Z0.c [])])]) (.Qi 8002 (nW v (Q9.mk { s with fj:=v.fj } r669 [])) [(1000000,7)] [] (λr672=>
          .call 9005 (s61 r672.QL) [] [(7,500021)] λr673=>
          .gh 0 (.share (QE.o 500021 Z0 r672.QL) 0) (.done (.inl (r672.fc,r672.QL))))
         (λr674=>
          .done (.inr (true,r674)))))))
        (λr675=>
         .done (.inr (false,2)))))
      (λr676=>
       .done (.inr (false,2))))
     (.Qi 3027 (D9 false 2) [] [] (λr677=>
       .fail)
      (λr678=>
       .done (.inr (false,2)))))
    (.Qi 3027 (D9 false 2) [] [] (λr679=>
      .fail)
     (λr680=>
      .done (.inr (false,2)))))
   (.Qi 3027 (D9 false 2) [] [] (λr681=>
     .fail)
    (λr682=>
     .done (.inr (false,2)))))
  (.Qi 3027 (D9 false 2) [] [] (λr683=>
    .fail)
   (λr684=>
    .done (.inr (false,2)))))
 (λr685=>
  .done (.inr (false,200)))
def TH(s:Q2)(v:Q8):Ext:=Ext.of .normal [(2,.ptr 1000002 0 0),(3,.ptr 1000003 0 0),(4,.ptr 1000004 0 0),(5,.ptr 1000005 0 0),(6,.ptr 1000006 0 0),(8,.fn 56 [] [.ptr 1000004 0 0,.ptr 1000005 0 0,.ptr 1000006 0 0])] [(1000002,⟨20,true,[(QM s)]⟩),(1000003,⟨6,true,[[.i v.ft,.i v.fj,.str v.fG,.i v.fR.ft,.i v.fR.fZ,.str v.fR.fk]]⟩),(1000004,⟨20,true,[(Zj [.i 0,.i 0,.i 0] (Zs 5 (.str zd) (Zj [.Qy,.i 0] (Zs 5 (.str zd) (Zj [.Qy] (Zs 4 (.int .i64 0) []))))))]⟩),(1000005,⟨1,true,[[.Qy]]⟩),(1000006,⟨1,true,[[.i 0]]⟩)] [] (by rfl)
def OJ(s:Q2)(v:Q8)(r:Q2×(List Z1)):Ext:=Ext.of .ret [(4,.ptr 1000004 0 0),(5,.ptr 1000005 0 0),(6,.ptr 1000006 0 0)] [(1000002,⟨20,true,[(QM s)]⟩),(1000003,⟨6,true,[[.i v.ft,.i v.fj,.str v.fG,.i v.fR.ft,.i v.fR.fZ,.str v.fR.fk]]⟩),(1000004,⟨20,true,[(QM r.1)]⟩),(1000005,⟨1,true,[[.sl false 3 (List.map Z0.c r.2)]]⟩),(1000006,⟨1,true,[[.i 0]]⟩)] [] (by rfl)
def OY(s:Q2)(v:Q8)(r:Bool×Int):Ext:=Ext.of (.panic (nJ r.1 r.2)) [(4,.ptr 1000004 0 0),(5,.ptr 1000005 0 0),(6,.ptr 1000006 0 0)] [(1000002,⟨20,true,[(QM s)]⟩),(1000003,⟨6,true,[[.i v.ft,.i v.fj,.str v.fG,.i v.fR.ft,.i v.fR.fZ,.str v.fR.fk]]⟩),(1000004,⟨20,true,[(Zj [.i 0,.i 0,.i 0] (Zs 5 (.str zd) (Zj [.Qy,.i 0] (Zs 5 (.str zd) (Zj [.Qy] (Zs 4 (.int .i64 0) []))))))]⟩),(1000005,⟨1,true,[[.Qy]]⟩),(1000006,⟨1,true,[[.i 0]]⟩)] [] (by rfl)
theorem Qks(s:Q2)(v:Q8):Y1 Tryz.prog GG [2,3,4,5,6,7,8] 76 (cR (cR lR)) (TH s v) (jA s v) (Sum.elim (OJ s v) (OY s v)):=by unfold Y1;kernel_rfl
def oC:Array Oper:=Ik (cL (cR lR))
def FR:Oper:=(oC[0]?).get (by kernel_rfl)
def Vd:Oper:=(oC[1]?).get (by kernel_rfl)
theorem eSt:Tryz.f24.body=some ([cL lR].foldr Code.seq (.seq (.region 1 #[FR,Vd] false) (cR (cR lR)))):=by kernel_rfl
noncomputable def cSc:Code:=Tryz.f56.body.getD .skip
def Gy:Array Oper:=Ik (cL cSc)
def Qqc:Oper:=(Gy[0]?).get (by kernel_rfl)
theorem eSc:Tryz.f56.body=some (.seq (.region 0 Gy false) (cR cSc)):=by kernel_rfl
abbrev TZ:=Q2×List Z1×Int
def Hi(h:Q2):List V:=[.int .i64 h.fB,.int .i64 h.fw,.int .i64 h.fj,.str h.fV,.str h.fe,.str h.fQ,.str h.fq,.str h.fT,.sl false 1 (h.fp.map Z2.c),.int .i64 h.fm,.str h.fE,.str h.fh.fq,.str h.fh.fP,.str h.fh.fe,.str h.fI,.sl false 3 (h.fo.map Z0.c),.int .i64 h.fA.fF,.int .i64 h.fA.fX,.int .i64 h.fA.fM,.int .i64 h.gc]
def BP:Q2:=⟨0,0,0,zd,zd,zd,zd,zd,[],0,zd,⟨zd,zd,zd⟩,zd,[],⟨0,0,0⟩,0⟩
def gK:List V:=[.int .i64 0,.int .i64 0,.int .i64 0,.str zd,.str zd,.str zd,.str zd,.str zd,.Qy,.int .i64 0,.str zd,.str zd,.str zd,.str zd,.str zd,.Qy,.int .i64 0,.int .i64 0,.int .i64 0,.int .i64 0]
def Xp(s:Q2)(v:Q8)(row:List V)(l:V)(e:Int):List (Nat×Qa):=[(1000002,⟨20,true,[Hi s]⟩),(1000003,⟨6,true,[JI v]⟩),(1000004,⟨20,true,[row]⟩),(1000005,⟨1,true,[[l]]⟩),(1000006,⟨1,true,[[.int .i64 e]]⟩)]
def FB(s:Q2)(v:Q8)(r:TZ):List (Nat×Qa):=Xp s v (Hi r.1) (.sl false 3 (r.2.1.map Z0.c)) r.2.2
def FP(s:Q2)(v:Q8)(e:Int):List (Nat×Qa):=Xp s v gK .Qy e
def YV:List V:=[.ptr 1000004 0 0,.ptr 1000005 0 0,.ptr 1000006 0 0]
def Qqb:List (Nat×V):=[(0,.ptr 1000004 0 0),(1,.ptr 1000005 0 0),(2,.ptr 1000006 0 0)]
def BW(rv:Value)(h:HW rv=true)(bs:List (Nat×Qa)):Ext:=Ext.of .normal (Qqb++[(6,.Zk rv)]) bs [] (by simp)
def FU(b:Bool)(e:Int)(bs:List (Nat×Qa)):Ext:=Ext.of .normal (Qqb++[(3,.ptr 3 0 0),(4,.bool b)]) ((3,⟨1,true,[[.i e]]⟩) :: bs) [] (by simp)
def BK(bs:List (Nat×Qa)):Ext:=Ext.of .normal [] bs [] (by simp)
theorem asS(e:Int)(w:World):∃v,(Instr.typeAssert (Uf e) 20 124 true).run Tryz.prog w=.ok (.tuple #[v,.bool true]) w/\∀γ bs u,Qj γ w bs u (.agg [.int .i64 e]) v:=⟨.agg #[.int .i64 e],by kernel_rfl,λ_ _ _=>.agg [.int .i64 e] [.int .i64 e] rfl λi c x hc hx=>by
 match i,hc,hx with
 | 0,hc,hx=>simp at hc hx;subst hc;subst hx;exact .data (.int _ _)
 | n+1,hc,hx=>simp at hc⟩
theorem asZ(w:World):∃v,(Instr.typeAssert .nilIface 20 124 true).run Tryz.prog w=.ok (.tuple #[v,.bool false]) w/\∀γ bs u,Qj γ w bs u (.agg [.int .i64 0]) v:=⟨.agg #[.int .i64 0],by kernel_rfl,λ_ _ _=>.agg [.int .i64 0] [.int .i64 0] rfl λi c x hc hx=>by
 match i,hc,hx with
 | 0,hc,hx=>simp at hc hx;subst hc;subst hx;exact .data (.int _ _)
 | n+1,hc,hx=>simp at hc⟩
def Qeu:TT Unit:=.Qz 2 (Qh.asserted (.tmp 6) 20 124 7 .nilIface false (.agg [.int .i64 0]) (.agg [.int .i64 0]) λw=>by
 simp_all [asZ]) λ_=>.done ()
def Qej(e:Int):TT Unit:=.Qz 2 (Qh.asserted (.tmp 6) 20 124 7 (Uf e) true (.agg [.int .i64 e]) (.agg [.int .i64 0]) λw=>by
 simp_all [asS]) λ_=>.done ()
theorem Qkt(s:Q2)(v:Q8)(r:TZ):W4 Tryz.prog GG [0,1,2,3,4] 14 0 (P2 Gy 6) 8 (BW .nilIface rfl (FB s v r)) Qeu (λ_=>FU false 0 (FB s v r)):=by unfold W4;kernel_rfl
theorem Qkc(s:Q2)(v:Q8)(e:Int):W4 Tryz.prog GG [0,1,2,3,4] 14 0 (P2 Gy 6) 8 (BW (Uf e) rfl (FP s v 0)) (Qej e) (λ_=>FU true e (FP s v 0)):=by unfold W4;kernel_rfl
def Qyj:TT Unit:=.ff (.done ())
def Qyy:TT Unit:=.tt (.done ())
theorem Qy2(s:Q2)(v:Q8)(r:TZ):Y1 Tryz.prog GG [0,1,2,3,4,10] 14 (cR cSc) (FU false 0 (FB s v r)) Qyj (λ_=>BK (FB s v r)):=by unfold Y1;kernel_rfl
theorem Qy1(s:Q2)(v:Q8)(e:Int):Y1 Tryz.prog GG [0,1,2,3,4,10] 14 (cR cSc) (FU true e (FP s v 0)) Qyy (λ_=>BK (FP s v e)):=by unfold Y1;kernel_rfl
theorem Vo(s:Q2)(v:Q8)(row:List V)(l:V)(e:Int):∀b k,Qm (Xp s v row l e) b=some k->D7 b=true:=λb k h=>by
 obtain⟨q,h1,rfl,_⟩:=ZX h
 simp only[Xp,zN,zR,or_false] at h1
 rcases h1 with rfl|rfl|rfl|rfl|rfl
 ·grind [D7]
 ·grind [D7]
 ·grind [D7]
 ·grind [D7]
 grind [D7]
theorem stD{u u':FrameMode}{rv:Value}{b:Bool}{e:Int}{bs bs':List (Nat×Qa)}{g g2:TT Unit}(hi:HW rv=true)(hr:HT u rv u')(k:W4 Tryz.prog GG [0,1,2,3,4] 14 0 (P2 Gy 6) 8 (BW rv hi bs) g (λ_=>FU b e bs))(hg:g.run=some ())
  (k2:Y1 Tryz.prog GG [0,1,2,3,4,10] 14 (cR cSc) (FU b e bs) g2 (λ_=>BK bs')) (hg2:g2.run=some ()) (hok:(FU b e bs).ok=true) (hok2:(BK bs').ok=true)
  (h0:QU GG ((U3 14 YV (Qm bs)).put (some 6) (.Zk rv)) ((BW rv hi bs).D 14).st) :
  Wz Tryz.prog GG 56 YV (Qm bs) u .returned u' (Qm bs'):=by
 refine Dh (n:=14) (l:=List.range' 1 7) (t1:=6) (rv:=rv) (S1:=((FU b e bs).D 14).st) (ex:=λe=>e=.normal) Tryz.func56 eSc (by kernel_rfl) (o0:=Qqc) (by kernel_rfl) (by kernel_rfl) (by kernel_rfl) (by kernel_rfl) (by kernel_rfl) (by decide) hi hr (by kernel_rfl) (U6.ghost h0 ?_) ?_ (by grind)
 ·exact W4.qQ (o0:=Qqc) (by kernel_rfl) (by kernel_rfl) (by kernel_rfl) k Q7 hg hok
 ·exact(k2.tv Q7 hg2 hok2).mono λe s hq=>⟨hq.1,_,hq.2,λb k hk=>by
   have e0:(BK bs').bs=bs':=wy bs'
   show Qm (BK bs').bs b=some k
   grind⟩
theorem Qqn(s:Q2)(v:Q8)(r:TZ):Wz Tryz.prog GG 56 YV (Qm (FB s v r)) .returning .returned .returning (Qm (FB s v r)):=
 stD rfl (.inl ⟨rfl,rfl,rfl⟩) (Qkt s v r) rfl (Qy2 s v r) rfl (by rfl) (by rfl) (H9 (BW .nilIface rfl (FB s v r)) (by rfl) rfl ⟨by rfl,by rfl⟩)
def stU(b:Bool)(e:Int):FrameMode:=.panicking ({ v:=Uf e,recovered:=true } :: bif b then [{ v:=Uf e,recovered:=true }] else [])
theorem Qqr(s:Q2)(v:Q8)(b:Bool)(e:Int):Wz Tryz.prog GG 56 YV (Qm (FP s v 0)) (.panicking (nJ b e)) .returned (stU b e) (Qm (FP s v e)):=
 stD rfl (.inr (by cases b<;>exact⟨Uf e,_,rfl,rfl,rfl⟩)) (Qkc s v e) rfl (Qy1 s v e) rfl (by rfl) (by rfl) (H9 (BW (Uf e) rfl (FP s v 0)) (by rfl) rfl ⟨by rfl,by rfl⟩)
def Xj(s:Q2)(v:Q8):Ext:=Ext.of .normal [(2,.ptr 1000002 0 0),(3,.ptr 1000003 0 0),(4,.ptr 1000004 0 0),(5,.ptr 1000005 0 0),(6,.ptr 1000006 0 0)] (FP s v 0) [] (by rfl)
def Ru(s:Q2)(v:Q8)(r:TZ):Ext:=Ext.of .normal [(4,.ptr 4 0 0),(5,.ptr 5 0 0),(6,.ptr 6 0 0)] [(2,⟨20,true,[Hi s]⟩),(3,⟨6,true,[JI v]⟩),(4,⟨20,true,[Hi r.1]⟩),(5,⟨1,true,[[.sl false 3 (r.2.1.map Z0.c)]]⟩),(6,⟨1,true,[[.i r.2.2]]⟩)] [] (by rfl)
def BH(s:Q2)(v:Q8)(r:TZ):Ext:=Ext.of .normal [(4,.ptr 1000004 0 0),(5,.ptr 1000005 0 0),(6,.ptr 1000006 0 0)] (FB s v r) [] (by rfl)
def stV(r:TZ):V:=.Qs [.agg (Hi r.1),.sl false 3 (r.2.1.map Z0.c),.int .i64 r.2.2]
theorem Qql{x:Ext}(h:x.us=[1000002,1000003,1000004,1000005,1000006]):(x.D 76).st.u=Qw:=funext λb=>by
 show (x.us.contains b || Qw b)=Qw b
 rw[h]
 by_cases h1:b=1000002
 ·subst h1;rfl
 ·by_cases h2:b=1000003
  ·subst h2;rfl
  ·by_cases h3:b=1000004
   ·subst h3;rfl
   ·by_cases h4:b=1000005
    ·subst h4;rfl
    ·by_cases h5:b=1000006
     ·subst h5;rfl
     grind
theorem Vx(s:Q2)(v:Q8){q:_⊕(Bool×Int)}{x:Ext}{u u':FrameMode}{row1 row2:List V}{l1 l2:V}{e1 e2:Int}{r:TZ}(hx:Sum.elim (OJ s v) (OY s v) q=x)(h2:(jA s v).run=some q)(hok:x.ok=true)(hl:Go.EV.Left u x.ex)(hbs:(x.D 76).st.b=Qm (Xp s v row1 l1 e1))(hus:x.us=[1000002,1000003,1000004,1000005,1000006])
  (hD:Wz Tryz.prog GG 56 YV (Qm (Xp s v row1 l1 e1)) u .returned u' (Qm (Xp s v row2 l2 e2))) (hM:settle u'=.returning)
  (hU:QU GG ⟨76,(x.D 76).st.t,Qm (Xp s v row2 l2 e2),λ_=>true⟩ ((BH s v r).D 76).st) :
  QR Tryz.prog GG 24 [.agg (Hi s),.agg (JI v)] (Qm []) (stV r) (Qm []):=by
 subst hx
 have e0:U3 76 [.agg (Hi s),.agg (JI v)] (Qm [])=((TW s v).D 76).st:=(R3 (x:=TW s v) (by rfl) (by rfl) 76).symm
 have t0:=(Qkb s v).tv Q7 (r:=()) rfl (by rfl)
 have t2:=(Qks s v).tv Q7 h2 hok
 have hsh:QU GG ((FZ s v ()).D 76).st.shift ((Xj s v).D 76).st:=by
  have eT:((FZ s v ()).ts.map λp=>(p.1,H7 sh p.2))=(Xj s v).ts:=by kernel_rfl
  have eB:((FZ s v ()).bs.map λp=>(sh p.1,p.2.Qc sh))=(Xj s v).bs:=by kernel_rfl
  rw[JA,eT,eB]
  exact H9 (Xj s v) (by rfl) rfl ⟨by rfl,by rfl⟩
 have hU':QU GG ⟨76,((Sum.elim (OJ s v) (OY s v) q).D 76).st.t,Qm (Xp s v row2 l2 e2),λ_=>true⟩ ((Ru s v r).D 76).st.shift:=by
  have eT:((Ru s v r).ts.map λp=>(p.1,H7 sh p.2))=(BH s v r).ts:=by kernel_rfl
  have eB:((Ru s v r).bs.map λp=>(sh p.1,p.2.Qc sh))=(BH s v r).bs:=by kernel_rfl
  rw[JA,eT,eB,<-kV (x:=BH s v r) _ (by rfl)]
  exact hU
 have st5:R6 Tryz.prog GG #[FR,Vd] 0 ((Xj s v).D 76).st (((Xj s v).D 76).st.put (some 8) (.fn 56 [] YV)):=C0 (by rfl)
 have g0:M3 #[FR,Vd] ((Xj s v).D 76).st FR=some true:=by rfl
 have h0:A8 Tryz.prog GG FR ((Xj s v).D 76).st (((Xj s v).D 76).st.put (some 8) (.fn 56 [] YV)):=by
  unfold R6 at st5
  simp only[show (#[FR,Vd]:Array Oper)[0]?=some FR from rfl] at st5
  rcases st5 with⟨_,h⟩|⟨h,_⟩
  ·exact h
  ·rw[g0] at h;simp at h
 have gB:QU GG (((Xj s v).D 76).st.put (some 8) (.fn 56 [] YV)) ((TH s v).D 76).st:=H9 (TH s v) (by rfl) rfl ⟨by rfl,by rfl⟩
 refine Du (As:=[cL lR]) (rest:=cR (cR lR)) (rid:=1) (t:=8) (n:=76) (o0:=FR) (o1:=Vd) (caps:=YV) (insD:=Qm (Xp s v row1 l1 e1)) (outsD:=Qm (Xp s v row2 l2 e2)) (S0:=((FZ s v ()).D 76).st) (S1:=((Xj s v).D 76).st) (S2:=((Sum.elim (OJ s v) (OY s v) q).D 76).st) (Sx:=((Ru s v r).D 76).st) (u:=u) (u':=u') (M:=.returning)
  Tryz.func24 eSt (by kernel_rfl) ?_ hsh h0 g0 (by kernel_rfl) (by kernel_rfl) (by rfl) (TV.ghost gB t2) hl (λc hc=>?_) (show 8 < 76 by decide) ⟨hbs,Qql hus⟩ (by grind [Vo]) Tryz.func56 (by kernel_rfl) (by kernel_rfl) hD (λ_=>hM) (λ_ h=>by cases h) hU' (T8 (ts:=(Ru s v r).ts) (bs:=(Ru s v r).bs) (us:=(Ru s v r).us) (by rfl) (by rfl)) rfl (by grind [Qm]) (.inl ⟨rfl,rfl,by kernel_rfl,λγ w v h=>Qj.AW (γ:=γ) (γ':=γ) (by grind) h (by rfl)⟩)
 ·rw[e0]
  show TV _ _ (cL lR) _ _
  exact t0
 ·simp only[YV,zN,zR,or_false] at hc
  rcases hc with rfl|rfl|rfl
  ·exact⟨1000004,_,rfl,by decide,rfl⟩
  ·exact⟨1000005,_,rfl,by decide,rfl⟩
  ·exact⟨1000006,_,rfl,by decide,rfl⟩
def Vi(r:Q2×List Z1):TZ:=(r.1,r.2,0)
def stM(s:Q2)(v:Q8):Option TZ:=match (jA s v).run with
 | some (.inl r)=>some (Vi r)
 | some (.inr r)=>some (BP,[],r.2)
 | none=>none
theorem Qqg(s:Q2)(v:Q8){r:TZ}(h:stM s v=some r):QR Tryz.prog GG 24 [.agg (Hi s),.agg (JI v)] (Qm []) (stV r) (Qm []):=by
 unfold stM at h
 split at h
 ·rename_i q hq
  obtain rfl:=zV h
  exact Vx s v (u:=.returning) (u':=.returning) (row1:=Hi (Vi q).1) (row2:=Hi (Vi q).1) (l1:=.sl false 3 ((Vi q).2.1.map Z0.c)) (l2:=.sl false 3 ((Vi q).2.1.map Z0.c)) (e1:=(Vi q).2.2) (e2:=(Vi q).2.2) (r:=Vi q) rfl hq (by rfl) (.inl ⟨rfl,rfl⟩) rfl rfl (Qqn s v (Vi q)) rfl (H9 (BH s v (Vi q)) (by rfl) rfl ⟨by rfl,by rfl⟩)
 ·rename_i q hq
  obtain rfl:=zV h
  exact Vx s v (u:=.panicking (nJ q.1 q.2)) (u':=stU q.1 q.2) (row1:=gK) (row2:=gK) (l1:=.Qy) (l2:=.Qy) (e1:=0) (e2:=q.2) (r:=(BP,[],q.2)) rfl hq (by rfl) (.inr (.inr ⟨_,rfl,rfl⟩)) rfl rfl (Qqr s v q.1 q.2) (by cases q.1<;>rfl) (H9 (BH s v (BP,[],q.2)) (by rfl) rfl ⟨by rfl,by rfl⟩)
 ·cases h
def eR(p0:Q2)(p1:Q8):Sp TZ:=⟨24,[.agg (Hi p0),.agg (JI p1)],[],stM p0 p1,stV,λ_=>[],[],λ_ _ h=>by simp at h,λ_ h=>Qqg p0 p1 h⟩
def Q6:Ty Bool:=⟨λx=>[.bool x],λx=>[.bool x],λ_=>rfl,λ_=>rfl,λ_ _=>rfl,λ_=>rfl⟩
def zl(a b c:Nat)(f:zh):=Qh.ES (P:=Tryz.prog) (G:=GG) 289 (.tmp a) b c ⟨1,true,(List.map Q6.c (vec f))⟩ (.agg (W5 f))
def zm(a b c:Nat)(f g:zh):=Qh.Kw (P:=Tryz.prog) (G:=GG) (ty:=Q6) 289 (.tmp a) (.tmp b) c ⟨1,true,(List.map Q6.c (vec f))⟩ (.agg (W5 g)) (vec g)
def zn(a:Nat):=Qh.KM (P:=Tryz.prog) (G:=GG) (ty:=Q6) 289 a (vec (λ_=>false))
def zw(a b c d:Nat)(f:zh)(i:Int):=Qh.ZK (P:=Tryz.prog) (G:=GG) (e:=4) 289 (.tmp a) (.tmp b) c d ⟨1,true,(List.map Q6.c (vec f))⟩ 0 .i64 i 32
def Qys(p0:Int):TT ((Nat->Bool)):=.Qz 1 (zn 2) λ_=>.Qz 1001 (zn 3) λ_=>.bind 1 (.lp (λ(l688:(Nat->Bool)×Int×Int)=>Ext.of .normal [(0,.i l688.2.1),(2,.ptr 2 0 0),(3,.ptr 3 0 0),(4,.i l688.2.2)] [] [BT.of 2 Q6 1 (vec (λ_=>false)) true,BT.of 3 Q6 1 (vec l688.1) true] (by rfl)) (λl688=>.br 0 (decide ((0:Int)<=l688.2.2)) (.Qz 5005 (zw 3 9 13 3 l688.1 l688.2.2) λ_=>.row 5006 Q6 (vec l688.1) (0+l688.2.2.toNat) true λx689=>.re 5006 (Yt.Pz 3 Q6 l688.1 (0+l688.2.2.toNat) ((Int.tmod l688.2.1 2)==1)) (.done (.inl ((FA l688.1 (0+l688.2.2.toNat) ((Int.tmod l688.2.1 2)==1)),(Q0 (Int.tdiv l688.2.1 2)),(Q0 (l688.2.2 - 1)))))) (.done (.inr l688.1))) ((λ_=>false),p0,31)) (λ(e690:(Nat->Bool))=>Ext.of (.exit 0) [(2,.ptr 2 0 0),(3,.ptr 3 0 0)] [] [BT.of 2 Q6 1 (vec (λ_=>false)) true,BT.of 3 Q6 1 (vec e690) true] (by rfl)) (λe690=>.Qz 7001 (zl 3 16 3 e690) λ_=>.Qz 7002 (zm 2 16 2 (λ_=>false) e690) λ_=>.done e690)
def Iz(p0:Int):Sp ((Nat->Bool)):=oF [0,2,3,4,6] Tryz.func230 [.i p0] (Qys p0) (λr=>.agg (W5 r))
def zu(a b:Nat)(f:zh):=Qh.EH (P:=Tryz.prog) (G:=GG) (ty:=Q6) 289 (.tmp a) b (vec f)
def Qyp(p0:zh):TT (Int):=.Qz 1 (zu 0 1 p0) λ_=>.bind 1 (.lp (λ(l693:Int×Int)=>Ext.of .normal [(1,.ptr 1 0 0),(2,.i 0),(3,.i l693.1),(4,.i l693.2)] [] [BT.of 1 Q6 1 (vec p0) true] (by rfl)) (λl693=>.br 0 (decide (l693.2 < 32)) (.Qz 6002 (zw 1 11 12 1 p0 l693.2) λ_=>.row 6003 Q6 (vec p0) (0+l693.2.toNat) true λx694=>.br 0 x694 (.done (.inl ((Q0 ((Q0 ((2:Int) * l693.1))+1)),(Q0 (l693.2+1))))) (.done (.inl ((Q0 ((2:Int) * l693.1)),(Q0 (l693.2+1)))))) (.done (.inr l693.1))) (0,0)) (λ(e695:Int)=>Ext.l (.exit 0) [(2,.i 0),(3,.i e695)] []) (λe695=>.done e695)
def Gk(p0:zh):Sp (Int):=oF [0,1,2,3,4,6,13] Tryz.func232 [.agg (W5 p0)] (Qyp p0) (λr=>.int .i64 r)
def Qyn(p0:zh)(p1:Int):TT ((Nat->Bool)):=.Qz 1 (zu 0 2 p0) λ_=>.Qz 2 (zn 4) λ_=>.Qz 1001 (zn 5) λ_=>.bind 1 (.lp (λ(l699:(Nat->Bool)×Int)=>Ext.of .normal [(1,.i p1),(2,.ptr 2 0 0),(4,.ptr 4 0 0),(5,.ptr 5 0 0),(6,.i l699.2)] [] [BT.of 2 Q6 1 (vec p0) true,BT.of 4 Q6 1 (vec (λ_=>false)) true,BT.of 5 Q6 1 (vec l699.1) true] (by rfl)) (λl699=>.br 0 (decide (l699.2 < 32)) (.Qz 5006 (zw 2 15 16 2 p0 l699.2) λ_=>.row 5007 Q6 (vec p0) (0+l699.2.toNat) true λx700=>.Qz 5008 (Qh.ZK (e:=4) 289 (.tmp 5) (.tmp 14) 18 5 ⟨1,true,(List.map Q6.c (vec l699.1))⟩ 0 .i64 (Int.tmod (Q0 (l699.2+p1)) 32) 32) λ_=>.row 5009 Q6 (vec l699.1) (0+(Int.tmod (Q0 (l699.2+p1)) 32).toNat) true λx701=>.re 5009 (Yt.Pz 5 Q6 l699.1 (0+(Int.tmod (Q0 (l699.2+p1)) 32).toNat) x700) (.done (.inl ((FA l699.1 (0+(Int.tmod (Q0 (l699.2+p1)) 32).toNat) x700),(Q0 (l699.2+1)))))) (.done (.inr l699.1))) ((λ_=>false),0)) (λ(e702:(Nat->Bool))=>Ext.of (.exit 0) [(4,.ptr 4 0 0),(5,.ptr 5 0 0)] [] [BT.of 4 Q6 1 (vec (λ_=>false)) true,BT.of 5 Q6 1 (vec e702) true] (by rfl)) (λe702=>.Qz 6001 (zl 5 19 5 e702) λ_=>.Qz 6002 (zm 4 19 4 (λ_=>false) e702) λ_=>.done e702)
def Di(p0:zh)(p1:Int):Sp ((Nat->Bool)):=oF [0,1,2,4,5,6,8] Tryz.func234 [.agg (W5 p0),.i p1] (Qyn p0 p1) (λr=>.agg (W5 r))
def Qyg(p0:zh)(p1:Int):TT ((Nat->Bool)):=.Qz 1 (zu 0 2 p0) λ_=>.Qz 2 (zn 4) λ_=>.Qz 1001 (zn 5) λ_=>.bind 1 (.lp (λ(l706:(Nat->Bool)×Int)=>Ext.of .normal [(1,.i p1),(2,.ptr 2 0 0),(4,.ptr 4 0 0),(5,.ptr 5 0 0),(6,.i l706.2)] [] [BT.of 2 Q6 1 (vec p0) true,BT.of 4 Q6 1 (vec (λ_=>false)) true,BT.of 5 Q6 1 (vec l706.1) true] (by rfl)) (λl706=>.br 0 (decide ((Q0 (l706.2+p1)) < 32)) (.Qz 5005 (zw 2 16 17 2 p0 l706.2) λ_=>.row 5006 Q6 (vec p0) (0+l706.2.toNat) true λx707=>.Qz 5007 (Qh.ZK (e:=4) 289 (.tmp 5) (.tmp 15) 19 5 ⟨1,true,(List.map Q6.c (vec l706.1))⟩ 0 .i64 (Q0 (l706.2+p1)) 32) λ_=>.row 5008 Q6 (vec l706.1) (0+(Q0 (l706.2+p1)).toNat) true λx708=>.re 5008 (Yt.Pz 5 Q6 l706.1 (0+(Q0 (l706.2+p1)).toNat) x707) (.done (.inl ((FA l706.1 (0+(Q0 (l706.2+p1)).toNat) x707),(Q0 (l706.2+1)))))) (.done (.inr l706.1))) ((λ_=>false),0)) (λ(e709:(Nat->Bool))=>Ext.of (.exit 0) [(4,.ptr 4 0 0),(5,.ptr 5 0 0)] [] [BT.of 4 Q6 1 (vec (λ_=>false)) true,BT.of 5 Q6 1 (vec e709) true] (by rfl)) (λe709=>.Qz 6001 (zl 5 20 5 e709) λ_=>.Qz 6002 (zm 4 20 4 (λ_=>false) e709) λ_=>.done e709)
def eS(p0:zh)(p1:Int):Sp ((Nat->Bool)):=oF [0,1,2,4,5,6,10] Tryz.func235 [.agg (W5 p0),.i p1] (Qyg p0 p1) (λr=>.agg (W5 r))
def Qyf(p0 p1:zh):TT ((Nat->Bool)):=.Qz 1 (zu 0 2 p0) λ_=>.Qz 2 (zu 1 3 p1) λ_=>.Qz 3 (zn 4) λ_=>.Qz 1001 (zn 5) λ_=>.bind 1 (.lp (λ(l714:(Nat->Bool)×Int)=>Ext.of .normal [(2,.ptr 2 0 0),(3,.ptr 3 0 0),(4,.ptr 4 0 0),(5,.ptr 5 0 0),(6,.i l714.2)] [] [BT.of 2 Q6 1 (vec p0) true,BT.of 3 Q6 1 (vec p1) true,BT.of 4 Q6 1 (vec (λ_=>false)) true,BT.of 5 Q6 1 (vec l714.1) true] (by rfl)) (λl714=>.br 0 (decide (l714.2 < 32)) (.Qz 5003 (zw 2 12 13 2 p0 l714.2) λ_=>.row 5004 Q6 (vec p0) (0+l714.2.toNat) true λx715=>.Qz 5006 (zw 3 15 16 3 p1 l714.2) λ_=>.row 5007 Q6 (vec p1) (0+l714.2.toNat) true λx716=>.Qz 5009 (zw 5 11 19 5 l714.1 l714.2) λ_=>.row 5010 Q6 (vec l714.1) (0+l714.2.toNat) true λx717=>.re 5010 (Yt.Pz 5 Q6 l714.1 (0+l714.2.toNat) (!(x715==x716))) (.done (.inl ((FA l714.1 (0+l714.2.toNat) (!(x715==x716))),(Q0 (l714.2+1)))))) (.done (.inr l714.1))) ((λ_=>false),0)) (λ(e718:(Nat->Bool))=>Ext.of (.exit 0) [(4,.ptr 4 0 0),(5,.ptr 5 0 0)] [] [BT.of 4 Q6 1 (vec (λ_=>false)) true,BT.of 5 Q6 1 (vec e718) true] (by rfl)) (λe718=>.Qz 6001 (zl 5 20 5 e718) λ_=>.Qz 6002 (zm 4 20 4 (λ_=>false) e718) λ_=>.done e718)
def BB(p0 p1:zh):Sp ((Nat->Bool)):=oF [0,1,2,3,4,5,6,8] Tryz.func236 [.agg (W5 p0),.agg (W5 p1)] (Qyf p0 p1) (λr=>.agg (W5 r))
def Qyl(p0 p1:zh):TT ((Nat->Bool)):=.Qz 1 (zu 0 2 p0) λ_=>.Qz 2 (zu 1 3 p1) λ_=>.Qz 3 (zn 4) λ_=>.Qz 1001 (zn 5) λ_=>.bind 1 (.lp (λ(l724:(Nat->Bool)×Int)=>Ext.of .normal [(2,.ptr 2 0 0),(3,.ptr 3 0 0),(4,.ptr 4 0 0),(5,.ptr 5 0 0),(6,.i l724.2)] [] [BT.of 2 Q6 1 (vec p0) true,BT.of 3 Q6 1 (vec p1) true,BT.of 4 Q6 1 (vec (λ_=>false)) true,BT.of 5 Q6 1 (vec l724.1) true] (by rfl)) (λl724=>.br 0 (decide (l724.2 < 32)) (.Qz 5003 (zw 2 12 13 2 p0 l724.2) λ_=>.row 5004 Q6 (vec p0) (0+l724.2.toNat) true λx725=>.br 5006 x725 (.Qz 5007 (zw 3 16 17 3 p1 l724.2) λ_=>.row 5008 Q6 (vec p1) (0+l724.2.toNat) true λx726=>.Qz 5010 (zw 5 11 20 5 l724.1 l724.2) λ_=>.row 5011 Q6 (vec l724.1) (0+l724.2.toNat) true λx727=>.re 5011 (Yt.Pz 5 Q6 l724.1 (0+l724.2.toNat) x726) (.done (.inl ((FA l724.1 (0+l724.2.toNat) x726),(Q0 (l724.2+1)))))) (.Qz 5010 (zw 5 11 20 5 l724.1 l724.2) λ_=>.row 5011 Q6 (vec l724.1) (0+l724.2.toNat) true λx728=>.re 5011 (Yt.Pz 5 Q6 l724.1 (0+l724.2.toNat) false) (.done (.inl ((FA l724.1 (0+l724.2.toNat) false),(Q0 (l724.2+1))))))) (.done (.inr l724.1))) ((λ_=>false),0)) (λ(e729:(Nat->Bool))=>Ext.of (.exit 0) [(4,.ptr 4 0 0),(5,.ptr 5 0 0)] [] [BT.of 4 Q6 1 (vec (λ_=>false)) true,BT.of 5 Q6 1 (vec e729) true] (by rfl)) (λe729=>.Qz 6001 (zl 5 21 5 e729) λ_=>.Qz 6002 (zm 4 21 4 (λ_=>false) e729) λ_=>.done e729)
def Gw(p0 p1:zh):Sp ((Nat->Bool)):=oF [0,1,2,3,4,5,6,8] Tryz.func237 [.agg (W5 p0),.agg (W5 p1)] (Qyl p0 p1) (λr=>.agg (W5 r))
def Qyo(p0:zh):TT ((Nat->Bool)):=.Qz 1 (zu 0 1 p0) λ_=>.Qz 2 (zn 2) λ_=>.Qz 1001 (zn 3) λ_=>.bind 1 (.lp (λ(l733:(Nat->Bool)×Int)=>Ext.of .normal [(1,.ptr 1 0 0),(2,.ptr 2 0 0),(3,.ptr 3 0 0),(4,.i l733.2)] [] [BT.of 1 Q6 1 (vec p0) true,BT.of 2 Q6 1 (vec (λ_=>false)) true,BT.of 3 Q6 1 (vec l733.1) true] (by rfl)) (λl733=>.br 0 (decide (l733.2 < 32)) (.Qz 5003 (zw 1 10 11 1 p0 l733.2) λ_=>.row 5004 Q6 (vec p0) (0+l733.2.toNat) true λx734=>.Qz 5006 (zw 3 9 14 3 l733.1 l733.2) λ_=>.row 5007 Q6 (vec l733.1) (0+l733.2.toNat) true λx735=>.re 5007 (Yt.Pz 3 Q6 l733.1 (0+l733.2.toNat) (!x734)) (.done (.inl ((FA l733.1 (0+l733.2.toNat) (!x734)),(Q0 (l733.2+1)))))) (.done (.inr l733.1))) ((λ_=>false),0)) (λ(e736:(Nat->Bool))=>Ext.of (.exit 0) [(2,.ptr 2 0 0),(3,.ptr 3 0 0)] [] [BT.of 2 Q6 1 (vec (λ_=>false)) true,BT.of 3 Q6 1 (vec e736) true] (by rfl)) (λe736=>.Qz 6001 (zl 3 15 3 e736) λ_=>.Qz 6002 (zm 2 15 2 (λ_=>false) e736) λ_=>.done e736)
def eP(p0:zh):Sp ((Nat->Bool)):=oF [0,1,2,3,4,6] Tryz.func238 [.agg (W5 p0)] (Qyo p0) (λr=>.agg (W5 r))
def Qyr(p0 p1 p2:zh):TT ((Nat->Bool)):=.Qz 1 (zu 0 3 p0) λ_=>.Qz 2 (zu 1 4 p1) λ_=>.Qz 3 (zu 2 5 p2) λ_=>.Qz 4 (zn 6) λ_=>.Qz 1001 (zl 3 7 3 p0) λ_=>.Qz 1002 (zl 4 8 4 p1) λ_=>.cl 1003 (BB p0 p1) λr737=>.Qz 1004 (zl 5 10 5 p2) λ_=>.cl 1005 (BB r737 p2) λr738=>.Qz 1006 (zm 6 11 6 (λ_=>false) r738) λ_=>.done r738
def RU(p0 p1 p2:zh):Sp ((Nat->Bool)):=oF [0,1,2,3,4,5,6] Tryz.func233 [.agg (W5 p0),.agg (W5 p1),.agg (W5 p2)] (Qyr p0 p1 p2) (λr=>.agg (W5 r))
def Dl(p0 p1 p2 p3 p4:Int):Sp (Int):=oF [0,1,2,3,4,10] Tryz.func231 [.i p0,.i p1,.i p2,.i p3,.i p4] (.done (Int.tmod (Q0 ((Q0 ((Q0 ((Q0 (p0+p1))+p2))+p3))+p4)) 4294967296):TT (Int)) (λr=>.int .i64 r)
end Go.Proofs.YtjdieimefebnfaaGreatDoor
