/- Guides and contracts, printed by a program. Guides and contracts, printed by a program. Guides and contracts, printed by a program. The table of a ha ..; no conditions. -/
import Derived.Test.YtjdieimefebnfaaGreatDoorK9
import Derived.Test.YtjdieimefebnfaaGreatDoorK6
import Derived.Test.YtjdieimefebnfaaGreatDoorK7
import Derived.KernelRfl
set_option linter.unusedVariables false
set_option linter.unusedSimpArgs false
set_option maxRecDepth 100000
noncomputable section
namespace Go.Proofs.YtjdieimefebnfaaGreatDoor
open Go Go.EV
structure H2 where
 JF:Int
 Zv:Int
 YQ:Int
 JG:Int
 ZT:Int
 QB:Int
 Dq:Int
 KJ:Bool
structure U1 where
 fB:za
 fQ:za
 fh:za
structure Q4 where
 fF:Int
 fw:Int
 fj:Int
 gc:za
 fh:za
 fX:za
 fB:za
 fZ:za
 ft:(List za)
 fm:Int
 fE:za
 fk:U1
 fI:za
 fo:(List Qq)
 fC:Z7
 gd:Int
structure Q9 where
 fc:Q4
 QY:za
 QL:(List Qq)
def F1:Ty H2:=⟨λx=>[.i x.JF,.i x.Zv,.i x.YQ,.i x.JG,.i x.ZT,.i x.QB,.i x.Dq,.bool x.KJ],λx=>[.i x.JF,.i x.Zv,.i x.YQ,.i x.JG,.i x.ZT,.i x.QB,.i x.Dq,.bool x.KJ],λ_=>rfl,λ_=>rfl,λ_ _=>rfl,λ_=>rfl⟩
def Z0:Ty Qq:=⟨λx=>[.i x.fp,.i x.fR,.str x.fe],λx=>[.i x.fp,.i x.fR,.str x.fe],λ_=>rfl,λ_=>rfl,λ_ _=>rfl,λ_=>rfl⟩
def J4(s:Q4):List V:=[.int .i64 s.fF,.int .i64 s.fw,.int .i64 s.fj,.str s.gc,.str s.fh,.str s.fX,.str s.fB,.str s.fZ,.sl false 1 (List.map Z2.c s.ft),.int .i64 s.fm,.str s.fE,.str s.fk.fB,.str s.fk.fQ,.str s.fk.fh,.str s.fI,.sl false 3 (List.map Z0.c s.fo),.int .i64 s.fC.fq,.int .i64 s.fC.fV,.int .i64 s.fC.fM,.int .i64 s.gd]
def X6(m:Q9):List V:=H0 (J4 m.fc) [.str m.QY,.sl false 3 (List.map Z0.c m.QL)]
def Qjr(p0:za):TT (Bool):=.done ((p0.size:Int) != 32)
def rF(p0:za):Sp (Bool):=oF [0,2] Tryz.func172 [.str p0] (Qjr p0) (λr=>.bool r)
def jR(p0:List za):TT (Int):=.QM 1 (.lp (λ(l505:Int)=>Ext.l .normal [(0,Sl 1 Z2 p0),(1,.fn 172 [] []),(4,.i 0),(7,.i (M9 Z2 p0)),(8,.i l505)] []) (λl505=>.br 0 (decide (l505 < (M9 Z2 p0))) (.row 4004 Z2 p0 l505.toNat (decide (0<=l505)) λx506=>.cl 4006 (rF x506) λr507=>.br 0 r507 (.done (.inr (.inl l505))) (.done (.inl (Q0 (l505+1))))) (.done (.inr (.inr ())))) 0) (λ(e508:Int)=>Ext.l .ret [(4,.i e508)] []) (λ(e509:Unit)=>Ext.l (.exit 0) [(4,.i 0)] []) (λe508=>.done e508) (λe509=>.done (-1))
def RD(p0:List za):Sp (Int):=oF [0,1,4,5,7,8,9,16] Tryz.func173 [Sl 1 Z2 p0,.fn 172 [] []] (jR p0) (λr=>.int .i64 r)
def jB(p0:List za):TT (Bool):=.cl 1003 (RD p0) λr510=>.done (decide ((0:Int)<=r510))
def RG(p0:List za):Sp (Bool):=oF [0,1,4] Tryz.func114 [Sl 1 Z2 p0,.fn 172 [] []] (jB p0) (λr=>.bool r)
def Quv(p0:List za):TT (Bool):=.cl 1002 (RG p0) λr511=>.done (!r511)
def Cd(p0:List za):Sp (Bool):=oF [0,2] Tryz.func113 [Sl 1 Z2 p0] (Quv p0) (λr=>.bool r)
def Qkq :Sp ((List H2)):=oF [0] Tryz.func121 [] (.gh 0 (.share (QE.o 12 F1 [(H2.mk 1 1 0 0 0 0 0 false),(H2.mk 2 1 0 0 0 0 0 false),(H2.mk 2 1 1 6 0 0 2 false),(H2.mk 1 2 1 1 0 0 1 true),(H2.mk 1 3 2 7 100 0 1 true),(H2.mk 2 4 1 7 168 1 3 true),(H2.mk 1 5 3 8 204 2 4 true),(H2.mk 1 6 3 8 240 2 0 false),(H2.mk 2 6 2 8 240 2 5 false),(H2.mk 1 7 0 8 0 0 0 false),(H2.mk 2 7 0 8 0 0 0 false)]) 0) (.done [(H2.mk 1 1 0 0 0 0 0 false),(H2.mk 2 1 0 0 0 0 0 false),(H2.mk 2 1 1 6 0 0 2 false),(H2.mk 1 2 1 1 0 0 1 true),(H2.mk 1 3 2 7 100 0 1 true),(H2.mk 2 4 1 7 168 1 3 true),(H2.mk 1 5 3 8 204 2 4 true),(H2.mk 1 6 3 8 240 2 0 false),(H2.mk 2 6 2 8 240 2 5 false),(H2.mk 1 7 0 8 0 0 0 false),(H2.mk 2 7 0 8 0 0 0 false)]):TT ((List H2))) (λr=>Sl 8 F1 r)
def s66 :Sp (Z7):=oF [0] Tryz.func66 [] (.done (Z7.mk (-1) 0 0):TT (Z7)) (λr=>.agg [.int .i64 r.fq,.int .i64 r.fV,.int .i64 r.fM])
def Qub(p0:za):TT (Int):=.cl 1002 (Lz p0) λr517=>.br 0 (!r517) (.done 5) (.done 0)
def pN(p0:za):Sp (Int):=oF [0,2,5] Tryz.func116 [.str p0] (Qub p0) (λr=>.int .i64 r)
def Quc(p0:za):TT (Bool):=.cl 1002 (pN p0) λr518=>.done (r518 != 0)
def pR(p0:za):Sp (Bool):=oF [0,2] Tryz.func115 [.str p0] (Quc p0) (λr=>.bool r)
def jN(p0:List za):TT (Int):=.QM 1 (.lp (λ(l520:Int)=>Ext.l .normal [(0,Sl 1 Z2 p0),(1,.fn 115 [] []),(4,.i 0),(7,.i (M9 Z2 p0)),(8,.i l520)] []) (λl520=>.br 0 (decide (l520 < (M9 Z2 p0))) (.row 4004 Z2 p0 l520.toNat (decide (0<=l520)) λx521=>.cl 4006 (pR x521) λr522=>.br 0 r522 (.done (.inr (.inl l520))) (.done (.inl (Q0 (l520+1))))) (.done (.inr (.inr ())))) 0) (λ(e523:Int)=>Ext.l .ret [(4,.i e523)] []) (λ(e524:Unit)=>Ext.l (.exit 0) [(4,.i 0)] []) (λe523=>.done e523) (λe524=>.done (-1))
def RE(p0:List za):Sp (Int):=oF [0,1,4,5,7,8,9,16] Tryz.func173 [Sl 1 Z2 p0,.fn 115 [] []] (jN p0) (λr=>.int .i64 r)
def jS(p0:List za):TT (Bool):=.cl 1003 (RE p0) λr525=>.done (decide ((0:Int)<=r525))
def RL(p0:List za):Sp (Bool):=oF [0,1,4] Tryz.func114 [Sl 1 Z2 p0,.fn 115 [] []] (jS p0) (λr=>.bool r)
def Qjg(p0:List Int)(p1:Int):TT (Int):=.QM 1 (.lp (λ(l534:Int)=>Ext.l .normal [(0,Sl 1 Q5 p0),(1,.i p1),(4,.i 0),(7,.i (M9 Q5 p0)),(8,.i l534)] []) (λl534=>.br 0 (decide (l534 < (M9 Q5 p0))) (.row 4004 Q5 p0 l534.toNat (decide (0<=l534)) λx535=>.br 0 (p1==x535) (.done (.inr (.inl l534))) (.done (.inl (Q0 (l534+1))))) (.done (.inr (.inr ())))) 0) (λ(e536:Int)=>Ext.l .ret [(4,.i e536)] []) (λ(e537:Unit)=>Ext.l (.exit 0) [(4,.i 0)] []) (λe536=>.done e536) (λe537=>.done (-1))
def rI(p0:List Int)(p1:Int):Sp (Int):=oF [0,1,4,5,7,8,9,16] Tryz.func176 [Sl 1 Q5 p0,.i p1] (Qjg p0 p1) (λr=>.int .i64 r)
def Qur(p0:List Int)(p1:Int):TT (Bool):=.cl 1003 (rI p0 p1) λr538=>.done (decide ((0:Int)<=r538))
def pG(p0:List Int)(p1:Int):Sp (Bool):=oF [0,1,4] Tryz.func119 [Sl 1 Q5 p0,.i p1] (Qur p0 p1) (λr=>.bool r)
def Qjl(p0:Q9)(p1:H2):TT (Int):=.br 0 (p1.QB==1) (.done (Q0 (p1.ZT+(p0.fc.fh.size:Int)))) (.br 0 (p1.QB==2) (.done (Q0 ((Q0 (p1.ZT+(p0.fc.fh.size:Int)))+(p0.fc.fk.fh.size:Int)))) (.done p1.ZT))
def rX(p0:Q9)(p1:H2):Sp (Int):=oF [0,1,3,4,6,7,18] Tryz.func178 [.snap (X6 p0),.agg (F1.c p1)] (Qjl p0 p1) (λr=>.int .i64 r)
def Qug(p0:Q9)(p1:H2):TT (Bool):=.QD 1 [67] (.oR 1010 (p0.fc.fF != p1.JF) (.oR 1020 (p0.fc.fw != p1.Zv) (.oR 1030 (decide (p0.fc.fm < p1.YQ)) (.oR 1040 (decide (p1.JG < p0.fc.fm)) (.cl 1048 (rX p0 p1) λr543=>.oR 1052 ((p0.fc.fE.size:Int) != r543) (.done (!(p1.KJ==(decide ((0:Int)<=p0.fc.fC.fq)))))))))) zi λc544=>.br 0 c544 (.done false) (.bind 0 (.br 0 (p1.QB==0) (.QD 7 [5] (.an 7009 ((decide (p0.fc.fk.fB=zd))&&((decide (p0.fc.fk.fQ=zd))&&((decide (p0.fc.fk.fh=zd))&&true))) (.done (decide (p0.fc.fI=zd)))) zi λc545=>.done c545) (.br 0 (p1.QB==1) (.QD 9 [5] (.view 9014 (Cd [p0.fc.fk.fB,p0.fc.fk.fQ]) [] λr546=>.an 9016 r546 (.an 9025 (decide (p0.fc.fk.fh=zd)) (.done (decide (p0.fc.fI=zd))))) zi λc547=>.done c547) (.QD 5 [5] (.view 5019 (Cd [p0.fc.fk.fB,p0.fc.fk.fQ,p0.fc.fI]) [] λr548=>.an 5021 r548 (.cl 5027 (dF p0.fc.fk.fh) λr549=>.done r549)) zi λc550=>.done c550))) (λ(e551:Bool)=>Ext.l .normal [(0,.snap (X6 p0)),(3,.ptr 3 0 0),(4,.bool false),(5,.bool e551)] [(3,⟨8,true,[(F1.c p1)]⟩)]) (λe551=>.br 0 (p1.Dq==0) (.QD 11 [4] (.an 11003 e551 (.done ((M9 Z0 p0.fc.fo)==0))) zi λc552=>.done c552) (.QD 12 [4] (.an 12003 e551 (.an 12012 ((M9 Z0 p0.fc.fo)==1) (.row 12017 Z0 p0.fc.fo 0 true λx553=>.cl 12019 (s58 x553) λr554=>.an 12023 (r554==0) (.row 12028 Z0 p0.fc.fo 0 true λx555=>.an 12036 (x555.fp==p1.Dq) (.row 12041 Z0 p0.fc.fo 0 true λx556=>.done (x556.fR==(Q0 (p0.fc.fm - 1)))))))) zi λc557=>.done c557)))
def pL(p0:Q9)(p1:H2):Sp (Bool):=oF [0,1,3,4,5,67,69,98,115,150] Tryz.func122 [.snap (X6 p0),.agg (F1.c p1)] (Qug p0 p1) (λr=>.bool r)
def Qjf(p0:List H2)(p1:Q9):TT (Int):=.QM 1 (.lp (λ(l559:Int)=>Ext.l .normal [(0,Sl 8 F1 p0),(1,.fn 122 [.snap (X6 p1)] []),(4,.i 0),(7,.i (M9 F1 p0)),(8,.i l559)] []) (λl559=>.br 0 (decide (l559 < (M9 F1 p0))) (.row 4004 F1 p0 l559.toNat (decide (0<=l559)) λx560=>.cl 4006 (pL p1 x560) λr561=>.br 0 r561 (.done (.inr (.inl l559))) (.done (.inl (Q0 (l559+1))))) (.done (.inr (.inr ())))) 0) (λ(e562:Int)=>Ext.l .ret [(4,.i e562)] []) (λ(e563:Unit)=>Ext.l (.exit 0) [(4,.i 0)] []) (λe562=>.done e562) (λe563=>.done (-1))
def rA(p0:List H2)(p1:Q9):Sp (Int):=oF [0,1,4,5,7,8,9,16] Tryz.func177 [Sl 8 F1 p0,.fn 122 [.snap (X6 p1)] []] (Qjf p0 p1) (λr=>.int .i64 r)
def Qun(p0:List H2)(p1:Q9):TT (Bool):=.cl 1003 (rA p0 p1) λr564=>.done (decide ((0:Int)<=r564))
def pF(p0:List H2)(p1:Q9):Sp (Bool):=oF [0,1,4] Tryz.func120 [Sl 8 F1 p0,.fn 122 [.snap (X6 p1)] []] (Qun p0 p1) (λr=>.bool r)
def g65(p0:Q9):TT (Bool):=.bind 0 (.br 0 (p0.fc.fF==2) (.view 3007 (Cd [p0.fc.fZ]) [] λr512=>.done r512) (.done (decide (p0.fc.fZ=zd)))) (λ(e513:Bool)=>Ext.l .normal [(0,.snap (X6 p0)),(2,.bool false),(3,.bool e513)] []) (λe513=>.bind 0 (.br 0 (p0.fc.fw==7) (.gh 0 (.Qc 33 600014) (.done [2,4,6,9,10])) (.gh 0 (.Qc 26 600014) (.done [0]))) (λ(e514:(List Int))=>Ext.of .normal [(0,.snap (X6 p0)),(2,.bool false),(3,.bool e513),(4,Rf 600014 e514)] [] [Bt 600014 Q5 1 e514] (by rfl)) (λe514=>.QD 7 [5] (.an 7009 (decide ((M9 Z2 p0.fc.ft)<=8)) (.cl 7014 (RL p0.fc.ft) λr526=>.done (!r526))) zi λc527=>.QD 8 [6] (.an 8008 (decide ((0:Int)<=p0.fc.fj)) (.an 8016 (decide (p0.fc.fj<=1099511627776)) (.view 8032 (Cd [p0.fc.gc,p0.fc.fX,p0.fc.fB]) [] λr528=>.an 8035 r528 (.an 8038 e513 (.an 8041 c527 (.cl 8046 (dF p0.fc.fh) λr529=>.done r529)))))) zi λc530=>.QD 9 [2] (.an 9003 c530 (.cl 9008 (dO p0.fc.fC) λr531=>.an 9012 (r531==0) (.view 9018 (pG e514 p0.fc.gd) [(QE.o 600014 Q5 e514)] λr539=>.an 9021 r539 (.cl 9021 Qkq λr540=>.cl 9024 (pF r540 p0) λr565=>.done r565)))) zi λc566=>.done c566))
def s65(p0:Q9):Sp (Bool):=oF [0,2,3,4,5,6,18,32] Tryz.func65 [.snap (X6 p0)] (g65 p0) (λr=>.bool r)
def g28(p0:Q4):TT (Int):=.gh 4 (.tell 3 [(H0 (J4 p0) [.str zd,.sl false 3 (List.map Z0.c [])])]) (.view 2001 (s65 (Q9.mk p0 zd [])) [] λr512=>.br 0 (!r512) (.done 200) (.done 0))
def s28(p0:Q4):Sp (Int):=oF [0,1,2,3,7] Tryz.func28 [.agg (J4 p0)] (g28 p0) (λr=>.int .i64 r)
def g60(p0:List za):TT Unit:=.app 3003 Z2 [] p0 16 true (by intros;rfl) (.done ())
theorem Qmc:Y1 Tryz.prog GG [2] 8 (MM Tryz.f60.body) (Ext.l .normal [(2,.Qj)] []) (.done ():TT Unit) (λ_=>Ext.l .ret [(2,.Qj)] []):=by unfold Y1;kernel_rfl
theorem Qmt(p0:List za):Y1 Tryz.prog GG [0,2,5,6,7] 8 (WQ Tryz.f60.body) (Ext.l .normal [(0,.sl false 1 (List.map Z2.c p0)),(2,.Qj)] []) (g60 p0) (λ_=>Ext.of .ret [(2,.ref 7 0 ([]++p0).length)] [] [BT.of 7 Z2 1 ([]++p0)] (by rfl)):=by unfold Y1;kernel_rfl
theorem k60(p0:(List za)){r:Unit}(h:(g60 p0).run=some r):QR Tryz.prog GG 60 [.sl false 1 (List.map Z2.c p0)] (Qe []) (.ref 7 0 p0.length) (Qe [(7,⟨1,true,List.map Z2.c p0⟩)]):=
 Ng (ty:=Z2) (ops0:=Oo Tryz.f60.body) (ops1:=Oi Tryz.f60.body) (yes:=MM Tryz.f60.body) (rest:=WQ Tryz.f60.body) (t:=40) Q8 (by decide) Tryz.func60 (by kernel_rfl) (by kernel_rfl) (by kernel_rfl) (by kernel_rfl) (by kernel_rfl) (by kernel_rfl) (by kernel_rfl) (by kernel_rfl) (by kernel_rfl) Qmc (Qmt p0) (by rfl) h
def s60(p0:List za):Sp Unit:=⟨60,[Sl 1 Z2 p0],[],(g60 p0).run,λ_=>Rf 7 p0,λ_=>[(7,⟨1,true,List.map Z2.c p0⟩)],[7],λ_ p hp _=>by rw[wm.1 hp];exact Z2.data _,λ_ h=>k60 p0 h⟩
def g30(p0:Int)(p1 p2 p3 p4 p5:za)(p6:List za)(p7:Int):TT (Q4×Int):=.call 1009 (s60 p6) [] [(7,500015)] λr513=>.cl 1010 s66 λr514=>.view 2002 (s28 (Q4.mk p0 1 p7 p1 p2 p3 p4 p5 p6 0 zd (U1.mk zd zd zd) zd [] r514 0)) [(QE.o 500015 Z2 p6)] λr515=>.br 0 (r515 != 0) (.done ((Q4.mk 0 0 0 zd zd zd zd zd [] 0 zd (U1.mk zd zd zd) zd [] (Z7.mk 0 0 0) 0),2)) (.cl 4002 (s46 p2) λr516=>.cl 5002 (s67 p1) λr517=>.QD 6 [55] (.oR 6004 (r517.2 != 0) (.done (!decide (r517.1=r516.1.fL)))) zi λc518=>.br 0 c518 (.done ((Q4.mk 0 0 0 zd zd zd zd zd [] 0 zd (U1.mk zd zd zd) zd [] (Z7.mk 0 0 0) 0),2)) (.gh 0 (.share (QE.o 500015 Z2 p6) 1) (.done ((Q4.mk p0 1 p7 p1 p2 p3 p4 p5 p6 0 zd (U1.mk zd zd zd) zd [] r514 0),0))))
def s30(p0:Int)(p1 p2 p3 p4 p5:za)(p6:List za)(p7:Int):Sp (Q4×Int):=oF [0,1,2,3,4,5,6,7,16,17,18,19,21,22,36,55] Tryz.func30 [.i p0,.str p1,.str p2,.str p3,.str p4,.str p5,Sl 1 Z2 p6,.i p7] (g30 p0 p1 p2 p3 p4 p5 p6 p7) (λr=>.Qt [.agg (J4 r.1),.i r.2])
def Oq(p:Q9):List V:=(X6 p)
def s57(p0:Bool)(p1:Int):Sp (Unit):=oF [0,1,5] Tryz.func57 [.bool p0,.i p1] (.br 0 (!p0) (.fail) (.done ()):TT (Unit)) (λr=>.Qt [])
def Qj2(p0:za)(p1:Int):TT (za):=.cl 1004 (s57 (p1==0) p1) λr521=>.done p0
def Lq(p0:za)(p1:Int):Sp (za):=oF [0,1,4] Tryz.func213 [.str p0,.i p1] (Qj2 p0 p1) (λr=>.str r)
def tG(p0:Q9):TT (za):=.cl 1006 (s67 p0.fc.fX) λr520=>.cl 1009 (Lq r520.1 r520.2) λr522=>.done r522
def VW(p0:Q9):Sp (za):=oF [0,2] Tryz.func160 [.snap (X6 p0)] (tG p0) (λr=>.str r)
def Qj4(p0:Z7)(p1:Int):TT (Z7):=.cl 1004 (s57 (p1==0) p1) λr527=>.done p0
def nV(p0:Z7)(p1:Int):Sp (Z7):=oF [0,1,2,4] Tryz.func211 [.agg [.i p0.fq,.i p0.fV,.i p0.fM],.i p1] (Qj4 p0 p1) (λr=>.agg [.i r.fq,.i r.fV,.i r.fM])
def tN(p0 p1:Int)(p2:za)(p3:Q9):TT (Int×Int×Int×Int×(List Qq)):=.cl 3002 s66 λr524=>.QD 4 [54] (.an 4004 (p0 != 1) (.done (p0 != 6))) zi λc525=>.br 0 c525 (.cl 5007 (nT p3.fc.fj) λr526=>.cl 5010 (nV r526.1 r526.2) λr528=>.gh 0 (.share (QE.o 30 Z0 [(Qq.mk p1 p3.fc.fm p2)]) 0) (.gh 0 (.share (QE.o 32 Z0 [(Qq.mk p1 p3.fc.fm p2)]) 0) (.done (r528.fq,r528.fV,r528.fM,(Q0 (p3.fc.fm+1)),[(Qq.mk p1 p3.fc.fm p2)])))) (.gh 0 (.share (QE.o 30 Z0 [(Qq.mk p1 p3.fc.fm p2)]) 0) (.gh 0 (.share (QE.o 32 Z0 [(Qq.mk p1 p3.fc.fm p2)]) 0) (.done (r524.fq,r524.fV,r524.fM,(Q0 (p3.fc.fm+1)),[(Qq.mk p1 p3.fc.fm p2)]))))
def Ly(p0 p1:Int)(p2:za)(p3:Q9):Sp (Int×Int×Int×Int×(List Qq)):=.ZR 159 [] Q8 Tryz.func159 rfl (λ_=>rfl) (show WE Pg GG [0,1,2,3,8,9,54] Tryz.f159 [.ptr zA 0 0,.i p0,.i p1,.str p2] (Ext.of .normal (H3 [.ptr zA 0 0,.i p0,.i p1,.str p2]) [(zA,⟨22,true,[(X6 p3)]⟩)] [] (by rfl)) (tN p0 p1 p2 p3) (λ(r:Int×Int×Int×Int×(List Qq))=>.agg [.i p1,.i p3.fc.fm,.str p2]) (λ(r:Int×Int×Int×Int×(List Qq))=>Ext.of .normal [] [(zA,⟨22,true,[(X6 { p3 with fc:={ p3.fc with fw:=p0,fm:=r.2.2.2.1,fo:=r.q,fC:=⟨r.1,r.2.1,r.2.2.1⟩ },QL:=r.q })]⟩)] [] (by rfl)) by unfold WE;kernel_rfl)
def tT(p0:Q9):TT (Int×Int×(List Qq)×Int×Int×Int):=.view 8 (VW p0) [] λr523=>.Qd 9 (decide (p0.fc.fB.size+r523.size<=9223372036854775807)) (.call 10 (Ly 2 1 (p0.fc.fB++r523) p0) [(zA,zA)] [] λr529=>.done (2,r529.2.2.2.1,r529.q,r529.1,r529.2.1,r529.2.2.1))
def Qz4(p0:Q9):Sp (Int×Int×(List Qq)×Int×Int×Int):=.ZR 106 [] Q8 Tryz.func106 rfl (λ_=>rfl) (show WE Pg GG [0] Tryz.f106 [.ptr zA 0 0] (Ext.of .normal (H3 [.ptr zA 0 0]) [(zA,⟨22,true,[(X6 p0)]⟩)] [] (by rfl)) (tT p0) (λ(r:Int×Int×(List Qq)×Int×Int×Int)=>.Qt []) (λ(r:Int×Int×(List Qq)×Int×Int×Int)=>Ext.of .normal [] [(zA,⟨22,true,[(X6 { p0 with fc:={ p0.fc with fw:=r.1,fm:=r.2.1,fo:=r.2.2.1,fC:=⟨r.2.2.2.1,r.q.1,r.q.2⟩ },QL:=r.2.2.1 })]⟩)] [] (by rfl)) by unfold WE;kernel_rfl)
def jL(p0:Bool)(p1:Int):TT ((Unit)⊕(Unit)):=.br 0 (!p0) (.Qy 1003 (Qw.Zw 124 (.tmp 7) 8 (.agg [.int .i64 p1]) (.agg #[.int .i64 p1]) rfl (by kernel_rfl)) λ_=>.UX 1004 (.done (.inr ()))) (.done (.inl ()))
theorem Qy2(p0:Bool)(p1:Int):UW Tryz.prog GG [0,1,5] Tryz.f57 [.bool p0,.i p1] (Ext.of .normal (H3 [.bool p0,.i p1]) [] [] (by rfl)) (jL p0 p1) (λ(_:Unit)=>.Qt []) (λ(r:Unit)=>Ext.of .normal [] [] [] (by rfl)) (λ(r:Unit)=>K0 (.iface 124 (.agg #[.int .i64 p1]))) (λ(r:Unit)=>Ext.of .normal [] [] [] (by rfl)):=by unfold UW;kernel_rfl
def X2(p0:Bool)(p1:Int):O5 Tryz.prog GG (Unit) (Unit):=.ofFn 57 [] Q8 Tryz.func57 rfl (λ_=>rfl) (λ_=>rfl) (Qy2 p0 p1)
def tW(p0:Qq)(p1:Q9):TT (za):=.Qd 2021 (decide ((strOfNums [(Qm p0.fp),(Qm (Z4 .i64 (p0.fe.size:Int) 16)),(Qm (Z4 .i64 (p0.fe.size:Int) 8)),(Qm (p0.fe.size:Int))]).size+p0.fe.size<=9223372036854775807)) (.Qd 2022 (decide (p1.fc.fE.size+((strOfNums [(Qm p0.fp),(Qm (Z4 .i64 (p0.fe.size:Int) 16)),(Qm (Z4 .i64 (p0.fe.size:Int) 8)),(Qm (p0.fe.size:Int))])++p0.fe).size<=9223372036854775807)) (.done (p1.fc.fE++((strOfNums [(Qm p0.fp),(Qm (Z4 .i64 (p0.fe.size:Int) 16)),(Qm (Z4 .i64 (p0.fe.size:Int) 8)),(Qm (p0.fe.size:Int))])++p0.fe))))
def Xc(p0:Qq)(p1:Q9):Sp (za):=.ZR 214 [] Q8 Tryz.func214 rfl (λ_=>rfl) (show WE Pg GG [0,1,3,4] Tryz.f214 [.ptr zA 0 0,.agg (Z0.c p0)] (Ext.of .normal (H3 [.ptr zA 0 0,.agg (Z0.c p0)]) [(zA,⟨22,true,[(X6 p1)]⟩)] [] (by rfl)) (tW p0 p1) (λ(r:za)=>.Qt []) (λ(r:za)=>Ext.of .normal [] [(zA,⟨22,true,[(X6 { p1 with fc:={ p1.fc with fE:=r } })]⟩)] [] (by rfl)) by unfold WE;kernel_rfl)
def tF(p0:za)(p1:Q9):TT ((Int×Int×za×(List Qq)×Int×Int×Int)⊕(Int)):=.Qo 4 (X2 ((p0.size:Int)==32) 5) [] [] (λr530=>.Qo 1007 (X2 (decide (p1.fc.fm < 7)) 3) [] [] (λr531=>.view 2008 (VW p1) [] λr532=>.Qd 2009 (decide (p1.fc.fB.size+r532.size<=9223372036854775807)) (.Qd 2011 (decide ((p1.fc.fB++r532).size+p0.size<=9223372036854775807)) (.call 2012 (Ly 3 1 ((p1.fc.fB++r532)++p0) p1) [(zA,zA)] [] λr533=>.call 4003 (Xc (Qq.mk 1 p1.fc.fm ((p1.fc.fB++r532)++p0)) { p1 with fc:={ p1.fc with fw:=3,fm:=r533.2.2.2.1,fE:=zd,fo:=r533.q,fC:=Z7.mk r533.1 r533.2.1 r533.2.2.1 },QL:=r533.q }) [(zA,zA)] [] λr534=>.done (.inl (3,r533.2.2.2.1,r534,r533.q,r533.1,r533.2.1,r533.2.2.1))))) (λr535=>.done (.inr 3))) (λr536=>.done (.inr 5))
theorem Qe6(p0:za)(p1:Q9):UW Tryz.prog GG [0,1,4] Tryz.f161 [.ptr 1000000 0 0,.str p0] (Ext.of .normal (H3 [.ptr 1000000 0 0,.str p0]) [(1000000,⟨22,true,[(X6 p1)]⟩)] [] (by rfl)) (tF p0 p1) (λ(r:Int×Int×za×(List Qq)×Int×Int×Int)=>.Qt []) (λ(r:Int×Int×za×(List Qq)×Int×Int×Int)=>Ext.of .normal [] [(1000000,⟨22,true,[(X6 { p1 with fc:={ p1.fc with fw:=r.1,fm:=r.2.1,fE:=r.2.2.1,fo:=r.2.2.2.1,fC:=⟨r.q.1,r.q.2.1,r.q.2.2⟩ },QL:=r.2.2.2.1 })]⟩)] [] (by rfl)) (λ(r:Int)=>K0 (.iface 124 (.agg #[.int .i64 r]))) (λ(r:Int)=>Ext.of .normal [] [(1000000,⟨22,true,[(X6 p1)]⟩)] [] (by rfl)):=by unfold UW;kernel_rfl
def rV(p0:za)(p1:Q9):O5 Pg GG (Int×Int×za×(List Qq)×Int×Int×Int) (Int):=.ofFn 161 [] Q8 Tryz.func161 rfl (λ_=>rfl) (λ_=>rfl) (Qe6 p0 p1)
def tH(p0:za)(p1:Q9):TT ((za×za×Int×Int×Int)⊕(Bool×Int)):=.cl 1002 (s46 p0) λr538=>.Qo 2003 (X2 (r538.2==0) 5) [] [] (λr539=>.cl 3012 (nI r538.1 p1.fc.ft p1.fc.fj) λr540=>.br 0 (r540 != 0) (.Qy 5003 (Qw.Zw 171 (.tmp 31) 32 (.agg [.int .i64 r540]) (.agg #[.int .i64 r540]) rfl (by kernel_rfl)) λ_=>.UX 5004 (.done (.inr (true,r540)))) (.done (.inl (r538.1.fA,r538.1.fL,r538.1.fG,r538.1.fH,r538.1.fO)))) (λr541=>.done (.inr (false,5)))
theorem Qe0(p0:za)(p1:Q9):UW Tryz.prog GG [0,1,4,5,6,7,29] Tryz.f215 [.ptr 1000000 0 0,.str p0] (Ext.of .normal (H3 [.ptr 1000000 0 0,.str p0]) [(1000000,⟨22,true,[(X6 p1)]⟩)] [] (by rfl)) (tH p0 p1) (λ(r:za×za×Int×Int×Int)=>.agg [.str r.1,.str r.2.1,.i r.2.2.1,.i r.2.2.2.1,.i r.q]) (λ(r:za×za×Int×Int×Int)=>Ext.of .normal [] [(1000000,⟨22,true,[(X6 p1)]⟩)] [] (by rfl)) (λ(r:Bool×Int)=>K0 (.iface (bif r.1 then 171 else 124) (.agg #[.int .i64 r.2]))) (λ(r:Bool×Int)=>Ext.of .normal [] [(1000000,⟨22,true,[(X6 p1)]⟩)] [] (by rfl)):=by unfold UW;kernel_rfl
def nC(p0:za)(p1:Q9):O5 Pg GG (za×za×Int×Int×Int) (Bool×Int):=.ofFn 215 [] Q8 Tryz.func215 rfl (λ_=>rfl) (λ_=>rfl) (Qe0 p0 p1)
def tJ(p0 p1:za):TT ((za)⊕(Int)):=.cl 1003 (nA p0 p1) λr543=>.br 0 (r543.2 != 0) (.Qy 3003 (Qw.Zw 171 (.tmp 16) 17 (.agg [.int .i64 r543.2]) (.agg #[.int .i64 r543.2]) rfl (by kernel_rfl)) λ_=>.UX 3004 (.done (.inr r543.2))) (.done (.inl r543.1))
theorem Qmv(p0 p1:za):UW Tryz.prog GG [0,1,4,5,6,14] Tryz.f217 [.str p0,.str p1] (Ext.of .normal (H3 [.str p0,.str p1]) [] [] (by rfl)) (tJ p0 p1) (λ(r:za)=>.str r) (λ(r:za)=>Ext.of .normal [] [] [] (by rfl)) (λ(r:Int)=>K0 (.iface 171 (.agg #[.int .i64 r]))) (λ(r:Int)=>Ext.of .normal [] [] [] (by rfl)):=by unfold UW;kernel_rfl
def VY(p0 p1:za):O5 Pg GG (za) (Int):=.ofFn 217 [] Q8 Tryz.func217 rfl (λ_=>rfl) (λ_=>rfl) (Qmv p0 p1)
def tU(p0 p1 p2 p3:za)(p4:Q9):TT (za):=.Qd 4 (decide (p0.size+p1.size<=9223372036854775807)) (.Qd 7 (decide (p2.size+p3.size<=9223372036854775807)) (.cl 8 (s94 (p0++p1) (p2++p3) (bs [116,97,110,110,111,121,32,109,97,115,116,101,114]) 32) λr548=>.cl 11 (Lq r548.1 r548.2) λr549=>.done r549))
def nB(p0 p1 p2 p3:za)(p4:Q9):Sp (za):=.ZR 216 [] Q8 Tryz.func216 rfl (λ_=>rfl) (show WE Pg GG [0,1,2,3,4] Tryz.f216 [.ptr zA 0 0,.str p0,.str p1,.str p2,.str p3] (Ext.of .normal (H3 [.ptr zA 0 0,.str p0,.str p1,.str p2,.str p3]) [(zA,⟨22,true,[(X6 p4)]⟩)] [] (by rfl)) (tU p0 p1 p2 p3 p4) (λ(r:za)=>.Qt []) (λ(r:za)=>Ext.of .normal [] [(zA,⟨22,true,[(X6 { p4 with fc:={ p4.fc with fI:=r } })]⟩)] [] (by rfl)) by unfold WE;kernel_rfl)
def tY(p0:Q9)(p1 p2:za):TT (za):=.cl 1007 (s94 p0.fc.fI zd p1 32) λr552=>.cl 1010 (Lq r552.1 r552.2) λr553=>.cl 2003 (s95 p2) λr554=>.cl 2006 (Lq r554.1 r554.2) λr555=>.cl 2007 (s96 r553 r555) λr556=>.cl 2010 (Lq r556.1 r556.2) λr557=>.done r557
def VZ(p0:Q9)(p1 p2:za):Sp (za):=oF [0,1,2,6,7] Tryz.func218 [.snap (X6 p0),.str p1,.str p2] (tY p0 p1 p2) (λr=>.str r)
def tL(p0:za)(p1:Q9):TT ((Q4×(List Qq))⊕(za×za×za×Bool×Int)):=.Qo 4 (X2 (decide ((64:Int) < (p0.size:Int))) 5) [] [] (λr537=>.Qd 1003 (decide (0<=(64:Int))&&decide ((64:Int)<=(p0.size:Int))) (.Qo 1004 (nC (p0.extract 64 p0.size) p1) [(zA,zA)] [] (λr542=>.Qd 2003 (decide (0<=(32:Int))&&decide ((32:Int)<=(p0.size:Int))) (.Qd 2005 ((decide (0<=(64:Int))&&decide ((64:Int)<=(p0.size:Int)))&&true) (.Qd 2007 (decide (0<=(64:Int))&&decide ((64:Int)<=(p0.size:Int))) (.Qo 3009 (VY p1.fc.fX r542.2.1) [] [] (λr544=>.Qo 3021 (VY p1.fc.gc (p0.extract 32 64)) [] [] (λr545=>.call 3033 (nB r544 r545 p1.fc.fB (p0.extract 0 32) { p1 with fc:={ p1.fc with fk:=U1.mk (p0.extract 0 32) (p0.extract 32 64) (p0.extract 64 p0.size) } }) [(zA,zA)] [] λr550=>.call 4004 (Xc (Qq.mk 3 0 p0) { p1 with fc:={ p1.fc with fk:=U1.mk (p0.extract 0 32) (p0.extract 32 64) (p0.extract 64 p0.size),fI:=r550 } }) [(zA,zA)] [] λr551=>.Qd 5014 (decide (r551.size+p1.fc.fh.size<=9223372036854775807)) (.view 5015 (VZ { p1 with fc:={ p1.fc with fE:=r551,fk:=U1.mk (p0.extract 0 32) (p0.extract 32 64) (p0.extract 64 p0.size),fI:=r550 } } (bs [99,108,105,101,110,116]) (r551++p1.fc.fh)) [] λr558=>.Qd 5021 (decide (r558.size+p1.fc.fh.size<=9223372036854775807)) (.call 5022 (Ly 5 4 (r558++p1.fc.fh) { p1 with fc:={ p1.fc with fE:=r551,fk:=U1.mk (p0.extract 0 32) (p0.extract 32 64) (p0.extract 64 p0.size),fI:=r550 } }) [(zA,zA)] [] λr559=>.call 5023 (Xc (Qq.mk 4 p1.fc.fm (r558++p1.fc.fh)) { p1 with fc:={ p1.fc with fw:=5,fm:=r559.2.2.2.1,fE:=r551,fk:=U1.mk (p0.extract 0 32) (p0.extract 32 64) (p0.extract 64 p0.size),fI:=r550,fo:=r559.q,fC:=Z7.mk r559.1 r559.2.1 r559.2.2.1 },QL:=r559.q }) [(zA,zA)] [] λr560=>.done (.inl ({ p1.fc with fw:=5,fm:=r559.2.2.2.1,fE:=r560,fk:=U1.mk (p0.extract 0 32) (p0.extract 32 64) (p0.extract 64 p0.size),fI:=r550,fo:=r559.q,fC:=Z7.mk r559.1 r559.2.1 r559.2.2.1 },r559.q))))) (λr561=>.done (.inr ((p0.extract 0 32),(p0.extract 32 64),(p0.extract 64 p0.size),true,r561)))) (λr562=>.done (.inr ((p0.extract 0 32),(p0.extract 32 64),(p0.extract 64 p0.size),true,r562))))))) (λr563=>.done (.inr (p1.fc.fk.fB,p1.fc.fk.fQ,p1.fc.fk.fh,r563.1,r563.2))))) (λr564=>.done (.inr (p1.fc.fk.fB,p1.fc.fk.fQ,p1.fc.fk.fh,false,5)))
theorem Qe5(p0:za)(p1:Q9):UW Tryz.prog GG [0,1,4] Tryz.f162 [.ptr 1000000 0 0,.str p0] (Ext.of .normal (H3 [.ptr 1000000 0 0,.str p0]) [(1000000,⟨22,true,[(X6 p1)]⟩)] [] (by rfl)) (tL p0 p1) (λ(r:Q4×(List Qq))=>.Qt []) (λ(r:Q4×(List Qq))=>Ext.of .normal [] [(1000000,⟨22,true,[(H0 (J4 r.1) [.str p1.QY,.sl false 3 (List.map Z0.c r.2)])]⟩)] [] (by rfl)) (λ(r:za×za×za×Bool×Int)=>K0 (.iface (bif r.2.2.2.1 then 171 else 124) (.agg #[.int .i64 r.q]))) (λ(r:za×za×za×Bool×Int)=>Ext.of .normal [] [(1000000,⟨22,true,[(X6 { p1 with fc:={ p1.fc with fk:=⟨r.1,r.2.1,r.2.2.1⟩ } })]⟩)] [] (by rfl)):=by unfold UW;kernel_rfl
def rT(p0:za)(p1:Q9):O5 Pg GG (Q4×(List Qq)) (za×za×za×Bool×Int):=.ofFn 162 [] Q8 Tryz.func162 rfl (λ_=>rfl) (λ_=>rfl) (Qe5 p0 p1)
def tO(p0:za)(p1:Q9):TT ((za×Int×Int×Int)⊕(Bool×Int)):=.Qo 4 (X2 ((p0.size:Int)==32) 5) [] [] (λr565=>.view 1008 (VZ p1 (bs [115,101,114,118,101,114]) p1.fc.fE) [] λr566=>.br 0 (!decide (p0=r566)) (.Qy 2002 (Qw.Zw 171 (.tmp 17) 18 (.agg [.int .i64 9]) (.agg #[.int .i64 9]) rfl (by kernel_rfl)) λ_=>.UX 2003 (.done (.inr (true,9)))) (.call 3004 (Xc (Qq.mk 5 0 p0) p1) [(zA,zA)] [] λr567=>.cl 4004 s66 λr568=>.done (.inl (r567,r568.fq,r568.fV,r568.fM)))) (λr569=>.done (.inr (false,5)))
theorem Qe4(p0:za)(p1:Q9):UW Tryz.prog GG [0,1,16] Tryz.f163 [.ptr 1000000 0 0,.str p0] (Ext.of .normal (H3 [.ptr 1000000 0 0,.str p0]) [(1000000,⟨22,true,[(X6 p1)]⟩)] [] (by rfl)) (tO p0 p1) (λ(r:za×Int×Int×Int)=>.Qt []) (λ(r:za×Int×Int×Int)=>Ext.of .normal [] [(1000000,⟨22,true,[[.i p1.fc.fF,.i 6,.i p1.fc.fj,.str p1.fc.gc,.str p1.fc.fh,.str p1.fc.fX,.str p1.fc.fB,.str p1.fc.fZ,.sl false 1 (List.map Z2.c p1.fc.ft),.i p1.fc.fm,.str r.1,.str p1.fc.fk.fB,.str p1.fc.fk.fQ,.str p1.fc.fk.fh,.str p1.fc.fI,.Qj,.i r.2.1,.i r.2.2.1,.i r.2.2.2,.i p1.fc.gd,.str p1.QY,.sl false 3 (List.map Z0.c p1.QL)]]⟩)] [] (by rfl)) (λ(r:Bool×Int)=>K0 (.iface (bif r.1 then 171 else 124) (.agg #[.int .i64 r.2]))) (λ(r:Bool×Int)=>Ext.of .normal [] [(1000000,⟨22,true,[(X6 p1)]⟩)] [] (by rfl)):=by unfold UW;kernel_rfl
def Qz2(p0:za)(p1:Q9):O5 Pg GG (za×Int×Int×Int) (Bool×Int):=.ofFn 163 [] Q8 Tryz.func163 rfl (λ_=>rfl) (λ_=>rfl) (Qe4 p0 p1)
def tI(p0:za)(p1:Q9):TT ((Q4×(List Qq))⊕(Int)):=.br 5 ((p0.size:Int)==64) (.Qo 9 (X2 true 5) [] [] (λr570=>.Qd 1011 (decide (0<=(64:Int))&&decide ((64:Int)<=(p0.size:Int))) (.Qd 1012 (decide (p1.QY.size+(p0.extract 0 64).size<=9223372036854775807)) (.cl 1013 (s96 p1.fc.fZ (p1.QY++(p0.extract 0 64))) λr571=>.cl 1016 (Lq r571.1 r571.2) λr572=>.Qd 2002 (decide (0<=(64:Int))&&decide ((64:Int)<=(p0.size:Int))) (.br 0 (!decide ((p0.extract 64 p0.size)=r572)) (.Qo 3007 (X2 (decide (p1.fc.fm < 6)) 3) [] [] (λr573=>.call 4003 (Ly 1 2 r572 p1) [(zA,zA)] [] λr574=>.done (.inl ({ p1.fc with fw:=1,fm:=r574.2.2.2.1,fo:=r574.q,fC:=Z7.mk r574.1 r574.2.1 r574.2.2.1 },r574.q))) (λr575=>.done (.inr 3))) (.Qd 5003 (decide (0<=(32:Int))&&decide ((32:Int)<=(p0.size:Int))) (.Qd 5005 ((decide (0<=(64:Int))&&decide ((64:Int)<=(p0.size:Int)))&&true) (.call 6004 (Xc (Qq.mk 1 0 p0) { p1 with fc:={ p1.fc with fk:=U1.mk (p0.extract 0 32) (p0.extract 32 64) zd } }) [(zA,zA)] [] λr576=>.view 7009 (VW { p1 with fc:={ p1.fc with fE:=r576,fk:=U1.mk (p0.extract 0 32) (p0.extract 32 64) zd } }) [] λr577=>.Qd 7010 (decide (p1.fc.fB.size+r577.size<=9223372036854775807)) (.Qd 7016 (decide ((p1.fc.fB++r577).size+p1.fc.fh.size<=9223372036854775807)) (.call 7017 (Ly 4 3 ((p1.fc.fB++r577)++p1.fc.fh) { p1 with fc:={ p1.fc with fE:=r576,fk:=U1.mk (p0.extract 0 32) (p0.extract 32 64) zd } }) [(zA,zA)] [] λr578=>.call 7018 (Xc (Qq.mk 3 p1.fc.fm ((p1.fc.fB++r577)++p1.fc.fh)) { p1 with fc:={ p1.fc with fw:=4,fm:=r578.2.2.2.1,fE:=r576,fk:=U1.mk (p0.extract 0 32) (p0.extract 32 64) zd,fo:=r578.q,fC:=Z7.mk r578.1 r578.2.1 r578.2.2.1 },QL:=r578.q }) [(zA,zA)] [] λr579=>.done (.inl ({ p1.fc with fw:=4,fm:=r578.2.2.2.1,fE:=r579,fk:=U1.mk (p0.extract 0 32) (p0.extract 32 64) zd,fo:=r578.q,fC:=Z7.mk r578.1 r578.2.1 r578.2.2.1 },r578.q))))))))))) (λr580=>.fail)) (.Qo 9 (X2 ((p0.size:Int)==96) 5) [] [] (λr581=>.Qd 1011 (decide (0<=(64:Int))&&decide ((64:Int)<=(p0.size:Int))) (.Qd 1012 (decide (p1.QY.size+(p0.extract 0 64).size<=9223372036854775807)) (.cl 1013 (s96 p1.fc.fZ (p1.QY++(p0.extract 0 64))) λr582=>.cl 1016 (Lq r582.1 r582.2) λr583=>.Qd 2002 (decide (0<=(64:Int))&&decide ((64:Int)<=(p0.size:Int))) (.br 0 (!decide ((p0.extract 64 p0.size)=r583)) (.Qo 3007 (X2 (decide (p1.fc.fm < 6)) 3) [] [] (λr584=>.call 4003 (Ly 1 2 r583 p1) [(zA,zA)] [] λr585=>.done (.inl ({ p1.fc with fw:=1,fm:=r585.2.2.2.1,fo:=r585.q,fC:=Z7.mk r585.1 r585.2.1 r585.2.2.1 },r585.q))) (λr586=>.done (.inr 3))) (.Qd 5003 (decide (0<=(32:Int))&&decide ((32:Int)<=(p0.size:Int))) (.Qd 5005 ((decide (0<=(64:Int))&&decide ((64:Int)<=(p0.size:Int)))&&true) (.call 6004 (Xc (Qq.mk 1 0 p0) { p1 with fc:={ p1.fc with fk:=U1.mk (p0.extract 0 32) (p0.extract 32 64) zd } }) [(zA,zA)] [] λr587=>.view 7009 (VW { p1 with fc:={ p1.fc with fE:=r587,fk:=U1.mk (p0.extract 0 32) (p0.extract 32 64) zd } }) [] λr588=>.Qd 7010 (decide (p1.fc.fB.size+r588.size<=9223372036854775807)) (.Qd 7016 (decide ((p1.fc.fB++r588).size+p1.fc.fh.size<=9223372036854775807)) (.call 7017 (Ly 4 3 ((p1.fc.fB++r588)++p1.fc.fh) { p1 with fc:={ p1.fc with fE:=r587,fk:=U1.mk (p0.extract 0 32) (p0.extract 32 64) zd } }) [(zA,zA)] [] λr589=>.call 7018 (Xc (Qq.mk 3 p1.fc.fm ((p1.fc.fB++r588)++p1.fc.fh)) { p1 with fc:={ p1.fc with fw:=4,fm:=r589.2.2.2.1,fE:=r587,fk:=U1.mk (p0.extract 0 32) (p0.extract 32 64) zd,fo:=r589.q,fC:=Z7.mk r589.1 r589.2.1 r589.2.2.1 },QL:=r589.q }) [(zA,zA)] [] λr590=>.done (.inl ({ p1.fc with fw:=4,fm:=r589.2.2.2.1,fE:=r590,fk:=U1.mk (p0.extract 0 32) (p0.extract 32 64) zd,fo:=r589.q,fC:=Z7.mk r589.1 r589.2.1 r589.2.2.1 },r589.q))))))))))) (λr591=>.done (.inr 5)))
theorem Qe3(p0:za)(p1:Q9):UW Tryz.prog GG [0,1,4,33] Tryz.f164 [.ptr 1000000 0 0,.str p0] (Ext.of .normal (H3 [.ptr 1000000 0 0,.str p0]) [(1000000,⟨22,true,[(X6 p1)]⟩)] [] (by rfl)) (tI p0 p1) (λ(r:Q4×(List Qq))=>.Qt []) (λ(r:Q4×(List Qq))=>Ext.of .normal [] [(1000000,⟨22,true,[(H0 (J4 r.1) [.str p1.QY,.sl false 3 (List.map Z0.c r.2)])]⟩)] [] (by rfl)) (λ(r:Int)=>K0 (.iface 124 (.agg #[.int .i64 r]))) (λ(r:Int)=>Ext.of .normal [] [(1000000,⟨22,true,[(X6 p1)]⟩)] [] (by rfl)):=by unfold UW;kernel_rfl
def rC(p0:za)(p1:Q9):O5 Pg GG (Q4×(List Qq)) (Int):=.ofFn 164 [] Q8 Tryz.func164 rfl (λ_=>rfl) (λ_=>rfl) (Qe3 p0 p1)
def tA(p0:za)(p1:Q9):TT ((Int×Int×za×za×za×(List Qq)×Int×Int×Int)⊕(za×Bool×Int)):=.Qo 4 (X2 (decide ((32:Int) < (p0.size:Int))) 5) [] [] (λr592=>.Qd 1002 (decide (0<=(32:Int))&&decide ((32:Int)<=(p0.size:Int))) (.Qd 1004 (decide (0<=(32:Int))&&decide ((32:Int)<=(p0.size:Int))) (.Qo 2003 (nC (p0.extract 32 p0.size) p1) [(zA,zA)] [] (λr593=>.Qo 3013 (VY p1.fc.gc p1.fc.fk.fQ) [] [] (λr594=>.Qo 3021 (VY p1.fc.fX r593.2.1) [] [] (λr595=>.call 3033 (nB r594 r595 p1.fc.fk.fB p1.fc.fB p1) [(zA,zA)] [] λr598=>.Qd 4009 (decide (p1.fc.fE.size+(p0.extract 32 p0.size).size<=9223372036854775807)) (.view 4010 (VZ { p1 with fc:={ p1.fc with fI:=r598 } } (bs [99,108,105,101,110,116]) (p1.fc.fE++(p0.extract 32 p0.size))) [] λr599=>.br 0 (!decide ((p0.extract 0 32)=r599)) (.Qy 5002 (Qw.Zw 171 (.tmp 62) 63 (.agg [.int .i64 9]) (.agg #[.int .i64 9]) rfl (by kernel_rfl)) λ_=>.UX 5003 (.done (.inr (r598,true,9)))) (.call 7004 (Xc (Qq.mk 4 0 p0) { p1 with fc:={ p1.fc with fk:=U1.mk p1.fc.fk.fB p1.fc.fk.fQ (p0.extract 32 p0.size),fI:=r598 } }) [(zA,zA)] [] λr600=>.view 8009 (VZ { p1 with fc:={ p1.fc with fE:=r600,fk:=U1.mk p1.fc.fk.fB p1.fc.fk.fQ (p0.extract 32 p0.size),fI:=r598 } } (bs [115,101,114,118,101,114]) r600) [] λr601=>.call 8010 (Ly 6 5 r601 { p1 with fc:={ p1.fc with fE:=r600,fk:=U1.mk p1.fc.fk.fB p1.fc.fk.fQ (p0.extract 32 p0.size),fI:=r598 } }) [(zA,zA)] [] λr602=>.call 8011 (Xc (Qq.mk 5 p1.fc.fm r601) { p1 with fc:={ p1.fc with fw:=6,fm:=r602.2.2.2.1,fE:=r600,fk:=U1.mk p1.fc.fk.fB p1.fc.fk.fQ (p0.extract 32 p0.size),fI:=r598,fo:=r602.q,fC:=Z7.mk r602.1 r602.2.1 r602.2.2.1 },QL:=r602.q }) [(zA,zA)] [] λr603=>.done (.inl (6,r602.2.2.2.1,r603,(p0.extract 32 p0.size),r598,r602.q,r602.1,r602.2.1,r602.2.2.1))))) (λr604=>.done (.inr (p1.fc.fI,true,r604)))) (λr605=>.done (.inr (p1.fc.fI,true,r605)))) (λr606=>.done (.inr (p1.fc.fI,r606.1,r606.2)))))) (λr607=>.done (.inr (p1.fc.fI,false,5)))
theorem Qe2(p0:za)(p1:Q9):UW Tryz.prog GG [0,1,4,5,6,61] Tryz.f165 [.ptr 1000000 0 0,.str p0] (Ext.of .normal (H3 [.ptr 1000000 0 0,.str p0]) [(1000000,⟨22,true,[(X6 p1)]⟩)] [] (by rfl)) (tA p0 p1) (λ(r:Int×Int×za×za×za×(List Qq)×Int×Int×Int)=>.Qt []) (λ(r:Int×Int×za×za×za×(List Qq)×Int×Int×Int)=>Ext.of .normal [] [(1000000,⟨22,true,[(X6 { p1 with fc:={ p1.fc with fw:=r.1,fm:=r.2.1,fE:=r.2.2.1,fk:={ p1.fc.fk with fh:=r.2.2.2.1 },fI:=r.q.1,fo:=r.q.2.1,fC:=⟨r.q.2.2.1,r.q.2.2.2.1,r.q.q⟩ },QL:=r.q.2.1 })]⟩)] [] (by rfl)) (λ(r:za×Bool×Int)=>K0 (.iface (bif r.2.1 then 171 else 124) (.agg #[.int .i64 r.2.2]))) (λ(r:za×Bool×Int)=>Ext.of .normal [] [(1000000,⟨22,true,[(X6 { p1 with fc:={ p1.fc with fI:=r.1 } })]⟩)] [] (by rfl)):=by unfold UW;kernel_rfl
def rB(p0:za)(p1:Q9):O5 Pg GG (Int×Int×za×za×za×(List Qq)×Int×Int×Int) (za×Bool×Int):=.ofFn 165 [] Q8 Tryz.func165 rfl (λ_=>rfl) (λ_=>rfl) (Qe2 p0 p1)
def Qjv(p0:Bool)(p1:Int):TT (Bool):=.cl 1004 (s57 (p1==0) p1) λr609=>.done p0
def rS(p0:Bool)(p1:Int):Sp (Bool):=oF [0,1,4] Tryz.func166 [.bool p0,.i p1] (Qjv p0 p1) (λr=>.bool r)
def tB(p0:Q9):TT ((Int×Int×Int×(List Qq))⊕(Unit)):=.cl 11 (dM p0.fc.fC p0.fc.fj) λr608=>.cl 14 (rS r608.1 r608.2) λr610=>.br 0 (!r610) (.done (.inl (p0.fc.fC.fq,p0.fc.fC.fV,p0.fc.fC.fM,p0.QL))) (.cl 1011 (rR p0.fc.fC p0.fc.fj) λr611=>.br 0 (r611.2 != 0) (.Qy 3002 (Qw.Zw 171 (.tmp 35) 36 (.agg [.int .i64 6]) (.agg #[.int .i64 6]) rfl (by kernel_rfl)) λ_=>.UX 3003 (.done (.inr ()))) (.done (.inl (r611.1.fq,r611.1.fV,r611.1.fM,p0.fc.fo))))
theorem Qeq(p0:Q9):UW Tryz.prog GG [0,2,3,18,34] Tryz.f108 [.ptr 1000000 0 0] (Ext.of .normal (H3 [.ptr 1000000 0 0]) [(1000000,⟨22,true,[(X6 p0)]⟩)] [] (by rfl)) (tB p0) (λ(r:Int×Int×Int×(List Qq))=>.Qt []) (λ(r:Int×Int×Int×(List Qq))=>Ext.of .normal [] [(1000000,⟨22,true,[(X6 { p0 with fc:={ p0.fc with fC:=⟨r.1,r.2.1,r.2.2.1⟩ },QL:=r.2.2.2 })]⟩)] [] (by rfl)) (λ(r:Unit)=>K0 (.iface 171 (.agg #[.int .i64 6]))) (λ(r:Unit)=>Ext.of .normal [] [(1000000,⟨22,true,[(X6 p0)]⟩)] [] (by rfl)):=by unfold UW;kernel_rfl
def Qz3(p0:Q9):O5 Pg GG (Int×Int×Int×(List Qq)) (Unit):=.ofFn 108 [] Q8 Tryz.func108 rfl (λ_=>rfl) (λ_=>rfl) (Qeq p0)
def tV(p0:Int)(p1:Q9):TT (Int×Int×Int):=.cl 11 s66 λr612=>.done (r612.fq,r612.fV,r612.fM)
def Qz5(p0:Int)(p1:Q9):Sp (Int×Int×Int):=.ZR 105 [] Q8 Tryz.func105 rfl (λ_=>rfl) (show WE Pg GG [0,1] Tryz.f105 [.ptr zA 0 0,.i p0] (Ext.of .normal (H3 [.ptr zA 0 0,.i p0]) [(zA,⟨22,true,[(X6 p1)]⟩)] [] (by rfl)) (tV p0 p1) (λ(r:Int×Int×Int)=>.Qt []) (λ(r:Int×Int×Int)=>Ext.of .normal [] [(zA,⟨22,true,[(H0 [.i p1.fc.fF,.i 7,.i p1.fc.fj,.str p1.fc.gc,.str p1.fc.fh,.str p1.fc.fX,.str p1.fc.fB,.str p1.fc.fZ,Sl 1 Z2 p1.fc.ft,.i p1.fc.fm] (M5 5 (.str zd) [.Qj,.i r.1,.i r.2.1,.i r.2.2,.i p0,.str p1.QY,.Qj]))]⟩)] [] (by rfl)) by unfold WE;kernel_rfl)
noncomputable def cHn:Code:=Tryz.f107.body.getD .skip
def hnC:Code:=cL (cR cHn)
def ZB:Array Oper:=Ik hnC
theorem eHn:hnC=.region 1 ZB true:=by kernel_rfl
def QU(n:Int):V:=.int .i64 n
def pm:V:=.ptr 1000000 0 0
def An(f:FuncId):V:=.fn f [pm] []
def X3:List (Nat×List V×List V):=[(4,[QU 1,QU 2,QU 2],[An 161]),(8,[QU 1,QU 3,QU 2],[An 161]),(12,[QU 1,QU 3,QU 3],[An 162]),(16,[QU 1,QU 5,QU 5],[An 163]),(20,[QU 2,QU 1,QU 1],[An 164]),(24,[QU 2,QU 4,QU 4],[An 165])]
def HM:List Nat:=[1,2,3,5,6,7,9,10,11,13,14,15,17,18,19,21,22,23,25,26,27,28,29,30,31,32,33,34,35,36,37,38,40]
def Ir(s t k:Int)(r:List V):Bool:=match r with
 | [.int _ a,.int _ b,.int _ c]=>s==a&&(t==b&&(k==c&&true))
 | _=>false
section
variable (s t k q:Int) (body:za) (tl:List V) (res:V)
def Mc:List (Nat×V):=[(0,pm),(3,.ptr 3 0 0)]
def Qew:List (Nat×Qi):=[(1000000,⟨22,true,[.int .i64 s :: .int .i64 t :: tl]⟩),(3,⟨3,true,[[.int .i64 k,.int .i64 q,.str body]]⟩)]
def hnS:St:=E6 46 Mc (Qew s t k q body tl) [1000000,3]
def Bl:List (Nat×V):=[(5,.mp 5),(6,.agg [QU 1,QU 2,QU 2]),(7,pm),(8,An 161),(9,.agg [QU 1,QU 3,QU 2]),(10,pm),(11,An 161),(12,.agg [QU 1,QU 3,QU 3]),(13,pm),(14,An 162),(15,.agg [QU 1,QU 5,QU 5]),(16,pm),(17,An 163),
 (18,.agg [QU 2,QU 1,QU 1]),(19,pm),(20,An 164),(21,.agg [QU 2,QU 4,QU 4]),(22,pm),(23,An 165),(24,.mp 5),(25,pm),(26,pm),(27,pm),(28,pm),(29,QU s),(30,pm),(31,pm),(32,pm),(33,.ptr 1000000 0 1),(34,QU t),(35,.ptr 3 0 0),(36,QU k),(37,.agg [QU s,QU t,QU k]),(38,res),(4,res)]
def Qy9:List (Nat×V):=Mc++Bl s t k res
def jE:St:={ hnS s t k q body tl with t:=λi=>Zm (Qy9 s t k res) i }
def hnR(i:Nat):List EV.Loc:=((Hd Tryz.prog GG ZB i (jE s t k q body tl res)).map (·.1)).getD []
def hnD(i:Nat):Nat:=(V7 ZB i).getD 0
theorem cO:(HM.map λi=>Hd Tryz.prog GG ZB i (jE s t k q body tl res))=HM.map λi=>some (hnR s t k q body tl res i,[.t (hnD i) ((jE s t k q body tl res).t (hnD i))]):=by kernel_rfl
theorem iK:(HM.all λi=>(hnR s t k q body tl res i).all λl=>match l with|.t x=>HF ZB i x|.b b=>b != 5)=true:=by kernel_rfl
theorem Qy8:(HM.map λi=>V7 ZB i)=HM.map λi=>some (hnD i):=by kernel_rfl
theorem Qeh(x:Nat)(h:∀j,j < ZB.size->V7 ZB j≠some x):(jE s t k q body tl res).t x=(hnS s t k q body tl).t x:=by
 have hk:((Bl s t k res).all λp=>(List.range ZB.size).any λj=>V7 ZB j==some p.1)=true:=by kernel_rfl
 show Zm (Mc++Bl s t k res) x=Zm Mc x
 grind [List.any_eq_true,List.all_eq_true,List.mem_of_find?_eq_some,Zm,Bl,absurd]
theorem Qy5(hhit:∀x,x∈X3->Ir s t k x.2.1=true->A7 false x.2.2=res)(hmiss:(∀x,x∈X3->Ir s t k x.2.1=false)->V.Zd=res) :
  mQ Tryz.prog GG ZB (hnS s t k q body tl) (jE s t k q body tl res) 5 0 39 25 (Qzb true false 3 1) 226 225 223 X3 (HM.map λi=>(i,hnR s t k q body tl res i)) [QU s,QU t,QU k] res .Zd (Ir s t k) where
 cov:=by
  have h:((List.range ZB.size).all λi=>i==0 || (i==39 || ((X3.any λx=>x.1==i) || HM.contains i)))=true:=by kernel_rfl
  intro i hi
  have:=zG.1 h i (by simpa using hi)
  simp only[zU,beq_iff_eq,List.any_eq_true,zZ,zC] at this
  rcases this with h|h|h|h
  ·exact .inl h
  ·grind
  ·grind
  ·exact .inr (.inr (.inr ⟨(i,_),zH.2 ⟨i,h,rfl⟩,rfl⟩))
 guard:=by
  have h:(ZB.toList.all λo=>o.guard.isNone)=true:=by kernel_rfl
  intro i o ho
  have:=zG.1 h o (by rw[<-Array.getElem?_toList] at ho;exact zQ ho)
  simpa using this
 sf:=Qeh s t k q body tl res
 sfn:=rfl
 sfb:=λ_ _=>⟨rfl,rfl⟩
 fresh:=⟨by rfl,by rfl⟩
 step:=by
  intro x hx
  obtain⟨i,hi,rfl⟩:=zH.1 hx
  exact⟨hnD i,List.map_inj_left.1 Qy8 i hi,List.map_inj_left.1 (cO s t k q body tl res) i hi⟩
 reads:=by
  intro x hx l hl
  obtain⟨i,hi,rfl⟩:=zH.1 hx
  have:=zG.1 (zG.1 (iK s t k q body tl res) i hi) l hl
  grind
 make:=by
  have h:(ZB[0]?).map (λo=>(o.op,o.dst))=some (.makeMap 226 none,some 5):=by kernel_rfl
  obtain⟨o,ho,he⟩:=zE.1 h
  exact⟨o,ho,congrArg Prod.fst he,congrArg Prod.snd he,by show 5 < 46;decide,by rfl,by decide⟩
 maps:=⟨by kernel_rfl,by kernel_rfl,by kernel_rfl,λh=>(by cases h),λ_=>(by rfl)⟩
 put:=by
  intro x hx
  simp only[X3,zO,zT,or_false] at hx
  rcases hx with rfl|rfl|rfl|rfl|rfl|rfl
  ·exact MR.of 5 6 8 (by kernel_rfl) (by rfl) (by kernel_rfl) (by kernel_rfl) (by kernel_rfl) ⟨rfl,rfl,by rfl⟩ (by kernel_rfl) (by kernel_rfl) (by kernel_rfl)
  ·exact MR.of 5 9 11 (by kernel_rfl) (by rfl) (by kernel_rfl) (by kernel_rfl) (by kernel_rfl) ⟨rfl,rfl,by rfl⟩ (by kernel_rfl) (by kernel_rfl) (by kernel_rfl)
  ·exact MR.of 5 12 14 (by kernel_rfl) (by rfl) (by kernel_rfl) (by kernel_rfl) (by kernel_rfl) ⟨rfl,rfl,by rfl⟩ (by kernel_rfl) (by kernel_rfl) (by kernel_rfl)
  ·exact MR.of 5 15 17 (by kernel_rfl) (by rfl) (by kernel_rfl) (by kernel_rfl) (by kernel_rfl) ⟨rfl,rfl,by rfl⟩ (by kernel_rfl) (by kernel_rfl) (by kernel_rfl)
  ·exact MR.of 5 18 20 (by kernel_rfl) (by rfl) (by kernel_rfl) (by kernel_rfl) (by kernel_rfl) ⟨rfl,rfl,by rfl⟩ (by kernel_rfl) (by kernel_rfl) (by kernel_rfl)
  ·exact MR.of 5 21 23 (by kernel_rfl) (by rfl) (by kernel_rfl) (by kernel_rfl) (by kernel_rfl) ⟨rfl,rfl,by rfl⟩ (by kernel_rfl) (by kernel_rfl) (by kernel_rfl)
 look:=by
  have h:(ZB[39]?).map (λo=>(o.op,o.dst))=some (.lookup 226 (.tmp 24) (.tmp 37) false,some 38):=by kernel_rfl
  obtain⟨o,ho,he⟩:=zE.1 h
  refine⟨o,24,37,38,ho,congrArg Prod.fst he,congrArg Prod.snd he,by show 38 < 46;decide,by rfl,by rfl,by rfl,by kernel_rfl,by kernel_rfl,by kernel_rfl,?_,by kernel_rfl,?_⟩
  ·grind
  have h2:(X3.all λx=>LC ZB 25 x.1)=true:=by kernel_rfl
  grind
 self:=by kernel_rfl
 hit:=hhit
 Qzp:=hmiss
 apart:=by
  refine⟨by decide,?_,?_,?_⟩
  ·have h:(X3.all λx=>x.1 != 0&&x.1 != 39)=true:=by rfl
   grind
  ·intro x hx
   obtain⟨i,hi,rfl⟩:=zH.1 hx
   have h:(HM.all λi=>i != 0)=true:=by rfl
   grind
  ·intro x y hx hy e
   simp only[X3,zO,zT,or_false] at hx hy
   grind
end
def mG(p:Q9)(n:Qq)(ts:List (Nat×V)):Ext:=Ext.of .normal ts [(1000000,⟨22,true,[Oq p]⟩),(3,⟨3,true,[(Z0.c n)]⟩)] [] (by rfl)
theorem Qy7(p:Q9)(n:Qq)(res:V)(hhit:∀x,x∈X3->Ir p.fc.fF p.fc.fw n.fp x.2.1=true->A7 false x.2.2=res)(hmiss:(∀x,x∈X3->Ir p.fc.fF p.fc.fw n.fp x.2.1=false)->V.Zd=res)
  (hE:(mG p n (Mc++[(4,res)])).ok=true) (hc:D8 8 res res=res) :
  TV Tryz.prog GG hnC ((mG p n Mc).D 46).st (λe st=>e=.normal/\QH GG st ((mG p n (Mc++[(4,res)])).D 46).st):=by
 rw[eHn]
 refine TV.iR (st:=((mG p n Mc).D 46).st) Q8 (by kernel_rfl) (Qy5 p.fc.fF p.fc.fw n.fp n.fR n.fe ((Oq p).drop 2) res hhit hmiss) λst hn ht hb'=>⟨rfl,W0 _ hE hn ⟨?_,?_⟩⟩
 ·show [(0,D8 8 pm (st.t 0)),(3,D8 8 (.ptr 3 0 0) (st.t 3)),(4,D8 8 res (st.t 4))]=[(0,pm),(3,.ptr 3 0 0),(4,res)]
  rw[ht 0,ht 3,ht 4]
  show [(0,pm),(3,.ptr 3 0 0),(4,D8 8 res res)]=_
  rw[hc]
 ·show [(1000000,uB [] 1000000 ⟨22,true,[Oq p]⟩ (st.b 1000000)),(3,uB [] 3 ⟨3,true,[(Z0.c n)]⟩ (st.b 3))]=_
  rw[(hb' 1000000 (by decide)).1,(hb' 3 (by decide)).1]
  rfl
theorem LO(s t k a b c:Int):Ir s t k [QU a,QU b,QU c]=true↔s=a/\t=b/\k=c:=by simp[Ir,QU]
theorem Qy6(p:Q9)(n:Qq)(x0:Nat×List V×List V)(f:FuncId)(a b c:Int)(h0:x0∈X3)(hk:x0.2.1=[QU a,QU b,QU c])(hf:∀x,x∈X3->x.2.1=[QU a,QU b,QU c]->x.2.2=[An f])(hq:Ir p.fc.fF p.fc.fw n.fp [QU a,QU b,QU c]=true) :
  TV Tryz.prog GG hnC ((mG p n Mc).D 46).st (λe st=>e=.normal/\QH GG st ((mG p n (Mc++[(4,An f)])).D 46).st):=by
 refine Qy7 p n (An f) (λx hx h=>?_) (λh=>?_) (by rfl) (by rfl)
 ·have hx':x.2.1=[QU a,QU b,QU c]:=by
   obtain⟨e1,e2,e3⟩:=(LO _ _ _ _ _ _).1 hq
   rw[e1,e2,e3] at h
   simp only[X3,zO,zT,or_false] at hx
   rcases hx with rfl|rfl|rfl|rfl|rfl|rfl<;>(obtain⟨rfl,rfl,rfl⟩:=(LO _ _ _ _ _ _).1 h;rfl)
  rw[hf x hx hx'];rfl
 grind
def EL(p:Q9)(n:Qq)(f:FuncId)(a b c:Int)(x0:Nat×List V×List V)(h0:x0∈X3)(hk:x0.2.1=[QU a,QU b,QU c])(hf:∀x,x∈X3->x.2.1=[QU a,QU b,QU c]->x.2.2=[An f]):Sub Tryz.prog GG Unit:=
 ⟨hnC,46,mG p n Mc,bif Ir p.fc.fF p.fc.fw n.fp [QU a,QU b,QU c] then some () else none,λ_=>mG p n (Mc++[(4,An f)]),λr h=>by
  cases hq:Ir p.fc.fF p.fc.fw n.fp [QU a,QU b,QU c] with
  | false=>grind
  | true=>exact Qy6 p n x0 f a b c h0 hk hf hq⟩
def Vm(p:Q9)(n:Qq):Sub Tryz.prog GG Unit:=
 ⟨hnC,46,mG p n Mc,bif X3.all λx=>!Ir p.fc.fF p.fc.fw n.fp x.2.1 then some () else none,λ_=>mG p n (Mc++[(4,.Zd)]),λr h=>by
  cases hq:X3.all λx=>!Ir p.fc.fF p.fc.fw n.fp x.2.1 with
  | false=>grind
  | true=>
   refine Qy7 p n .Zd (λx hx h=>?_) (λ_=>rfl) (by rfl) (by rfl)
   grind⟩
def gV(p:Q9)(n:Qq):Sub Tryz.prog GG Unit:=EL p n 161 1 2 2 (4,[QU 1,QU 2,QU 2],[An 161]) (by simp[X3]) rfl (by
 intro x hx h
 simp only[X3,zO,zT,or_false] at hx
 rcases hx with rfl|rfl|rfl|rfl|rfl|rfl<;>first|rfl|(simp[QU] at h))
def gC(p:Q9)(n:Qq):Sub Tryz.prog GG Unit:=EL p n 161 1 3 2 (8,[QU 1,QU 3,QU 2],[An 161]) (by simp[X3]) rfl (by
 intro x hx h
 simp only[X3,zO,zT,or_false] at hx
 rcases hx with rfl|rfl|rfl|rfl|rfl|rfl<;>first|rfl|(simp[QU] at h))
def gS(p:Q9)(n:Qq):Sub Tryz.prog GG Unit:=EL p n 162 1 3 3 (12,[QU 1,QU 3,QU 3],[An 162]) (by simp[X3]) rfl (by
 intro x hx h
 simp only[X3,zO,zT,or_false] at hx
 rcases hx with rfl|rfl|rfl|rfl|rfl|rfl<;>first|rfl|(simp[QU] at h))
def gP(p:Q9)(n:Qq):Sub Tryz.prog GG Unit:=EL p n 163 1 5 5 (16,[QU 1,QU 5,QU 5],[An 163]) (by simp[X3]) rfl (by
 intro x hx h
 simp only[X3,zO,zT,or_false] at hx
 rcases hx with rfl|rfl|rfl|rfl|rfl|rfl<;>first|rfl|(simp[QU] at h))
def gR(p:Q9)(n:Qq):Sub Tryz.prog GG Unit:=EL p n 164 2 1 1 (20,[QU 2,QU 1,QU 1],[An 164]) (by simp[X3]) rfl (by
 intro x hx h
 simp only[X3,zO,zT,or_false] at hx
 rcases hx with rfl|rfl|rfl|rfl|rfl|rfl<;>first|rfl|(simp[QU] at h))
def gN(p:Q9)(n:Qq):Sub Tryz.prog GG Unit:=EL p n 165 2 4 4 (24,[QU 2,QU 4,QU 4],[An 165]) (by simp[X3]) rfl (by
 intro x hx h
 simp only[X3,zO,zT,or_false] at hx
 rcases hx with rfl|rfl|rfl|rfl|rfl|rfl<;>first|rfl|(simp[QU] at h))
def tC(p0:Qq)(p1:Q9):TT ((Q4×(List Qq))⊕(za×za×za×za×Bool×Int)):=.br 999999 (Ir p1.fc.fF p1.fc.fw p0.fp [QU 1,QU 2,QU 2]) (.br 990001 true (.sub (gV p1 p0) λr641=>.Qo 2003 (X2 true 8) [] [] (λr642=>.Qo 3004 (rV p0.fe p1) [(zA,zA)] [] (λr643=>.done (.inl ({ p1.fc with fw:=r643.1,fm:=r643.2.1,fE:=r643.2.2.1,fo:=r643.2.2.2.1,fC:=Z7.mk r643.q.1 r643.q.2.1 r643.q.2.2 },r643.2.2.2.1))) (λr644=>.done (.inr (p1.fc.fk.fB,p1.fc.fk.fQ,p1.fc.fk.fh,p1.fc.fI,false,r644)))) (λr645=>.fail)) (.fail)) (.br 999999 (Ir p1.fc.fF p1.fc.fw p0.fp [QU 1,QU 3,QU 2]) (.br 990001 true (.sub (gC p1 p0) λr636=>.Qo 2003 (X2 true 8) [] [] (λr637=>.Qo 3004 (rV p0.fe p1) [(zA,zA)] [] (λr638=>.done (.inl ({ p1.fc with fw:=r638.1,fm:=r638.2.1,fE:=r638.2.2.1,fo:=r638.2.2.2.1,fC:=Z7.mk r638.q.1 r638.q.2.1 r638.q.2.2 },r638.2.2.2.1))) (λr639=>.done (.inr (p1.fc.fk.fB,p1.fc.fk.fQ,p1.fc.fk.fh,p1.fc.fI,false,r639)))) (λr640=>.fail)) (.fail)) (.br 999999 (Ir p1.fc.fF p1.fc.fw p0.fp [QU 1,QU 3,QU 3]) (.br 990001 true (.sub (gS p1 p0) λr631=>.Qo 2003 (X2 true 8) [] [] (λr632=>.Qo 3004 (rT p0.fe p1) [(zA,zA)] [] (λr633=>.done (.inl (r633.1,r633.2))) (λr634=>.done (.inr (r634.1,r634.2.1,r634.2.2.1,p1.fc.fI,r634.2.2.2.1,r634.q)))) (λr635=>.fail)) (.fail)) (.br 999999 (Ir p1.fc.fF p1.fc.fw p0.fp [QU 1,QU 5,QU 5]) (.br 990001 true (.sub (gP p1 p0) λr626=>.Qo 2003 (X2 true 8) [] [] (λr627=>.Qo 3004 (Qz2 p0.fe p1) [(zA,zA)] [] (λr628=>.gh 0 (.tell zA [(M5 15 .undef [.sl false 3 (List.map Z0.c []),.undef,.undef,.undef,.undef,.undef,.undef])]) (.done (.inl ({ p1.fc with fw:=6,fE:=r628.1,fo:=[],fC:=Z7.mk r628.2.1 r628.2.2.1 r628.2.2.2 },p1.QL)))) (λr629=>.done (.inr (p1.fc.fk.fB,p1.fc.fk.fQ,p1.fc.fk.fh,p1.fc.fI,r629.1,r629.2)))) (λr630=>.fail)) (.fail)) (.br 999999 (Ir p1.fc.fF p1.fc.fw p0.fp [QU 2,QU 1,QU 1]) (.br 990001 true (.sub (gR p1 p0) λr621=>.Qo 2003 (X2 true 8) [] [] (λr622=>.Qo 3004 (rC p0.fe p1) [(zA,zA)] [] (λr623=>.done (.inl (r623.1,r623.2))) (λr624=>.done (.inr (p1.fc.fk.fB,p1.fc.fk.fQ,p1.fc.fk.fh,p1.fc.fI,false,r624)))) (λr625=>.fail)) (.fail)) (.br 999999 (Ir p1.fc.fF p1.fc.fw p0.fp [QU 2,QU 4,QU 4]) (.br 990001 true (.sub (gN p1 p0) λr616=>.Qo 2003 (X2 true 8) [] [] (λr617=>.Qo 3004 (rB p0.fe p1) [(zA,zA)] [] (λr618=>.done (.inl ({ p1.fc with fw:=r618.1,fm:=r618.2.1,fE:=r618.2.2.1,fk:=U1.mk p1.fc.fk.fB p1.fc.fk.fQ r618.2.2.2.1,fI:=r618.q.1,fo:=r618.q.2.1,fC:=Z7.mk r618.q.2.2.1 r618.q.2.2.2.1 r618.q.q },r618.q.2.1))) (λr619=>.done (.inr (p1.fc.fk.fB,p1.fc.fk.fQ,p1.fc.fk.fh,r619.1,r619.2.1,r619.2.2)))) (λr620=>.fail)) (.fail)) (.br 990001 true (.sub (Vm p1 p0) λr613=>.Qo 2003 (X2 false 8) [] [] (λr614=>.fail) (λr615=>.done (.inr (p1.fc.fk.fB,p1.fc.fk.fQ,p1.fc.fk.fh,p1.fc.fI,false,8)))) (.fail)))))))
theorem Qez(p0:Qq)(p1:Q9):UW Tryz.prog GG [0,1,3,4] Tryz.f107 [.ptr 1000000 0 0,.agg (Z0.c p0)] (Ext.of .normal (H3 [.ptr 1000000 0 0,.agg (Z0.c p0)]) [(1000000,⟨22,true,[(X6 p1)]⟩)] [] (by rfl)) (tC p0 p1) (λ(r:Q4×(List Qq))=>.Qt []) (λ(r:Q4×(List Qq))=>Ext.of .normal [] [(1000000,⟨22,true,[(H0 (J4 r.1) [.str p1.QY,.sl false 3 (List.map Z0.c r.2)])]⟩)] [] (by rfl)) (λ(r:za×za×za×za×Bool×Int)=>K0 (.iface (bif r.q.1 then 171 else 124) (.agg #[.int .i64 r.q.2]))) (λ(r:za×za×za×za×Bool×Int)=>Ext.of .normal [] [(1000000,⟨22,true,[(X6 { p1 with fc:={ p1.fc with fk:=⟨r.1,r.2.1,r.2.2.1⟩,fI:=r.2.2.2.1 } })]⟩)] [] (by rfl)):=by unfold UW;kernel_rfl
def pB(p0:Qq)(p1:Q9):O5 Pg GG (Q4×(List Qq)) (za×za×za×za×Bool×Int):=.ofFn 107 [] Q8 Tryz.func107 rfl (λ_=>rfl) (λ_=>rfl) (Qez p0 p1)
structure Q2 where
 fp:Int
 fj:Int
 fG:za
 fP:Qq
noncomputable def lS:Code:=Tryz.f62.body.getD .skip
def Qex(p:Q9)(v:Q2):TT (Unit):=
 .done ()
def TX(p:Q9)(v:Q2):Ext:=Ext.of .normal [(0,.ptr 1000000 0 0),(1,.agg [.i v.fp,.i v.fj,.str v.fG,.i v.fP.fp,.i v.fP.fR,.str v.fP.fe])] [(1000000,⟨22,true,[(X6 p)]⟩)] [] (by rfl)
def FJ(p:Q9)(v:Q2):(Unit)->Ext:=λ(r:Unit)=>Ext.of .normal [(2,.ptr 2 0 0),(3,.ptr 3 0 0)] [(2,⟨1,true,[[.ptr 1000000 0 0]]⟩),(3,⟨6,true,[[.i v.fp,.i v.fj,.str v.fG,.i v.fP.fp,.i v.fP.fR,.str v.fP.fe]]⟩),(1000000,⟨22,true,[(X6 p)]⟩)] [] (by rfl)
theorem Qmi(p:Q9)(v:Q2):Y1 Tryz.prog GG [0,1,2,3] 52 (cL lS) (TX p v) (Qex p v) (FJ p v):=by unfold Y1;kernel_rfl
def jO(p:Q9)(v:Q2):TT ((Q4×(List Qq))⊕(za×za×za×za×Bool×Int)):=
 .br 0 (v.fp==1)
 (.br 4008 (p.fc.fF==1)
  (.Qo 4015 (X2 (p.fc.fw==1) 8) [] [] (λr646=>
    .call 5002 (Qz4 p) [(1000000,2000000)] [] λr648=>
    .done (.inl ({ p.fc with fw:=r648.1,fm:=r648.2.1,fo:=r648.2.2.1,fC:=Z7.mk r648.2.2.2.1 r648.q.1 r648.q.2 },r648.2.2.1)))
   (λr649=>
    .done (.inr (p.fc.fk.fB,p.fc.fk.fQ,p.fc.fk.fh,p.fc.fI,false,8))))
  (.Qo 4015 (X2 false 8) [] [] (λr650=>
    .fail)
   (λr651=>
    .done (.inr (p.fc.fk.fB,p.fc.fk.fQ,p.fc.fk.fh,p.fc.fI,false,8)))))
 (.br 0 (v.fp==2)
  (.Qo 7004 (pB v.fP p) [(1000000,2000000)] [] (λr652=>
    .done (.inl (r652.1,r652.2)))
   (λr653=>
    .done (.inr (r653.1,r653.2.1,r653.2.2.1,r653.2.2.2.1,r653.q.1,r653.q.2))))
  (.br 0 (v.fp==3)
   (.Qo 9002 (Qz3 p) [(1000000,2000000)] [] (λr654=>
     .done (.inl ({ p.fc with fC:=Z7.mk r654.1 r654.2.1 r654.2.2.1 },r654.2.2.2)))
    (λr655=>
     .done (.inr (p.fc.fk.fB,p.fc.fk.fQ,p.fc.fk.fh,p.fc.fI,true,6))))
   (.br 0 (v.fp==4)
    (.br 0 (p.fc.fF==2)
     (.done (.inl (p.fc,p.fc.fo)))
     (.done (.inl (p.fc,p.QL))))
    (.done (.inl (p.fc,p.QL))))))
def TD(p:Q9)(v:Q2):Ext:=Ext.of .normal [(2,.ptr 1000002 0 0),(3,.ptr 1000003 0 0),(4,.fn 104 [] [.ptr 1000002 0 0])] [(1000002,⟨1,true,[[.ptr 2000000 0 0]]⟩),(1000003,⟨6,true,[[.i v.fp,.i v.fj,.str v.fG,.i v.fP.fp,.i v.fP.fR,.str v.fP.fe]]⟩),(2000000,⟨22,true,[(X6 p)]⟩)] [] (by rfl)
def OW(p:Q9)(v:Q2)(r:Q4×(List Qq)):Ext:=Ext.of .normal [(2,.ptr 1000002 0 0)] [(1000002,⟨1,true,[[.ptr 2000000 0 0]]⟩),(1000003,⟨6,true,[[.i v.fp,.i v.fj,.str v.fG,.i v.fP.fp,.i v.fP.fR,.str v.fP.fe]]⟩),(2000000,⟨22,true,[(H0 (J4 r.1) [.str p.QY,.sl false 3 (List.map Z0.c r.2)])]⟩)] [] (by rfl)
def OH(p:Q9)(v:Q2)(r:za×za×za×za×Bool×Int):Ext:=Ext.of (.panic (K0 (.iface (bif r.q.1 then 171 else 124) (.agg #[.int .i64 r.q.2])))) [(2,.ptr 1000002 0 0)] [(1000002,⟨1,true,[[.ptr 2000000 0 0]]⟩),(1000003,⟨6,true,[[.i v.fp,.i v.fj,.str v.fG,.i v.fP.fp,.i v.fP.fR,.str v.fP.fe]]⟩),(2000000,⟨22,true,[(X6 { p with fc:={ p.fc with fk:=⟨r.1,r.2.1,r.2.2.1⟩,fI:=r.2.2.2.1 } })]⟩)] [] (by rfl)
theorem Qma(p:Q9)(v:Q2):Y1 Tryz.prog GG [2,3,4,6,7,26,32,36,43] 52 (cR (cR lS)) (TD p v) (jO p v) (Sum.elim (OW p v) (OH p v)):=by unfold Y1;kernel_rfl
def lG:Array Oper:=Ik (cL (cR lS))
def Nd:Oper:=(lG[0]?).get (by kernel_rfl)
def uW:Oper:=(lG[1]?).get (by kernel_rfl)
theorem eEv:Tryz.f62.body=some ([cL lS].foldr Code.seq (.seq (.region 1 #[Nd,uW] false) (cR (cR lS)))):=by kernel_rfl
noncomputable def cEc:Code:=Tryz.f104.body.getD .skip
def Qhh:Array Oper:=Ik (cL cEc)
def Qeb:Oper:=(Qhh[0]?).get (by kernel_rfl)
theorem eEc:Tryz.f104.body=some (.seq (.region 0 #[Qeb] false) (cR cEc)):=by kernel_rfl
def PW(e:Int):Value:=.iface 171 (.agg #[.int .i64 e])
def Un(e:Int):Value:=.iface 124 (.agg #[.int .i64 e])
def JR(v:Q2):List V:=[.int .i64 v.fp,.int .i64 v.fj,.str v.fG,.int .i64 v.fP.fp,.int .i64 v.fP.fR,.str v.fP.fe]
def Ep(p:Q9)(v:Q2):List (Nat×Qi):=[(1000002,⟨1,true,[[.ptr 2000000 0 0]]⟩),(1000003,⟨6,true,[JR v]⟩),(2000000,⟨22,true,[Oq p]⟩)]
def KU:List V:=[.ptr 1000002 0 0]
def xEc(rv:Value)(h:HK rv=true)(p:Q9)(v:Q2):Ext:=Ext.of .normal [(0,.ptr 1000002 0 0),(4,.Zw rv)] (Ep p v) [] (by rfl)
def BA(p:Q9)(v:Q2):Ext:=Ext.of .normal [] (Ep p v) [] (by rfl)
def uJ(p:Q9)(e:Int)(q:Int×Int×Int):Q9:=⟨⟨p.fc.fF,7,p.fc.fj,p.fc.gc,p.fc.fh,p.fc.fX,p.fc.fB,p.fc.fZ,p.fc.ft,p.fc.fm,zd,⟨zd,zd,zd⟩,zd,[],⟨q.1,q.2.1,q.2.2⟩,e⟩,p.QY,[]⟩
def Qea:TT Unit:=.Qy 3001 (Qw.Qhu 20 20 (.tmp 4) 6 (by kernel_rfl)) λ_=>.tt (.done ())
theorem Qmo(p:Q9)(v:Q2):Y1 Tryz.prog GG [0,4,6] 14 (cR cEc) (xEc .nilIface rfl p v) Qea (λ_=>BA p v):=by unfold Y1;kernel_rfl
theorem asF(e:Int)(w:World):∃v,(Instr.typeAssert (PW e) 20 171 true).run Tryz.prog w=.ok (.tuple #[v,.bool true]) w/\∀γ bs u,Qu γ w bs u (.agg [.int .i64 e]) v:=⟨.agg #[.int .i64 e],by kernel_rfl,λ_ _ _=>.agg [.int .i64 e] [.int .i64 e] rfl λi c x hc hx=>by
 match i,hc,hx with
 | 0,hc,hx=>simp at hc hx;subst hc;subst hx;exact .data (.int _ _)
 | n+1,hc,hx=>simp at hc⟩
theorem asE(e:Int)(w:World):∃v,(Instr.typeAssert (Un e) 20 171 true).run Tryz.prog w=.ok (.tuple #[v,.bool false]) w/\∀γ bs u,Qu γ w bs u (.agg [.int .i64 0]) v:=⟨.agg #[.int .i64 0],by kernel_rfl,λ_ _ _=>.agg [.int .i64 0] [.int .i64 0] rfl λi c x hc hx=>by
 match i,hc,hx with
 | 0,hc,hx=>simp at hc hx;subst hc;subst hx;exact .data (.int _ _)
 | n+1,hc,hx=>simp at hc⟩
def iE(p:Q9)(e:Int):TT (Int×Int×Int):=.Qy 3001 (Qw.uD 20 20 (.tmp 4) 6 171 (.agg #[.int .i64 e]) (by kernel_rfl)) λ_=>.ff (.Qy 5001 (Qw.asserted (.tmp 4) 20 171 7 (PW e) true (.agg [.int .i64 e]) (.agg [.int .i64 0]) λw=>by
 simp_all [asF]) λ_=>.tt (.call 7004 (Qz5 e p) [(1000000,2000000)] [] λq=>.gh 0 (.tell 2000000 [[.undef,.undef,.undef,.undef,.undef,.undef,.undef,.undef,.undef,.undef,.undef,.undef,.undef,.undef,.undef,.sl false 3 [],.undef,.undef,.undef,.undef,.undef,.sl false 3 []]]) (.done q)))
theorem Qml(p:Q9)(v:Q2)(e:Int):Y1 Tryz.prog GG [0,1,2,3,4,5,6,8,9] 14 (cR cEc) (xEc (PW e) rfl p v) (iE p e) (λq=>BA (uJ p e q) v):=by unfold Y1;kernel_rfl
def Qei(e:Int):TT Unit:=.Qy 3001 (Qw.uD 20 20 (.tmp 4) 6 124 (.agg #[.int .i64 e]) (by kernel_rfl)) λ_=>.ff (.Qy 5001 (Qw.asserted (.tmp 4) 20 171 7 (Un e) false (.agg [.int .i64 e]) (.agg [.int .i64 0]) λw=>by
 simp_all [asE]) λ_=>.ff (.UX 2002 (.done ())))
theorem Qmf(p:Q9)(v:Q2)(e:Int):Y1 Tryz.prog GG [0,1,2,3,4,5,6,8,9] 14 (cR cEc) (xEc (Un e) rfl p v) (Qei e) (λ_=>Ext.of (.panic (K0 (Un e))) [] (Ep p v) [] (by rfl)):=by unfold Y1;kernel_rfl
theorem uM(p:Q9)(v:Q2):∀b k,Qe (Ep p v) b=some k->X1 b=true:=λb k h=>by
 obtain⟨q,h1,rfl,_⟩:=ZL h
 simp only[Ep,zO,zT,or_false] at h1
 rcases h1 with rfl|rfl|rfl
 ·grind [X1]
 ·grind [X1]
 grind [X1]
theorem ecD{u u':FrameMode}{rv:Value}(hi:HK rv=true){p:Q9}{v:Q2}{kp:List Nat}{ρ:Type}{g:TT ρ}{E:ρ->Ext}{r:ρ}{ee:Value->Ending}{outs:zg}(hr:HV u rv u')(k:Y1 Tryz.prog GG kp 14 (cR cEc) (xEc rv hi p v) g E)(hg:g.run=some r)(hok:(E r).ok=true)
  (hex:(ee=.returned/\(E r).ex=.normal)\/∃ch,ee=(λ_=>.panicked ch)/\(E r).ex=.panic ch) (hb:∀b k,outs b=some k->Qe (E r).bs b=some k) :
  Wy Tryz.prog GG 104 KU (Qe (Ep p v)) u ee u' outs:=by
 refine Dw (n:=14) (l:=[]) (t1:=4) (rv:=rv) (S1:=((xEc rv hi p v).D 14).st) (ex:=λe=>e=(E r).ex) Tryz.func104 eEc (by kernel_rfl) rfl rfl (by kernel_rfl) (by kernel_rfl) (by kernel_rfl) (by decide) hi hr (by kernel_rfl) (U6.nil ⟨rfl,W0 (xEc rv hi p v) (by rfl) rfl ⟨by rfl,by rfl⟩⟩) ?_ ?_
 ·have h:=k.tv Q8 hg hok
  exact h.mono λe s hq=>⟨hq.1,_,hq.2,λb k hk=>hb b k hk⟩
 ·rcases hex with⟨h1,h2⟩|⟨ch,h1,h2⟩
  ·grind
  simp_all
abbrev EvA:=Q4×List Qq
abbrev EvB:=za×za×za×za×Bool×Int
def evM(p:Q9)(r:EvA):Q9:=⟨r.1,p.QY,r.2⟩
def lF(p:Q9)(r:EvB):Q9:=⟨⟨p.fc.fF,p.fc.fw,p.fc.fj,p.fc.gc,p.fc.fh,p.fc.fX,p.fc.fB,p.fc.fZ,p.fc.ft,p.fc.fm,p.fc.fE,⟨r.1,r.2.1,r.2.2.1⟩,r.2.2.2.1,p.fc.fo,p.fc.fC,p.fc.gd⟩,p.QY,p.QL⟩
def Xu(p:Q9)(v:Q2):Ext:=Ext.of .normal [(2,.ptr 1000002 0 0),(3,.ptr 1000003 0 0)] (Ep p v) [] (by rfl)
def OK(p:Q9)(v:Q2):Ext:=Ext.of .normal [] [(2,⟨1,true,[[.ptr 1000000 0 0]]⟩),(3,⟨6,true,[JR v]⟩),(1000000,⟨22,true,[Oq p]⟩)] [] (by rfl)
def MJ(p:Q9):List (Nat×Qi):=[(1000000,⟨22,true,[Oq p]⟩)]
theorem Qh9{x:Ext}(h:x.us=[1000002,1000003,2000000]):(x.D 52).st.u=Qk:=funext λb=>by
 show (x.us.contains b || Qk b)=Qk b
 rw[h]
 by_cases h1:b=1000002
 ·subst h1;rfl
 ·by_cases h2:b=1000003
  ·subst h2;rfl
  ·by_cases h3:b=2000000
   ·subst h3;rfl
   grind
theorem PK(p:Q9)(v:Q2){q:EvA⊕EvB}{x:Ext}{u u' M:FrameMode}{ee EE:Value->Ending}{p1 p2:Q9}{res:V}{outs:zg}(hx:Sum.elim (OW p v) (OH p v) q=x)(h2:(jO p v).run=some q)(hok:x.ok=true)(hl:Go.EV.Left u x.ex)(hbs:(x.D 52).st.b=Qe (Ep p1 v))(hus:x.us=[1000002,1000003,2000000])
  (hD:Wy Tryz.prog GG 104 KU (Qe (Ep p1 v)) u ee u' (Qe (Ep p2 v))) (hM:∀z,settled u' (ee z)=M) (hne:∀z,ee z≠.outgrown) (houts:∀b k,outs b=some k->Qe (OK p2 v).bs b=some k)
  (hend:(M=.returning/\EE=.returned/\res=.Qt [])\/∃ch,M=.panicking ch/\EE=(λ_=>.panicked ch)/\res=.undef) :
  Wz Tryz.prog GG 62 [.ptr 1000000 0 0,.agg (JR v)] (Qe (MJ p)) EE res outs:=by
 subst hx
 have e0:U3 52 [.ptr 1000000 0 0,.agg (JR v)] (Qe (MJ p))=((TX p v).D 52).st:=(R8 (x:=TX p v) (by rfl) (by rfl) 52).symm
 have t0:=(Qmi p v).tv Q8 (r:=()) rfl (by rfl)
 have t2:=(Qma p v).tv Q8 h2 hok
 have hsh:QH GG ((FJ p v ()).D 52).st.shift ((Xu p v).D 52).st:=by
  have eT:((FJ p v ()).ts.map λp=>(p.1,H8 sh p.2))=(Xu p v).ts:=by kernel_rfl
  have eB:((FJ p v ()).bs.map λp=>(sh p.1,p.2.Qc sh))=(Xu p v).bs:=by kernel_rfl
  rw[JN,eT,eB]
  exact W0 (Xu p v) (by rfl) rfl ⟨by rfl,by rfl⟩
 have hU:QH GG ⟨52,((Sum.elim (OW p v) (OH p v) q).D 52).st.t,Qe (Ep p2 v),λ_=>true⟩ ((OK p2 v).D 52).st.shift:=by
  have eT:((OK p2 v).ts.map λp=>(p.1,H8 sh p.2))=(BA p2 v).ts:=by kernel_rfl
  have eB:((OK p2 v).bs.map λp=>(sh p.1,p.2.Qc sh))=(BA p2 v).bs:=by kernel_rfl
  rw[JN,eT,eB,<-mJ (x:=BA p2 v) _ (by rfl)]
  exact W0 (BA p2 v) (by rfl) rfl ⟨by rfl,by rfl⟩
 have st5:P1 Tryz.prog GG #[Nd,uW] 0 ((Xu p v).D 52).st (((Xu p v).D 52).st.put (some 4) (.fn 104 [] KU)):=C6 (by rfl)
 have g0:M6 #[Nd,uW] ((Xu p v).D 52).st Nd=some true:=by rfl
 have h0:I2 Tryz.prog GG Nd ((Xu p v).D 52).st (((Xu p v).D 52).st.put (some 4) (.fn 104 [] KU)):=by
  unfold P1 at st5
  simp only[show (#[Nd,uW]:Array Oper)[0]?=some Nd from rfl] at st5
  rcases st5 with⟨_,h⟩|⟨h,_⟩
  ·exact h
  ·rw[g0] at h;simp at h
 have gB:QH GG (((Xu p v).D 52).st.put (some 4) (.fn 104 [] KU)) ((TD p v).D 52).st:=W0 (TD p v) (by rfl) rfl ⟨by rfl,by rfl⟩
 refine Dh (As:=[cL lS]) (rest:=cR (cR lS)) (rid:=1) (t:=4) (n:=52) (o0:=Nd) (o1:=uW) (caps:=KU) (insD:=Qe (Ep p1 v)) (outsD:=Qe (Ep p2 v)) (S0:=((FJ p v ()).D 52).st) (S1:=((Xu p v).D 52).st) (S2:=((Sum.elim (OW p v) (OH p v) q).D 52).st) (Sx:=((OK p2 v).D 52).st) (u:=u) (u':=u')
  Tryz.func62 eEv (by kernel_rfl) ?_ hsh h0 g0 (by kernel_rfl) (by kernel_rfl) (by rfl) (TV.ghost gB t2) hl (λc hc=>?_) (show 4 < 52 by decide) ⟨hbs,Qh9 hus⟩ (by grind [uM]) Tryz.func104 (by kernel_rfl) (by kernel_rfl) hD hM hne hU (V3 (ts:=(OK p2 v).ts) (bs:=(OK p2 v).bs) (us:=(OK p2 v).us) (by rfl) (by rfl)) rfl houts ?_
 ·rw[e0]
  show TV _ _ (cL lS) _ _
  exact t0
 ·simp only[KU,zO,zT,or_false] at hc
  subst hc
  exact⟨1000002,_,rfl,by decide,rfl⟩
 ·rcases hend with⟨h1,h2,rfl⟩|h
  ·exact .inl ⟨h1,h2,by kernel_rfl,λγ w v h=>Qu.AW (γ:=γ) (γ':=γ) (by grind) h (by rfl)⟩
  grind
def vW(p:Q9)(v:Q2):Option (Q9⊕Int):=match (jO p v).run with
 | some (.inl r)=>some (.inl (evM p r))
 | some (.inr r)=>bif r.q.1 then (match (iE (lF p r) r.q.2).run with|some q=>some (.inl (uJ (lF p r) r.q.2 q))|none=>none) else some (.inr r.q.2)
 | none=>none
def uK(e:Int):List PanicEntry:=[{ v:=Un e,recovered:=false },{ v:=Un e,recovered:=true }]
theorem Qhz(p:Q9)(v:Q2){p':Q9}(h:vW p v=some (.inl p')):QR Tryz.prog GG 62 [.ptr 1000000 0 0,.agg (JR v)] (Qe (MJ p)) (.Qt []) (Qe (MJ p')):=by
 have sub:∀p2:Q9,∀b k,Qe (MJ p2) b=some k->Qe (OK p2 v).bs b=some k:=λp2 b k hk=>by
  obtain⟨z,h1,rfl,rfl⟩:=ZL hk
  simp only[MJ,zO,zT,or_false] at h1
  subst h1;rfl
 unfold vW at h
 split at h
 ·rename_i r hr
  obtain rfl:=Sum.inl.inj (zW h)
  exact PK p v (p1:=evM p r) (p2:=evM p r) (u:=.returning) (u':=.returning) (M:=.returning) (ee:=.returned) (EE:=.returned) rfl hr (by rfl) (.inr (.inl ⟨rfl,rfl⟩)) rfl rfl (ecD rfl (.inl ⟨rfl,rfl,rfl⟩) (Qmo (evM p r) v) (r:=()) rfl (by rfl) (.inl ⟨rfl,rfl⟩) λ_ _ h=>h) (λ_=>rfl) (λ_ h=>by cases h) (sub _) (.inl ⟨rfl,rfl,rfl⟩)
 ·rename_i r hr
  cases hf:r.q.1 with
  | false=>grind
  | true=>
   rw[hf] at h
   simp only[cond_true] at h
   split at h
   ·rename_i q hq
    obtain rfl:=Sum.inl.inj (zW h)
    refine PK p v (p1:=lF p r) (p2:=uJ (lF p r) r.q.2 q) (u:=.panicking (K0 (PW r.q.2))) (u':=.panicking [{ v:=PW r.q.2,recovered:=true }]) (M:=.returning) (ee:=.returned) (EE:=.returned) rfl hr (by rfl) (.inr (.inr ⟨_,rfl,?_⟩)) rfl rfl (ecD rfl (.inr ⟨PW r.q.2,[],rfl,rfl,rfl⟩) (Qml (lF p r) v r.q.2) hq (by rfl) (.inl ⟨rfl,rfl⟩) λ_ _ h=>h) (λ_=>rfl) (λ_ h=>by cases h) (sub _) (.inl ⟨rfl,rfl,rfl⟩)
    grind [K0,PW]
   ·cases h
 ·cases h
theorem vU(p:Q9)(v:Q2){e:Int}(h:vW p v=some (.inr e)):Wz Tryz.prog GG 62 [.ptr 1000000 0 0,.agg (JR v)] (Qe (MJ p)) (λ_=>.panicked (uK e)) .undef Ii:=by
 unfold vW at h
 split at h
 ·cases h
 ·rename_i r hr
  cases hf:r.q.1 with
  | true=>
   grind
  | false=>
   rw[hf] at h
   obtain rfl:=Sum.inr.inj (zW h)
   refine PK p v (p1:=lF p r) (p2:=lF p r) (u:=.panicking (K0 (Un r.q.2))) (u':=.panicking [{ v:=Un r.q.2,recovered:=true }]) (M:=.panicking (uK r.q.2)) (ee:=λ_=>.panicked (K0 (Un r.q.2))) (EE:=λ_=>.panicked (uK r.q.2)) rfl hr (by rfl) (.inr (.inr ⟨_,rfl,?_⟩)) rfl rfl (ecD rfl (.inr ⟨Un r.q.2,[],rfl,rfl,rfl⟩) (Qmf (lF p r) v r.q.2) (r:=()) rfl (by rfl) (.inr ⟨_,rfl,rfl⟩) λ_ _ h=>h) (λ_=>rfl) (λ_ h=>by cases h) (by grind [Ii]) (by grind)
   grind [K0,Un]
 ·cases h
def nW(v:Q2)(p:Q9):O5 Pg GG Q9 Int:=⟨62,[.ptr zA 0 0,.agg (JR v)],MJ p,vW p v,λ_=>.Qt [],MJ,uK,λ_=>[],[],λ_ _ _ h=>by simp at h,λ_ _ _ h=>by simp at h,λ_ h=>Qhz p v h,λ_ h=>vU p v h⟩
def nJ(b:Bool)(e:Int):List PanicEntry:=bif b then uK e else K0 (Un e)
noncomputable def lP:Code:=Tryz.f24.body.getD .skip
def Qem(s:Q4)(v:Q2):TT (Unit):=
 .done ()
def TM(s:Q4)(v:Q2):Ext:=Ext.of .normal [(0,.agg (J4 s)),(1,.agg [.i v.fp,.i v.fj,.str v.fG,.i v.fP.fp,.i v.fP.fR,.str v.fP.fe])] [] [] (by rfl)
def FY(s:Q4)(v:Q2):(Unit)->Ext:=λ(r:Unit)=>Ext.of .normal [(2,.ptr 2 0 0),(3,.ptr 3 0 0),(4,.ptr 4 0 0),(5,.ptr 5 0 0),(6,.ptr 6 0 0)] [(2,⟨20,true,[(J4 s)]⟩),(3,⟨6,true,[[.i v.fp,.i v.fj,.str v.fG,.i v.fP.fp,.i v.fP.fR,.str v.fP.fe]]⟩),(4,⟨20,true,[(H0 [.i 0,.i 0,.i 0] (M5 5 (.str zd) (H0 [.Qj,.i 0] (M5 5 (.str zd) (H0 [.Qj] (M5 4 (.int .i64 0) []))))))]⟩),(5,⟨1,true,[[.Qj]]⟩),(6,⟨1,true,[[.i 0]]⟩)] [] (by rfl)
theorem Qm2(s:Q4)(v:Q2):Y1 Tryz.prog GG [0,1,2,3,4,5,6] 76 (cL lP) (TM s v) (Qem s v) (FY s v):=by unfold Y1;kernel_rfl
def g61(p0:List Qq):TT Unit:=.app 3003 Z0 [] p0 32 true (by intros;rfl) (.done ())
theorem Qms:Y1 Tryz.prog GG [2] 8 (MM Tryz.f61.body) (Ext.l .normal [(2,.Qj)] []) (.done ():TT Unit) (λ_=>Ext.l .ret [(2,.Qj)] []):=by unfold Y1;kernel_rfl
theorem Qmb(p0:List Qq):Y1 Tryz.prog GG [0,2,5,6,7] 8 (WQ Tryz.f61.body) (Ext.l .normal [(0,.sl false 3 (List.map Z0.c p0)),(2,.Qj)] []) (g61 p0) (λ_=>Ext.of .ret [(2,.ref 7 0 ([]++p0).length)] [] [BT.of 7 Z0 3 ([]++p0)] (by rfl)):=by unfold Y1;kernel_rfl
theorem k61(p0:(List Qq)){r:Unit}(h:(g61 p0).run=some r):QR Tryz.prog GG 61 [.sl false 3 (List.map Z0.c p0)] (Qe []) (.ref 7 0 p0.length) (Qe [(7,⟨3,true,List.map Z0.c p0⟩)]):=
 Ng (ty:=Z0) (ops0:=Oo Tryz.f61.body) (ops1:=Oi Tryz.f61.body) (yes:=MM Tryz.f61.body) (rest:=WQ Tryz.f61.body) (t:=43) Q8 (by decide) Tryz.func61 (by kernel_rfl) (by kernel_rfl) (by kernel_rfl) (by kernel_rfl) (by kernel_rfl) (by kernel_rfl) (by kernel_rfl) (by kernel_rfl) (by kernel_rfl) Qms (Qmb p0) (by rfl) h
def s61(p0:List Qq):Sp Unit:=⟨61,[Sl 3 Z0 p0],[],(g61 p0).run,λ_=>Rf 7 p0,λ_=>[(7,⟨3,true,List.map Z0.c p0⟩)],[7],λ_ p hp _=>by rw[wm.1 hp];exact Z0.data _,λ_ h=>k61 p0 h⟩
def jI(s:Q4)(v:Q2):TT ((Q4×(List Qq))⊕(Bool×Int)):=
 .cl 2002 (s28 s) λr656=>
 .Qo 2004 (X2 (r656==0) 200) [] [] (λr657=>
  .br 3005 (decide ((1:Int)<=v.fp))
  (.br 3010 (decide (v.fp<=4))
   (.br 3017 (decide (s.fj<=v.fj))
    (.br 3022 (decide (v.fj<=1099511627776))
     (.Qo 3027 (X2 (decide ((v.fG.size:Int)<=64)) 2) [] [] (λr658=>
       .br 4005 (v.fp != 2)
       (.Qo 4010 (X2 true 2) [] [] (λr659=>
         .cl 5004 (s59 v.fG) λr660=>
         .call 7003 (s60 s.ft) [] [(7,500016)] λr661=>
         .call 7006 (s61 s.fo) [] [(7,500017)] λr662=>
         .gh 10 (.share (QE.o 500016 Z2 s.ft) 0) (.gh 10 (.share (QE.o 500017 Z0 s.fo) 0) (.gh 10 (.tell 7 [(M5 21 .undef [.sl false 3 (List.map Z0.c [])])]) (.Qo 8002 (nW v (Q9.mk { s with fj:=v.fj } r660 [])) [(1000000,7)] [] (λr663=>
          .call 9005 (s61 r663.QL) [] [(7,500018)] λr664=>
          .gh 0 (.share (QE.o 500018 Z0 r663.QL) 0) (.done (.inl (r663.fc,r663.QL))))
         (λr665=>
          .done (.inr (true,r665)))))))
        (λr666=>
         .fail))
       (.cl 4007 (s58 v.fP) λr667=>
        .Qo 4010 (X2 (r667==0) 2) [] [] (λr668=>
         .cl 5004 (s59 v.fG) λr669=>
         .call 7003 (s60 s.ft) [] [(7,500019)] λr670=>
         .call 7006 (s61 s.fo) [] [(7,500020)] λr671=>
         .gh 10 (.share (QE.o 500019 Z2 s.ft) 0) (.gh 10 (.share (QE.o 500020 Z0 s.fo) 0) (.gh 10 (.tell 7 [(M5 21 .undef [.sl false 3 (List.map Z0.c [])])]) (.Qo 8002 (nW v (Q9.mk { s with fj:=v.fj } r669 [])) [(1000000,7)] [] (λr672=>
          .call 9005 (s61 r672.QL) [] [(7,500021)] λr673=>
          .gh 0 (.share (QE.o 500021 Z0 r672.QL) 0) (.done (.inl (r672.fc,r672.QL))))
         (λr674=>
          .done (.inr (true,r674)))))))
        (λr675=>
         .done (.inr (false,2)))))
      (λr676=>
       .done (.inr (false,2))))
     (.Qo 3027 (X2 false 2) [] [] (λr677=>
       .fail)
      (λr678=>
       .done (.inr (false,2)))))
    (.Qo 3027 (X2 false 2) [] [] (λr679=>
      .fail)
     (λr680=>
      .done (.inr (false,2)))))
   (.Qo 3027 (X2 false 2) [] [] (λr681=>
     .fail)
    (λr682=>
     .done (.inr (false,2)))))
  (.Qo 3027 (X2 false 2) [] [] (λr683=>
    .fail)
   (λr684=>
    .done (.inr (false,2)))))
 (λr685=>
  .done (.inr (false,200)))
def TK(s:Q4)(v:Q2):Ext:=Ext.of .normal [(2,.ptr 1000002 0 0),(3,.ptr 1000003 0 0),(4,.ptr 1000004 0 0),(5,.ptr 1000005 0 0),(6,.ptr 1000006 0 0),(8,.fn 56 [] [.ptr 1000004 0 0,.ptr 1000005 0 0,.ptr 1000006 0 0])] [(1000002,⟨20,true,[(J4 s)]⟩),(1000003,⟨6,true,[[.i v.fp,.i v.fj,.str v.fG,.i v.fP.fp,.i v.fP.fR,.str v.fP.fe]]⟩),(1000004,⟨20,true,[(H0 [.i 0,.i 0,.i 0] (M5 5 (.str zd) (H0 [.Qj,.i 0] (M5 5 (.str zd) (H0 [.Qj] (M5 4 (.int .i64 0) []))))))]⟩),(1000005,⟨1,true,[[.Qj]]⟩),(1000006,⟨1,true,[[.i 0]]⟩)] [] (by rfl)
def OU(s:Q4)(v:Q2)(r:Q4×(List Qq)):Ext:=Ext.of .ret [(4,.ptr 1000004 0 0),(5,.ptr 1000005 0 0),(6,.ptr 1000006 0 0)] [(1000002,⟨20,true,[(J4 s)]⟩),(1000003,⟨6,true,[[.i v.fp,.i v.fj,.str v.fG,.i v.fP.fp,.i v.fP.fR,.str v.fP.fe]]⟩),(1000004,⟨20,true,[(J4 r.1)]⟩),(1000005,⟨1,true,[[.sl false 3 (List.map Z0.c r.2)]]⟩),(1000006,⟨1,true,[[.i 0]]⟩)] [] (by rfl)
def OJ(s:Q4)(v:Q2)(r:Bool×Int):Ext:=Ext.of (.panic (nJ r.1 r.2)) [(4,.ptr 1000004 0 0),(5,.ptr 1000005 0 0),(6,.ptr 1000006 0 0)] [(1000002,⟨20,true,[(J4 s)]⟩),(1000003,⟨6,true,[[.i v.fp,.i v.fj,.str v.fG,.i v.fP.fp,.i v.fP.fR,.str v.fP.fe]]⟩),(1000004,⟨20,true,[(H0 [.i 0,.i 0,.i 0] (M5 5 (.str zd) (H0 [.Qj,.i 0] (M5 5 (.str zd) (H0 [.Qj] (M5 4 (.int .i64 0) []))))))]⟩),(1000005,⟨1,true,[[.Qj]]⟩),(1000006,⟨1,true,[[.i 0]]⟩)] [] (by rfl)
theorem Qm1(s:Q4)(v:Q2):Y1 Tryz.prog GG [2,3,4,5,6,7,8] 76 (cR (cR lP)) (TK s v) (jI s v) (Sum.elim (OU s v) (OJ s v)):=by unfold Y1;kernel_rfl
def oC:Array Oper:=Ik (cL (cR lP))
def FP:Oper:=(oC[0]?).get (by kernel_rfl)
def Vi:Oper:=(oC[1]?).get (by kernel_rfl)
theorem eSt:Tryz.f24.body=some ([cL lP].foldr Code.seq (.seq (.region 1 #[FP,Vi] false) (cR (cR lP)))):=by kernel_rfl
noncomputable def cSc:Code:=Tryz.f56.body.getD .skip
def Gj:Array Oper:=Ik (cL cSc)
def Qqc:Oper:=(Gj[0]?).get (by kernel_rfl)
theorem eSc:Tryz.f56.body=some (.seq (.region 0 Gj false) (cR cSc)):=by kernel_rfl
abbrev TJ:=Q4×List Qq×Int
def Ho(h:Q4):List V:=[.int .i64 h.fF,.int .i64 h.fw,.int .i64 h.fj,.str h.gc,.str h.fh,.str h.fX,.str h.fB,.str h.fZ,.sl false 1 (h.ft.map Z2.c),.int .i64 h.fm,.str h.fE,.str h.fk.fB,.str h.fk.fQ,.str h.fk.fh,.str h.fI,.sl false 3 (h.fo.map Z0.c),.int .i64 h.fC.fq,.int .i64 h.fC.fV,.int .i64 h.fC.fM,.int .i64 h.gd]
def BC:Q4:=⟨0,0,0,zd,zd,zd,zd,zd,[],0,zd,⟨zd,zd,zd⟩,zd,[],⟨0,0,0⟩,0⟩
def gK:List V:=[.int .i64 0,.int .i64 0,.int .i64 0,.str zd,.str zd,.str zd,.str zd,.str zd,.Qj,.int .i64 0,.str zd,.str zd,.str zd,.str zd,.str zd,.Qj,.int .i64 0,.int .i64 0,.int .i64 0,.int .i64 0]
def Xp(s:Q4)(v:Q2)(row:List V)(l:V)(e:Int):List (Nat×Qi):=[(1000002,⟨20,true,[Ho s]⟩),(1000003,⟨6,true,[JR v]⟩),(1000004,⟨20,true,[row]⟩),(1000005,⟨1,true,[[l]]⟩),(1000006,⟨1,true,[[.int .i64 e]]⟩)]
def FC(s:Q4)(v:Q2)(r:TJ):List (Nat×Qi):=Xp s v (Ho r.1) (.sl false 3 (r.2.1.map Z0.c)) r.2.2
def FB(s:Q4)(v:Q2)(e:Int):List (Nat×Qi):=Xp s v gK .Qj e
def Ju:List V:=[.ptr 1000004 0 0,.ptr 1000005 0 0,.ptr 1000006 0 0]
def Qqb:List (Nat×V):=[(0,.ptr 1000004 0 0),(1,.ptr 1000005 0 0),(2,.ptr 1000006 0 0)]
def BD(rv:Value)(h:HK rv=true)(bs:List (Nat×Qi)):Ext:=Ext.of .normal (Qqb++[(6,.Zw rv)]) bs [] (by simp)
def FH(b:Bool)(e:Int)(bs:List (Nat×Qi)):Ext:=Ext.of .normal (Qqb++[(3,.ptr 3 0 0),(4,.bool b)]) ((3,⟨1,true,[[.i e]]⟩) :: bs) [] (by simp)
def BX(bs:List (Nat×Qi)):Ext:=Ext.of .normal [] bs [] (by simp)
theorem asS(e:Int)(w:World):∃v,(Instr.typeAssert (Un e) 20 124 true).run Tryz.prog w=.ok (.tuple #[v,.bool true]) w/\∀γ bs u,Qu γ w bs u (.agg [.int .i64 e]) v:=⟨.agg #[.int .i64 e],by kernel_rfl,λ_ _ _=>.agg [.int .i64 e] [.int .i64 e] rfl λi c x hc hx=>by
 match i,hc,hx with
 | 0,hc,hx=>simp at hc hx;subst hc;subst hx;exact .data (.int _ _)
 | n+1,hc,hx=>simp at hc⟩
theorem asZ(w:World):∃v,(Instr.typeAssert .nilIface 20 124 true).run Tryz.prog w=.ok (.tuple #[v,.bool false]) w/\∀γ bs u,Qu γ w bs u (.agg [.int .i64 0]) v:=⟨.agg #[.int .i64 0],by kernel_rfl,λ_ _ _=>.agg [.int .i64 0] [.int .i64 0] rfl λi c x hc hx=>by
 match i,hc,hx with
 | 0,hc,hx=>simp at hc hx;subst hc;subst hx;exact .data (.int _ _)
 | n+1,hc,hx=>simp at hc⟩
def Qed:TT Unit:=.Qy 2 (Qw.asserted (.tmp 6) 20 124 7 .nilIface false (.agg [.int .i64 0]) (.agg [.int .i64 0]) λw=>by
 simp_all [asZ]) λ_=>.done ()
def Qee(e:Int):TT Unit:=.Qy 2 (Qw.asserted (.tmp 6) 20 124 7 (Un e) true (.agg [.int .i64 e]) (.agg [.int .i64 0]) λw=>by
 simp_all [asS]) λ_=>.done ()
theorem Qm4(s:Q4)(v:Q2)(r:TJ):W5 Tryz.prog GG [0,1,2,3,4] 14 0 (P7 Gj 6) 8 (BD .nilIface rfl (FC s v r)) Qed (λ_=>FH false 0 (FC s v r)):=by unfold W5;kernel_rfl
theorem Qm3(s:Q4)(v:Q2)(e:Int):W5 Tryz.prog GG [0,1,2,3,4] 14 0 (P7 Gj 6) 8 (BD (Un e) rfl (FB s v 0)) (Qee e) (λ_=>FH true e (FB s v 0)):=by unfold W5;kernel_rfl
def Qyz:TT Unit:=.ff (.done ())
def Qyq:TT Unit:=.tt (.done ())
theorem Qy0(s:Q4)(v:Q2)(r:TJ):Y1 Tryz.prog GG [0,1,2,3,4,10] 14 (cR cSc) (FH false 0 (FC s v r)) Qyz (λ_=>BX (FC s v r)):=by unfold Y1;kernel_rfl
theorem Qzv(s:Q4)(v:Q2)(e:Int):Y1 Tryz.prog GG [0,1,2,3,4,10] 14 (cR cSc) (FH true e (FB s v 0)) Qyq (λ_=>BX (FB s v e)):=by unfold Y1;kernel_rfl
theorem Vn(s:Q4)(v:Q2)(row:List V)(l:V)(e:Int):∀b k,Qe (Xp s v row l e) b=some k->X1 b=true:=λb k h=>by
 obtain⟨q,h1,rfl,_⟩:=ZL h
 simp only[Xp,zO,zT,or_false] at h1
 rcases h1 with rfl|rfl|rfl|rfl|rfl
 ·grind [X1]
 ·grind [X1]
 ·grind [X1]
 ·grind [X1]
 grind [X1]
theorem stD{u u':FrameMode}{rv:Value}{b:Bool}{e:Int}{bs bs':List (Nat×Qi)}{g g2:TT Unit}(hi:HK rv=true)(hr:HV u rv u')(k:W5 Tryz.prog GG [0,1,2,3,4] 14 0 (P7 Gj 6) 8 (BD rv hi bs) g (λ_=>FH b e bs))(hg:g.run=some ())
  (k2:Y1 Tryz.prog GG [0,1,2,3,4,10] 14 (cR cSc) (FH b e bs) g2 (λ_=>BX bs')) (hg2:g2.run=some ()) (hok:(FH b e bs).ok=true) (hok2:(BX bs').ok=true)
  (h0:QH GG ((U3 14 Ju (Qe bs)).put (some 6) (.Zw rv)) ((BD rv hi bs).D 14).st) :
  Wy Tryz.prog GG 56 Ju (Qe bs) u .returned u' (Qe bs'):=by
 refine Dw (n:=14) (l:=List.range' 1 7) (t1:=6) (rv:=rv) (S1:=((FH b e bs).D 14).st) (ex:=λe=>e=.normal) Tryz.func56 eSc (by kernel_rfl) (o0:=Qqc) (by kernel_rfl) (by kernel_rfl) (by kernel_rfl) (by kernel_rfl) (by kernel_rfl) (by decide) hi hr (by kernel_rfl) (U6.ghost h0 ?_) ?_ (by grind)
 ·exact W5.qQ (o0:=Qqc) (by kernel_rfl) (by kernel_rfl) (by kernel_rfl) k Q8 hg hok
 ·exact(k2.tv Q8 hg2 hok2).mono λe s hq=>⟨hq.1,_,hq.2,λb k hk=>by
   have e0:(BX bs').bs=bs':=wz bs'
   show Qe (BX bs').bs b=some k
   grind⟩
theorem Qqn(s:Q4)(v:Q2)(r:TJ):Wy Tryz.prog GG 56 Ju (Qe (FC s v r)) .returning .returned .returning (Qe (FC s v r)):=
 stD rfl (.inl ⟨rfl,rfl,rfl⟩) (Qm4 s v r) rfl (Qy0 s v r) rfl (by rfl) (by rfl) (W0 (BD .nilIface rfl (FC s v r)) (by rfl) rfl ⟨by rfl,by rfl⟩)
def stU(b:Bool)(e:Int):FrameMode:=.panicking ({ v:=Un e,recovered:=true } :: bif b then [{ v:=Un e,recovered:=true }] else [])
theorem Qqr(s:Q4)(v:Q2)(b:Bool)(e:Int):Wy Tryz.prog GG 56 Ju (Qe (FB s v 0)) (.panicking (nJ b e)) .returned (stU b e) (Qe (FB s v e)):=
 stD rfl (.inr (by cases b<;>exact⟨Un e,_,rfl,rfl,rfl⟩)) (Qm3 s v e) rfl (Qzv s v e) rfl (by rfl) (by rfl) (W0 (BD (Un e) rfl (FB s v 0)) (by rfl) rfl ⟨by rfl,by rfl⟩)
def Xj(s:Q4)(v:Q2):Ext:=Ext.of .normal [(2,.ptr 1000002 0 0),(3,.ptr 1000003 0 0),(4,.ptr 1000004 0 0),(5,.ptr 1000005 0 0),(6,.ptr 1000006 0 0)] (FB s v 0) [] (by rfl)
def Rk(s:Q4)(v:Q2)(r:TJ):Ext:=Ext.of .normal [(4,.ptr 4 0 0),(5,.ptr 5 0 0),(6,.ptr 6 0 0)] [(2,⟨20,true,[Ho s]⟩),(3,⟨6,true,[JR v]⟩),(4,⟨20,true,[Ho r.1]⟩),(5,⟨1,true,[[.sl false 3 (r.2.1.map Z0.c)]]⟩),(6,⟨1,true,[[.i r.2.2]]⟩)] [] (by rfl)
def BE(s:Q4)(v:Q2)(r:TJ):Ext:=Ext.of .normal [(4,.ptr 1000004 0 0),(5,.ptr 1000005 0 0),(6,.ptr 1000006 0 0)] (FC s v r) [] (by rfl)
def stV(r:TJ):V:=.Qt [.agg (Ho r.1),.sl false 3 (r.2.1.map Z0.c),.int .i64 r.2.2]
theorem Qql{x:Ext}(h:x.us=[1000002,1000003,1000004,1000005,1000006]):(x.D 76).st.u=Qk:=funext λb=>by
 show (x.us.contains b || Qk b)=Qk b
 rw[h]
 by_cases h1:b=1000002
 ·subst h1;rfl
 ·by_cases h2:b=1000003
  ·subst h2;rfl
  ·by_cases h3:b=1000004
   ·subst h3;rfl
   ·by_cases h4:b=1000005
    ·subst h4;rfl
    ·by_cases h5:b=1000006
     ·subst h5;rfl
     grind
theorem Vo(s:Q4)(v:Q2){q:_⊕(Bool×Int)}{x:Ext}{u u':FrameMode}{row1 row2:List V}{l1 l2:V}{e1 e2:Int}{r:TJ}(hx:Sum.elim (OU s v) (OJ s v) q=x)(h2:(jI s v).run=some q)(hok:x.ok=true)(hl:Go.EV.Left u x.ex)(hbs:(x.D 76).st.b=Qe (Xp s v row1 l1 e1))(hus:x.us=[1000002,1000003,1000004,1000005,1000006])
  (hD:Wy Tryz.prog GG 56 Ju (Qe (Xp s v row1 l1 e1)) u .returned u' (Qe (Xp s v row2 l2 e2))) (hM:settle u'=.returning)
  (hU:QH GG ⟨76,(x.D 76).st.t,Qe (Xp s v row2 l2 e2),λ_=>true⟩ ((BE s v r).D 76).st) :
  QR Tryz.prog GG 24 [.agg (Ho s),.agg (JR v)] (Qe []) (stV r) (Qe []):=by
 subst hx
 have e0:U3 76 [.agg (Ho s),.agg (JR v)] (Qe [])=((TM s v).D 76).st:=(R8 (x:=TM s v) (by rfl) (by rfl) 76).symm
 have t0:=(Qm2 s v).tv Q8 (r:=()) rfl (by rfl)
 have t2:=(Qm1 s v).tv Q8 h2 hok
 have hsh:QH GG ((FY s v ()).D 76).st.shift ((Xj s v).D 76).st:=by
  have eT:((FY s v ()).ts.map λp=>(p.1,H8 sh p.2))=(Xj s v).ts:=by kernel_rfl
  have eB:((FY s v ()).bs.map λp=>(sh p.1,p.2.Qc sh))=(Xj s v).bs:=by kernel_rfl
  rw[JN,eT,eB]
  exact W0 (Xj s v) (by rfl) rfl ⟨by rfl,by rfl⟩
 have hU':QH GG ⟨76,((Sum.elim (OU s v) (OJ s v) q).D 76).st.t,Qe (Xp s v row2 l2 e2),λ_=>true⟩ ((Rk s v r).D 76).st.shift:=by
  have eT:((Rk s v r).ts.map λp=>(p.1,H8 sh p.2))=(BE s v r).ts:=by kernel_rfl
  have eB:((Rk s v r).bs.map λp=>(sh p.1,p.2.Qc sh))=(BE s v r).bs:=by kernel_rfl
  rw[JN,eT,eB,<-mJ (x:=BE s v r) _ (by rfl)]
  exact hU
 have st5:P1 Tryz.prog GG #[FP,Vi] 0 ((Xj s v).D 76).st (((Xj s v).D 76).st.put (some 8) (.fn 56 [] Ju)):=C6 (by rfl)
 have g0:M6 #[FP,Vi] ((Xj s v).D 76).st FP=some true:=by rfl
 have h0:I2 Tryz.prog GG FP ((Xj s v).D 76).st (((Xj s v).D 76).st.put (some 8) (.fn 56 [] Ju)):=by
  unfold P1 at st5
  simp only[show (#[FP,Vi]:Array Oper)[0]?=some FP from rfl] at st5
  rcases st5 with⟨_,h⟩|⟨h,_⟩
  ·exact h
  ·rw[g0] at h;simp at h
 have gB:QH GG (((Xj s v).D 76).st.put (some 8) (.fn 56 [] Ju)) ((TK s v).D 76).st:=W0 (TK s v) (by rfl) rfl ⟨by rfl,by rfl⟩
 refine Dh (As:=[cL lP]) (rest:=cR (cR lP)) (rid:=1) (t:=8) (n:=76) (o0:=FP) (o1:=Vi) (caps:=Ju) (insD:=Qe (Xp s v row1 l1 e1)) (outsD:=Qe (Xp s v row2 l2 e2)) (S0:=((FY s v ()).D 76).st) (S1:=((Xj s v).D 76).st) (S2:=((Sum.elim (OU s v) (OJ s v) q).D 76).st) (Sx:=((Rk s v r).D 76).st) (u:=u) (u':=u') (M:=.returning)
  Tryz.func24 eSt (by kernel_rfl) ?_ hsh h0 g0 (by kernel_rfl) (by kernel_rfl) (by rfl) (TV.ghost gB t2) hl (λc hc=>?_) (show 8 < 76 by decide) ⟨hbs,Qql hus⟩ (by grind [Vn]) Tryz.func56 (by kernel_rfl) (by kernel_rfl) hD (λ_=>hM) (λ_ h=>by cases h) hU' (V3 (ts:=(Rk s v r).ts) (bs:=(Rk s v r).bs) (us:=(Rk s v r).us) (by rfl) (by rfl)) rfl (by grind [Qe]) (.inl ⟨rfl,rfl,by kernel_rfl,λγ w v h=>Qu.AW (γ:=γ) (γ':=γ) (by grind) h (by rfl)⟩)
 ·rw[e0]
  show TV _ _ (cL lP) _ _
  exact t0
 ·simp only[Ju,zO,zT,or_false] at hc
  rcases hc with rfl|rfl|rfl
  ·exact⟨1000004,_,rfl,by decide,rfl⟩
  ·exact⟨1000005,_,rfl,by decide,rfl⟩
  ·exact⟨1000006,_,rfl,by decide,rfl⟩
def Vl(r:Q4×List Qq):TJ:=(r.1,r.2,0)
def stM(s:Q4)(v:Q2):Option TJ:=match (jI s v).run with
 | some (.inl r)=>some (Vl r)
 | some (.inr r)=>some (BC,[],r.2)
 | none=>none
theorem Qqg(s:Q4)(v:Q2){r:TJ}(h:stM s v=some r):QR Tryz.prog GG 24 [.agg (Ho s),.agg (JR v)] (Qe []) (stV r) (Qe []):=by
 unfold stM at h
 split at h
 ·rename_i q hq
  obtain rfl:=zW h
  exact Vo s v (u:=.returning) (u':=.returning) (row1:=Ho (Vl q).1) (row2:=Ho (Vl q).1) (l1:=.sl false 3 ((Vl q).2.1.map Z0.c)) (l2:=.sl false 3 ((Vl q).2.1.map Z0.c)) (e1:=(Vl q).2.2) (e2:=(Vl q).2.2) (r:=Vl q) rfl hq (by rfl) (.inl ⟨rfl,rfl⟩) rfl rfl (Qqn s v (Vl q)) rfl (W0 (BE s v (Vl q)) (by rfl) rfl ⟨by rfl,by rfl⟩)
 ·rename_i q hq
  obtain rfl:=zW h
  exact Vo s v (u:=.panicking (nJ q.1 q.2)) (u':=stU q.1 q.2) (row1:=gK) (row2:=gK) (l1:=.Qj) (l2:=.Qj) (e1:=0) (e2:=q.2) (r:=(BC,[],q.2)) rfl hq (by rfl) (.inr (.inr ⟨_,rfl,rfl⟩)) rfl rfl (Qqr s v q.1 q.2) (by cases q.1<;>rfl) (W0 (BE s v (BC,[],q.2)) (by rfl) rfl ⟨by rfl,by rfl⟩)
 ·cases h
def mI(p0:Q4)(p1:Q2):Sp TJ:=⟨24,[.agg (Ho p0),.agg (JR p1)],[],stM p0 p1,stV,λ_=>[],[],λ_ _ h=>by simp at h,λ_ h=>Qqg p0 p1 h⟩
def Q7:Ty Bool:=⟨λx=>[.bool x],λx=>[.bool x],λ_=>rfl,λ_=>rfl,λ_ _=>rfl,λ_=>rfl⟩
def zl(a b c:Nat)(f:zh):=Qw.EB (P:=Tryz.prog) (G:=GG) 289 (.tmp a) b c ⟨1,true,(List.map Q7.c (vec f))⟩ (.agg (W6 f))
def zm(a b c:Nat)(f g:zh):=Qw.Km (P:=Tryz.prog) (G:=GG) (ty:=Q7) 289 (.tmp a) (.tmp b) c ⟨1,true,(List.map Q7.c (vec f))⟩ (.agg (W6 g)) (vec g)
def zu(a:Nat):=Qw.KX (P:=Tryz.prog) (G:=GG) (ty:=Q7) 289 a (vec (λ_=>false))
def zx(a b c d:Nat)(f:zh)(i:Int):=Qw.ZD (P:=Tryz.prog) (G:=GG) (e:=4) 289 (.tmp a) (.tmp b) c d ⟨1,true,(List.map Q7.c (vec f))⟩ 0 .i64 i 32
def Qyr(p0:Int):TT ((Nat->Bool)):=.Qy 1 (zu 2) λ_=>.Qy 1001 (zu 3) λ_=>.bind 1 (.lp (λ(l688:(Nat->Bool)×Int×Int)=>Ext.of .normal [(0,.i l688.2.1),(2,.ptr 2 0 0),(3,.ptr 3 0 0),(4,.i l688.2.2)] [] [BT.of 2 Q7 1 (vec (λ_=>false)) true,BT.of 3 Q7 1 (vec l688.1) true] (by rfl)) (λl688=>.br 0 (decide ((0:Int)<=l688.2.2)) (.Qy 5005 (zx 3 9 13 3 l688.1 l688.2.2) λ_=>.row 5006 Q7 (vec l688.1) (0+l688.2.2.toNat) true λx689=>.re 5006 (Yo.Pj 3 Q7 l688.1 (0+l688.2.2.toNat) ((Int.tmod l688.2.1 2)==1)) (.done (.inl ((FI l688.1 (0+l688.2.2.toNat) ((Int.tmod l688.2.1 2)==1)),(Q0 (Int.tdiv l688.2.1 2)),(Q0 (l688.2.2 - 1)))))) (.done (.inr l688.1))) ((λ_=>false),p0,31)) (λ(e690:(Nat->Bool))=>Ext.of (.exit 0) [(2,.ptr 2 0 0),(3,.ptr 3 0 0)] [] [BT.of 2 Q7 1 (vec (λ_=>false)) true,BT.of 3 Q7 1 (vec e690) true] (by rfl)) (λe690=>.Qy 7001 (zl 3 16 3 e690) λ_=>.Qy 7002 (zm 2 16 2 (λ_=>false) e690) λ_=>.done e690)
def Iz(p0:Int):Sp ((Nat->Bool)):=oF [0,2,3,4,6] Tryz.func230 [.i p0] (Qyr p0) (λr=>.agg (W6 r))
def zw(a b:Nat)(f:zh):=Qw.EW (P:=Tryz.prog) (G:=GG) (ty:=Q7) 289 (.tmp a) b (vec f)
def Qyn(p0:zh):TT (Int):=.Qy 1 (zw 0 1 p0) λ_=>.bind 1 (.lp (λ(l693:Int×Int)=>Ext.of .normal [(1,.ptr 1 0 0),(2,.i 0),(3,.i l693.1),(4,.i l693.2)] [] [BT.of 1 Q7 1 (vec p0) true] (by rfl)) (λl693=>.br 0 (decide (l693.2 < 32)) (.Qy 6002 (zx 1 11 12 1 p0 l693.2) λ_=>.row 6003 Q7 (vec p0) (0+l693.2.toNat) true λx694=>.br 0 x694 (.done (.inl ((Q0 ((Q0 ((2:Int) * l693.1))+1)),(Q0 (l693.2+1))))) (.done (.inl ((Q0 ((2:Int) * l693.1)),(Q0 (l693.2+1)))))) (.done (.inr l693.1))) (0,0)) (λ(e695:Int)=>Ext.l (.exit 0) [(2,.i 0),(3,.i e695)] []) (λe695=>.done e695)
def Gm(p0:zh):Sp (Int):=oF [0,1,2,3,4,6,13] Tryz.func232 [.agg (W6 p0)] (Qyn p0) (λr=>.int .i64 r)
def Qyf(p0:zh)(p1:Int):TT ((Nat->Bool)):=.Qy 1 (zw 0 2 p0) λ_=>.Qy 2 (zu 4) λ_=>.Qy 1001 (zu 5) λ_=>.bind 1 (.lp (λ(l699:(Nat->Bool)×Int)=>Ext.of .normal [(1,.i p1),(2,.ptr 2 0 0),(4,.ptr 4 0 0),(5,.ptr 5 0 0),(6,.i l699.2)] [] [BT.of 2 Q7 1 (vec p0) true,BT.of 4 Q7 1 (vec (λ_=>false)) true,BT.of 5 Q7 1 (vec l699.1) true] (by rfl)) (λl699=>.br 0 (decide (l699.2 < 32)) (.Qy 5006 (zx 2 15 16 2 p0 l699.2) λ_=>.row 5007 Q7 (vec p0) (0+l699.2.toNat) true λx700=>.Qy 5008 (Qw.ZD (e:=4) 289 (.tmp 5) (.tmp 14) 18 5 ⟨1,true,(List.map Q7.c (vec l699.1))⟩ 0 .i64 (Int.tmod (Q0 (l699.2+p1)) 32) 32) λ_=>.row 5009 Q7 (vec l699.1) (0+(Int.tmod (Q0 (l699.2+p1)) 32).toNat) true λx701=>.re 5009 (Yo.Pj 5 Q7 l699.1 (0+(Int.tmod (Q0 (l699.2+p1)) 32).toNat) x700) (.done (.inl ((FI l699.1 (0+(Int.tmod (Q0 (l699.2+p1)) 32).toNat) x700),(Q0 (l699.2+1)))))) (.done (.inr l699.1))) ((λ_=>false),0)) (λ(e702:(Nat->Bool))=>Ext.of (.exit 0) [(4,.ptr 4 0 0),(5,.ptr 5 0 0)] [] [BT.of 4 Q7 1 (vec (λ_=>false)) true,BT.of 5 Q7 1 (vec e702) true] (by rfl)) (λe702=>.Qy 6001 (zl 5 19 5 e702) λ_=>.Qy 6002 (zm 4 19 4 (λ_=>false) e702) λ_=>.done e702)
def Df(p0:zh)(p1:Int):Sp ((Nat->Bool)):=oF [0,1,2,4,5,6,8] Tryz.func234 [.agg (W6 p0),.i p1] (Qyf p0 p1) (λr=>.agg (W6 r))
def Qyl(p0:zh)(p1:Int):TT ((Nat->Bool)):=.Qy 1 (zw 0 2 p0) λ_=>.Qy 2 (zu 4) λ_=>.Qy 1001 (zu 5) λ_=>.bind 1 (.lp (λ(l706:(Nat->Bool)×Int)=>Ext.of .normal [(1,.i p1),(2,.ptr 2 0 0),(4,.ptr 4 0 0),(5,.ptr 5 0 0),(6,.i l706.2)] [] [BT.of 2 Q7 1 (vec p0) true,BT.of 4 Q7 1 (vec (λ_=>false)) true,BT.of 5 Q7 1 (vec l706.1) true] (by rfl)) (λl706=>.br 0 (decide ((Q0 (l706.2+p1)) < 32)) (.Qy 5005 (zx 2 16 17 2 p0 l706.2) λ_=>.row 5006 Q7 (vec p0) (0+l706.2.toNat) true λx707=>.Qy 5007 (Qw.ZD (e:=4) 289 (.tmp 5) (.tmp 15) 19 5 ⟨1,true,(List.map Q7.c (vec l706.1))⟩ 0 .i64 (Q0 (l706.2+p1)) 32) λ_=>.row 5008 Q7 (vec l706.1) (0+(Q0 (l706.2+p1)).toNat) true λx708=>.re 5008 (Yo.Pj 5 Q7 l706.1 (0+(Q0 (l706.2+p1)).toNat) x707) (.done (.inl ((FI l706.1 (0+(Q0 (l706.2+p1)).toNat) x707),(Q0 (l706.2+1)))))) (.done (.inr l706.1))) ((λ_=>false),0)) (λ(e709:(Nat->Bool))=>Ext.of (.exit 0) [(4,.ptr 4 0 0),(5,.ptr 5 0 0)] [] [BT.of 4 Q7 1 (vec (λ_=>false)) true,BT.of 5 Q7 1 (vec e709) true] (by rfl)) (λe709=>.Qy 6001 (zl 5 20 5 e709) λ_=>.Qy 6002 (zm 4 20 4 (λ_=>false) e709) λ_=>.done e709)
def dZ(p0:zh)(p1:Int):Sp ((Nat->Bool)):=oF [0,1,2,4,5,6,10] Tryz.func235 [.agg (W6 p0),.i p1] (Qyl p0 p1) (λr=>.agg (W6 r))
def Qyo(p0 p1:zh):TT ((Nat->Bool)):=.Qy 1 (zw 0 2 p0) λ_=>.Qy 2 (zw 1 3 p1) λ_=>.Qy 3 (zu 4) λ_=>.Qy 1001 (zu 5) λ_=>.bind 1 (.lp (λ(l714:(Nat->Bool)×Int)=>Ext.of .normal [(2,.ptr 2 0 0),(3,.ptr 3 0 0),(4,.ptr 4 0 0),(5,.ptr 5 0 0),(6,.i l714.2)] [] [BT.of 2 Q7 1 (vec p0) true,BT.of 3 Q7 1 (vec p1) true,BT.of 4 Q7 1 (vec (λ_=>false)) true,BT.of 5 Q7 1 (vec l714.1) true] (by rfl)) (λl714=>.br 0 (decide (l714.2 < 32)) (.Qy 5003 (zx 2 12 13 2 p0 l714.2) λ_=>.row 5004 Q7 (vec p0) (0+l714.2.toNat) true λx715=>.Qy 5006 (zx 3 15 16 3 p1 l714.2) λ_=>.row 5007 Q7 (vec p1) (0+l714.2.toNat) true λx716=>.Qy 5009 (zx 5 11 19 5 l714.1 l714.2) λ_=>.row 5010 Q7 (vec l714.1) (0+l714.2.toNat) true λx717=>.re 5010 (Yo.Pj 5 Q7 l714.1 (0+l714.2.toNat) (!(x715==x716))) (.done (.inl ((FI l714.1 (0+l714.2.toNat) (!(x715==x716))),(Q0 (l714.2+1)))))) (.done (.inr l714.1))) ((λ_=>false),0)) (λ(e718:(Nat->Bool))=>Ext.of (.exit 0) [(4,.ptr 4 0 0),(5,.ptr 5 0 0)] [] [BT.of 4 Q7 1 (vec (λ_=>false)) true,BT.of 5 Q7 1 (vec e718) true] (by rfl)) (λe718=>.Qy 6001 (zl 5 20 5 e718) λ_=>.Qy 6002 (zm 4 20 4 (λ_=>false) e718) λ_=>.done e718)
def Cq(p0 p1:zh):Sp ((Nat->Bool)):=oF [0,1,2,3,4,5,6,8] Tryz.func236 [.agg (W6 p0),.agg (W6 p1)] (Qyo p0 p1) (λr=>.agg (W6 r))
def Qyi(p0 p1:zh):TT ((Nat->Bool)):=.Qy 1 (zw 0 2 p0) λ_=>.Qy 2 (zw 1 3 p1) λ_=>.Qy 3 (zu 4) λ_=>.Qy 1001 (zu 5) λ_=>.bind 1 (.lp (λ(l724:(Nat->Bool)×Int)=>Ext.of .normal [(2,.ptr 2 0 0),(3,.ptr 3 0 0),(4,.ptr 4 0 0),(5,.ptr 5 0 0),(6,.i l724.2)] [] [BT.of 2 Q7 1 (vec p0) true,BT.of 3 Q7 1 (vec p1) true,BT.of 4 Q7 1 (vec (λ_=>false)) true,BT.of 5 Q7 1 (vec l724.1) true] (by rfl)) (λl724=>.br 0 (decide (l724.2 < 32)) (.Qy 5003 (zx 2 12 13 2 p0 l724.2) λ_=>.row 5004 Q7 (vec p0) (0+l724.2.toNat) true λx725=>.br 5006 x725 (.Qy 5007 (zx 3 16 17 3 p1 l724.2) λ_=>.row 5008 Q7 (vec p1) (0+l724.2.toNat) true λx726=>.Qy 5010 (zx 5 11 20 5 l724.1 l724.2) λ_=>.row 5011 Q7 (vec l724.1) (0+l724.2.toNat) true λx727=>.re 5011 (Yo.Pj 5 Q7 l724.1 (0+l724.2.toNat) x726) (.done (.inl ((FI l724.1 (0+l724.2.toNat) x726),(Q0 (l724.2+1)))))) (.Qy 5010 (zx 5 11 20 5 l724.1 l724.2) λ_=>.row 5011 Q7 (vec l724.1) (0+l724.2.toNat) true λx728=>.re 5011 (Yo.Pj 5 Q7 l724.1 (0+l724.2.toNat) false) (.done (.inl ((FI l724.1 (0+l724.2.toNat) false),(Q0 (l724.2+1))))))) (.done (.inr l724.1))) ((λ_=>false),0)) (λ(e729:(Nat->Bool))=>Ext.of (.exit 0) [(4,.ptr 4 0 0),(5,.ptr 5 0 0)] [] [BT.of 4 Q7 1 (vec (λ_=>false)) true,BT.of 5 Q7 1 (vec e729) true] (by rfl)) (λe729=>.Qy 6001 (zl 5 21 5 e729) λ_=>.Qy 6002 (zm 4 21 4 (λ_=>false) e729) λ_=>.done e729)
def Gk(p0 p1:zh):Sp ((Nat->Bool)):=oF [0,1,2,3,4,5,6,8] Tryz.func237 [.agg (W6 p0),.agg (W6 p1)] (Qyi p0 p1) (λr=>.agg (W6 r))
def Qya(p0:zh):TT ((Nat->Bool)):=.Qy 1 (zw 0 1 p0) λ_=>.Qy 2 (zu 2) λ_=>.Qy 1001 (zu 3) λ_=>.bind 1 (.lp (λ(l733:(Nat->Bool)×Int)=>Ext.of .normal [(1,.ptr 1 0 0),(2,.ptr 2 0 0),(3,.ptr 3 0 0),(4,.i l733.2)] [] [BT.of 1 Q7 1 (vec p0) true,BT.of 2 Q7 1 (vec (λ_=>false)) true,BT.of 3 Q7 1 (vec l733.1) true] (by rfl)) (λl733=>.br 0 (decide (l733.2 < 32)) (.Qy 5003 (zx 1 10 11 1 p0 l733.2) λ_=>.row 5004 Q7 (vec p0) (0+l733.2.toNat) true λx734=>.Qy 5006 (zx 3 9 14 3 l733.1 l733.2) λ_=>.row 5007 Q7 (vec l733.1) (0+l733.2.toNat) true λx735=>.re 5007 (Yo.Pj 3 Q7 l733.1 (0+l733.2.toNat) (!x734)) (.done (.inl ((FI l733.1 (0+l733.2.toNat) (!x734)),(Q0 (l733.2+1)))))) (.done (.inr l733.1))) ((λ_=>false),0)) (λ(e736:(Nat->Bool))=>Ext.of (.exit 0) [(2,.ptr 2 0 0),(3,.ptr 3 0 0)] [] [BT.of 2 Q7 1 (vec (λ_=>false)) true,BT.of 3 Q7 1 (vec e736) true] (by rfl)) (λe736=>.Qy 6001 (zl 3 15 3 e736) λ_=>.Qy 6002 (zm 2 15 2 (λ_=>false) e736) λ_=>.done e736)
def dQ(p0:zh):Sp ((Nat->Bool)):=oF [0,1,2,3,4,6] Tryz.func238 [.agg (W6 p0)] (Qya p0) (λr=>.agg (W6 r))
def Qyg(p0 p1 p2:zh):TT ((Nat->Bool)):=.Qy 1 (zw 0 3 p0) λ_=>.Qy 2 (zw 1 4 p1) λ_=>.Qy 3 (zw 2 5 p2) λ_=>.Qy 4 (zu 6) λ_=>.Qy 1001 (zl 3 7 3 p0) λ_=>.Qy 1002 (zl 4 8 4 p1) λ_=>.cl 1003 (Cq p0 p1) λr737=>.Qy 1004 (zl 5 10 5 p2) λ_=>.cl 1005 (Cq r737 p2) λr738=>.Qy 1006 (zm 6 11 6 (λ_=>false) r738) λ_=>.done r738
def RW(p0 p1 p2:zh):Sp ((Nat->Bool)):=oF [0,1,2,3,4,5,6] Tryz.func233 [.agg (W6 p0),.agg (W6 p1),.agg (W6 p2)] (Qyg p0 p1 p2) (λr=>.agg (W6 r))
def Dg(p0 p1 p2 p3 p4:Int):Sp (Int):=oF [0,1,2,3,4,10] Tryz.func231 [.i p0,.i p1,.i p2,.i p3,.i p4] (.done (Int.tmod (Q0 ((Q0 ((Q0 ((Q0 (p0+p1))+p2))+p3))+p4)) 4294967296):TT (Int)) (λr=>.int .i64 r)
end Go.Proofs.YtjdieimefebnfaaGreatDoor
