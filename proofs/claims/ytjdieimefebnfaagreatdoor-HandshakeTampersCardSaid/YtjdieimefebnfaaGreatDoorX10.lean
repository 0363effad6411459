/- Part X10. -/
import Derived.Test.YtjdieimefebnfaaGreatDoorX9
set_option linter.all false
set_option maxRecDepth 100000
noncomputable section
namespace Go.Proofs.YtjdieimefebnfaaGreatDoor
open Go Go.EV
structure H8 where
 JZ:Int
 Yp:Int
 ZK:Int
 Un:Int
 Jw:Int
 QS:Int
 KA:Int
 UT:Bool
structure K4 where
 fG:ze
 fR:ze
 fh:ze
structure Q3 where
 fp:Int
 fk:Int
 fm:Int
 gd:ze
 fh:ze
 fZ:ze
 fG:ze
 gb:ze
 fL:(List ze)
 fo:Int
 fq:ze
 fj:K4
 fC:ze
 fP:(List Q9)
 fD:Y1
 ge:Int
structure Z0 where
 fe:Q3
 QY:ze
 QL:(List Q9)
def G8:Ty H8:=⟨λx=>[.i x.JZ,.i x.Yp,.i x.ZK,.i x.Un,.i x.Jw,.i x.QS,.i x.KA,.bool x.UT],λx=>[.i x.JZ,.i x.Yp,.i x.ZK,.i x.Un,.i x.Jw,.i x.QS,.i x.KA,.bool x.UT],λ_=>rfl,λ_=>rfl,λ_ _=>rfl,λ_=>rfl⟩
def Z3:Ty Q9:=⟨λx=>[.i x.fw,.i x.fV,.str x.ft],λx=>[.i x.fw,.i x.fV,.str x.ft],λ_=>rfl,λ_=>rfl,λ_ _=>rfl,λ_=>rfl⟩
def D9(s:Q3):List V:=[.int .i64 s.fp,.int .i64 s.fk,.int .i64 s.fm,.str s.gd,.str s.fh,.str s.fZ,.str s.fG,.str s.gb,.sl false 1 (List.map Z8.c s.fL),.int .i64 s.fo,.str s.fq,.str s.fj.fG,.str s.fj.fR,.str s.fj.fh,.str s.fC,.sl false 3 (List.map Z3.c s.fP),.int .i64 s.fD.fB,.int .i64 s.fD.fY,.int .i64 s.fD.fO,.int .i64 s.ge]
def A9(m:Z0):List V:=W0 (D9 m.fe) [.str m.QY,.sl false 3 (List.map Z3.c m.QL)]
def Qm5(p0:ze):TT (Bool):=.done ((p0.size:Int) != 32)
def vD(p0:ze):Sp (Bool):=oF [0,2] Tryz.func172 [.str p0] (Qm5 p0) (λr=>.bool r)
def dQ(p0:List ze):TT (Int):=.QC 1 (.lp (λ(l505:Int)=>Ext.l .normal [(0,Sl 1 Z8 p0),(1,.fn 172 [] []),(4,.i 0),(7,.i (I5 Z8 p0)),(8,.i l505)] []) (λl505=>.br 0 (decide (l505 < (I5 Z8 p0))) (.row 4004 Z8 p0 l505.toNat (decide (0<=l505)) λx506=>.cl 4006 (vD x506) λr507=>.br 0 r507 (.done (.inr (.inl l505))) (.done (.inl (Q0 (l505+1))))) (.done (.inr (.inr ())))) 0) (λ(e508:Int)=>Ext.l .ret [(4,.i e508)] []) (λ(e509:Unit)=>Ext.l (.exit 0) [(4,.i 0)] []) (λe508=>.done e508) (λe509=>.done (-1))
def Su(p0:List ze):Sp (Int):=oF [0,1,4,5,7,8,9,16] Tryz.func173 [Sl 1 Z8 p0,.fn 172 [] []] (dQ p0) (λr=>.int .i64 r)
def dJ(p0:List ze):TT (Bool):=.cl 1003 (Su p0) λr510=>.done (decide ((0:Int)<=r510))
def Sa(p0:List ze):Sp (Bool):=oF [0,1,4] Tryz.func114 [Sl 1 Z8 p0,.fn 172 [] []] (dJ p0) (λr=>.bool r)
def Qe5(p0:List ze):TT (Bool):=.cl 1002 (Sa p0) λr511=>.done (!r511)
def TP(p0:List ze):Sp (Bool):=oF [0,2] Tryz.func113 [Sl 1 Z8 p0] (Qe5 p0) (λr=>.bool r)
def Qda :Sp ((List H8)):=oF [0] Tryz.func121 [] (.gh 0 (.share (Zb.o 12 G8 [(H8.mk 1 1 0 0 0 0 0 false),(H8.mk 2 1 0 0 0 0 0 false),(H8.mk 2 1 1 6 0 0 2 false),(H8.mk 1 2 1 1 0 0 1 true),(H8.mk 1 3 2 7 100 0 1 true),(H8.mk 2 4 1 7 168 1 3 true),(H8.mk 1 5 3 8 204 2 4 true),(H8.mk 1 6 3 8 240 2 0 false),(H8.mk 2 6 2 8 240 2 5 false),(H8.mk 1 7 0 8 0 0 0 false),(H8.mk 2 7 0 8 0 0 0 false)]) 0) (.done [(H8.mk 1 1 0 0 0 0 0 false),(H8.mk 2 1 0 0 0 0 0 false),(H8.mk 2 1 1 6 0 0 2 false),(H8.mk 1 2 1 1 0 0 1 true),(H8.mk 1 3 2 7 100 0 1 true),(H8.mk 2 4 1 7 168 1 3 true),(H8.mk 1 5 3 8 204 2 4 true),(H8.mk 1 6 3 8 240 2 0 false),(H8.mk 2 6 2 8 240 2 5 false),(H8.mk 1 7 0 8 0 0 0 false),(H8.mk 2 7 0 8 0 0 0 false)]):TT ((List H8))) (λr=>Sl 8 G8 r)
def s66 :Sp (Y1):=oF [0] Tryz.func66 [] (.done (Y1.mk (-1) 0 0):TT (Y1)) (λr=>.agg [.int .i64 r.fB,.int .i64 r.fY,.int .i64 r.fO])
def Qe2(p0:ze):TT (Int):=.cl 1002 (Ff p0) λr517=>.br 0 (!r517) (.done 5) (.done 0)
def Qq9(p0:ze):Sp (Int):=oF [0,2,5] Tryz.func116 [.str p0] (Qe2 p0) (λr=>.int .i64 r)
def Qe3(p0:ze):TT (Bool):=.cl 1002 (Qq9 p0) λr518=>.done (r518 != 0)
def Qqq(p0:ze):Sp (Bool):=oF [0,2] Tryz.func115 [.str p0] (Qe3 p0) (λr=>.bool r)
def eV(p0:List ze):TT (Int):=.QC 1 (.lp (λ(l520:Int)=>Ext.l .normal [(0,Sl 1 Z8 p0),(1,.fn 115 [] []),(4,.i 0),(7,.i (I5 Z8 p0)),(8,.i l520)] []) (λl520=>.br 0 (decide (l520 < (I5 Z8 p0))) (.row 4004 Z8 p0 l520.toNat (decide (0<=l520)) λx521=>.cl 4006 (Qqq x521) λr522=>.br 0 r522 (.done (.inr (.inl l520))) (.done (.inl (Q0 (l520+1))))) (.done (.inr (.inr ())))) 0) (λ(e523:Int)=>Ext.l .ret [(4,.i e523)] []) (λ(e524:Unit)=>Ext.l (.exit 0) [(4,.i 0)] []) (λe523=>.done e523) (λe524=>.done (-1))
def Sj(p0:List ze):Sp (Int):=oF [0,1,4,5,7,8,9,16] Tryz.func173 [Sl 1 Z8 p0,.fn 115 [] []] (eV p0) (λr=>.int .i64 r)
def dY(p0:List ze):TT (Bool):=.cl 1003 (Sj p0) λr525=>.done (decide ((0:Int)<=r525))
def Sd(p0:List ze):Sp (Bool):=oF [0,1,4] Tryz.func114 [Sl 1 Z8 p0,.fn 115 [] []] (dY p0) (λr=>.bool r)
def Qm3(p0:List Int)(p1:Int):TT (Int):=.QC 1 (.lp (λ(l534:Int)=>Ext.l .normal [(0,Sl 1 Q6 p0),(1,.i p1),(4,.i 0),(7,.i (I5 Q6 p0)),(8,.i l534)] []) (λl534=>.br 0 (decide (l534 < (I5 Q6 p0))) (.row 4004 Q6 p0 l534.toNat (decide (0<=l534)) λx535=>.br 0 (p1==x535) (.done (.inr (.inl l534))) (.done (.inl (Q0 (l534+1))))) (.done (.inr (.inr ())))) 0) (λ(e536:Int)=>Ext.l .ret [(4,.i e536)] []) (λ(e537:Unit)=>Ext.l (.exit 0) [(4,.i 0)] []) (λe536=>.done e536) (λe537=>.done (-1))
def vK(p0:List Int)(p1:Int):Sp (Int):=oF [0,1,4,5,7,8,9,16] Tryz.func176 [Sl 1 Q6 p0,.i p1] (Qm3 p0 p1) (λr=>.int .i64 r)
def Qmv(p0:List Int)(p1:Int):TT (Bool):=.cl 1003 (vK p0 p1) λr538=>.done (decide ((0:Int)<=r538))
def Qq8(p0:List Int)(p1:Int):Sp (Bool):=oF [0,1,4] Tryz.func119 [Sl 1 Q6 p0,.i p1] (Qmv p0 p1) (λr=>.bool r)
def Qm1(p0:Z0)(p1:H8):TT (Int):=.br 0 (p1.QS==1) (.done (Q0 (p1.Jw+(p0.fe.fh.size:Int)))) (.br 0 (p1.QS==2) (.done (Q0 ((Q0 (p1.Jw+(p0.fe.fh.size:Int)))+(p0.fe.fj.fh.size:Int)))) (.done p1.Jw))
def vH(p0:Z0)(p1:H8):Sp (Int):=oF [0,1,3,4,6,7,18] Tryz.func178 [.snap (A9 p0),.agg (G8.c p1)] (Qm1 p0 p1) (λr=>.int .i64 r)
def Qmc(p0:Z0)(p1:H8):TT (Bool):=.Zz 1 [67] (.oR 1010 (p0.fe.fp != p1.JZ) (.oR 1020 (p0.fe.fk != p1.Yp) (.oR 1030 (decide (p0.fe.fo < p1.ZK)) (.oR 1040 (decide (p1.Un < p0.fe.fo)) (.cl 1048 (vH p0 p1) λr543=>.oR 1052 ((p0.fe.fq.size:Int) != r543) (.done (!(p1.UT==(decide ((0:Int)<=p0.fe.fD.fB)))))))))) zn λc544=>.br 0 c544 (.done false) (.bind 0 (.br 0 (p1.QS==0) (.Zz 7 [5] (.an 7009 ((decide (p0.fe.fj.fG=zg))&&((decide (p0.fe.fj.fR=zg))&&((decide (p0.fe.fj.fh=zg))&&true))) (.done (decide (p0.fe.fC=zg)))) zn λc545=>.done c545) (.br 0 (p1.QS==1) (.Zz 9 [5] (.view 9014 (TP [p0.fe.fj.fG,p0.fe.fj.fR]) [] λr546=>.an 9016 r546 (.an 9025 (decide (p0.fe.fj.fh=zg)) (.done (decide (p0.fe.fC=zg))))) zn λc547=>.done c547) (.Zz 5 [5] (.view 5019 (TP [p0.fe.fj.fG,p0.fe.fj.fR,p0.fe.fC]) [] λr548=>.an 5021 r548 (.cl 5027 (lW p0.fe.fj.fh) λr549=>.done r549)) zn λc550=>.done c550))) (λ(e551:Bool)=>Ext.l .normal [(0,.snap (A9 p0)),(3,.ptr 3 0 0),(4,.bool false),(5,.bool e551)] [(3,⟨8,true,[(G8.c p1)]⟩)]) (λe551=>.br 0 (p1.KA==0) (.Zz 11 [4] (.an 11003 e551 (.done ((I5 Z3 p0.fe.fP)==0))) zn λc552=>.done c552) (.Zz 12 [4] (.an 12003 e551 (.an 12012 ((I5 Z3 p0.fe.fP)==1) (.row 12017 Z3 p0.fe.fP 0 true λx553=>.cl 12019 (s58 x553) λr554=>.an 12023 (r554==0) (.row 12028 Z3 p0.fe.fP 0 true λx555=>.an 12036 (x555.fw==p1.KA) (.row 12041 Z3 p0.fe.fP 0 true λx556=>.done (x556.fV==(Q0 (p0.fe.fo - 1)))))))) zn λc557=>.done c557)))
def Qq6(p0:Z0)(p1:H8):Sp (Bool):=oF [0,1,3,4,5,67,69,98,115,150] Tryz.func122 [.snap (A9 p0),.agg (G8.c p1)] (Qmc p0 p1) (λr=>.bool r)
def Qm2(p0:List H8)(p1:Z0):TT (Int):=.QC 1 (.lp (λ(l559:Int)=>Ext.l .normal [(0,Sl 8 G8 p0),(1,.fn 122 [.snap (A9 p1)] []),(4,.i 0),(7,.i (I5 G8 p0)),(8,.i l559)] []) (λl559=>.br 0 (decide (l559 < (I5 G8 p0))) (.row 4004 G8 p0 l559.toNat (decide (0<=l559)) λx560=>.cl 4006 (Qq6 p1 x560) λr561=>.br 0 r561 (.done (.inr (.inl l559))) (.done (.inl (Q0 (l559+1))))) (.done (.inr (.inr ())))) 0) (λ(e562:Int)=>Ext.l .ret [(4,.i e562)] []) (λ(e563:Unit)=>Ext.l (.exit 0) [(4,.i 0)] []) (λe562=>.done e562) (λe563=>.done (-1))
def vW(p0:List H8)(p1:Z0):Sp (Int):=oF [0,1,4,5,7,8,9,16] Tryz.func177 [Sl 8 G8 p0,.fn 122 [.snap (A9 p1)] []] (Qm2 p0 p1) (λr=>.int .i64 r)
def Qmt(p0:List H8)(p1:Z0):TT (Bool):=.cl 1003 (vW p0 p1) λr564=>.done (decide ((0:Int)<=r564))
def Qq7(p0:List H8)(p1:Z0):Sp (Bool):=oF [0,1,4] Tryz.func120 [Sl 8 G8 p0,.fn 122 [.snap (A9 p1)] []] (Qmt p0 p1) (λr=>.bool r)
def g65(p0:Z0):TT (Bool):=.bind 0 (.br 0 (p0.fe.fp==2) (.view 3007 (TP [p0.fe.gb]) [] λr512=>.done r512) (.done (decide (p0.fe.gb=zg)))) (λ(e513:Bool)=>Ext.l .normal [(0,.snap (A9 p0)),(2,.bool false),(3,.bool e513)] []) (λe513=>.bind 0 (.br 0 (p0.fe.fk==7) (.gh 0 (.Qb 33 600014) (.done [2,4,6,9,10])) (.gh 0 (.Qb 26 600014) (.done [0]))) (λ(e514:(List Int))=>Ext.of .normal [(0,.snap (A9 p0)),(2,.bool false),(3,.bool e513),(4,Rf 600014 e514)] [] [Bt 600014 Q6 1 e514] (by rfl)) (λe514=>.Zz 7 [5] (.an 7009 (decide ((I5 Z8 p0.fe.fL)<=8)) (.cl 7014 (Sd p0.fe.fL) λr526=>.done (!r526))) zn λc527=>.Zz 8 [6] (.an 8008 (decide ((0:Int)<=p0.fe.fm)) (.an 8016 (decide (p0.fe.fm<=1099511627776)) (.view 8032 (TP [p0.fe.gd,p0.fe.fZ,p0.fe.fG]) [] λr528=>.an 8035 r528 (.an 8038 e513 (.an 8041 c527 (.cl 8046 (lW p0.fe.fh) λr529=>.done r529)))))) zn λc530=>.Zz 9 [2] (.an 9003 c530 (.cl 9008 (lH p0.fe.fD) λr531=>.an 9012 (r531==0) (.view 9018 (Qq8 e514 p0.fe.ge) [(Zb.o 600014 Q6 e514)] λr539=>.an 9021 r539 (.cl 9021 Qda λr540=>.cl 9024 (Qq7 r540 p0) λr565=>.done r565)))) zn λc566=>.done c566))
def s65(p0:Z0):Sp (Bool):=oF [0,2,3,4,5,6,18,32] Tryz.func65 [.snap (A9 p0)] (g65 p0) (λr=>.bool r)
def g28(p0:Q3):TT (Int):=.gh 4 (.tell 3 [(W0 (D9 p0) [.str zg,.sl false 3 (List.map Z3.c [])])]) (.view 2001 (s65 (Z0.mk p0 zg [])) [] λr512=>.br 0 (!r512) (.done 200) (.done 0))
def tY(p0:Q3):Sp (Int):=oF [0,1,2,3,7] Tryz.func28 [.agg (D9 p0)] (g28 p0) (λr=>.int .i64 r)
def g60(p0:List ze):TT Unit:=.app 3003 Z8 [] p0 16 true (by intros;rfl) (.done ())
theorem Qa6:Y3 Tryz.prog GG [2] 8 (Ef Tryz.f60.body) (Ext.l .normal [(2,.Qu)] []) (.done ():TT Unit) (λ_=>Ext.l .ret [(2,.Qu)] []):=by unfold Y3;kernel_rfl
theorem Qa7(p0:List ze):Y3 Tryz.prog GG [0,2,5,6,7] 8 (Ki Tryz.f60.body) (Ext.l .normal [(0,.sl false 1 (List.map Z8.c p0)),(2,.Qu)] []) (g60 p0) (λ_=>Ext.of .ret [(2,.ref 7 0 ([]++p0).length)] [] [BT.of 7 Z8 1 ([]++p0)] (by rfl)):=by unfold Y3;kernel_rfl
theorem k60(p0:(List ze)){r:Unit}(h:(g60 p0).run=some r):QR Tryz.prog GG 60 [.sl false 1 (List.map Z8.c p0)] (Qm []) (.ref 7 0 p0.length) (Qm [(7,⟨1,true,List.map Z8.c p0⟩)]):=
 RE (ty:=Z8) (ops0:=Lc Tryz.f60.body) (ops1:=Lb Tryz.f60.body) (yes:=Ef Tryz.f60.body) (rest:=Ki Tryz.f60.body) (t:=40) Z1 (by decide) Tryz.func60 (by kernel_rfl) (by kernel_rfl) (by kernel_rfl) (by kernel_rfl) (by kernel_rfl) (by kernel_rfl) (by kernel_rfl) (by kernel_rfl) (by kernel_rfl) Qa6 (Qa7 p0) (by rfl) h
def s60(p0:List ze):Sp Unit:=⟨60,[Sl 1 Z8 p0],[],(g60 p0).run,λ_=>Rf 7 p0,λ_=>[(7,⟨1,true,List.map Z8.c p0⟩)],[7],λ_ p hp _=>by rw[wG.1 hp];exact Z8.data _,λ_ h=>k60 p0 h⟩
def g30(p0:Int)(p1 p2 p3 p4 p5:ze)(p6:List ze)(p7:Int):TT (Q3×Int):=.call 1009 (s60 p6) [] [(7,500015)] λr513=>.cl 1010 s66 λr514=>.view 2002 (tY (Q3.mk p0 1 p7 p1 p2 p3 p4 p5 p6 0 zg (K4.mk zg zg zg) zg [] r514 0)) [(Zb.o 500015 Z8 p6)] λr515=>.br 0 (r515 != 0) (.done ((Q3.mk 0 0 0 zg zg zg zg zg [] 0 zg (K4.mk zg zg zg) zg [] (Y1.mk 0 0 0) 0),2)) (.cl 4002 (s46 p2) λr516=>.cl 5002 (s67 p1) λr517=>.Zz 6 [55] (.oR 6004 (r517.2 != 0) (.done (!decide (r517.1=r516.1.fJ)))) zn λc518=>.br 0 c518 (.done ((Q3.mk 0 0 0 zg zg zg zg zg [] 0 zg (K4.mk zg zg zg) zg [] (Y1.mk 0 0 0) 0),2)) (.gh 0 (.share (Zb.o 500015 Z8 p6) 1) (.done ((Q3.mk p0 1 p7 p1 p2 p3 p4 p5 p6 0 zg (K4.mk zg zg zg) zg [] r514 0),0))))
def s30(p0:Int)(p1 p2 p3 p4 p5:ze)(p6:List ze)(p7:Int):Sp (Q3×Int):=oF [0,1,2,3,4,5,6,7,16,17,18,19,21,22,36,55] Tryz.func30 [.i p0,.str p1,.str p2,.str p3,.str p4,.str p5,Sl 1 Z8 p6,.i p7] (g30 p0 p1 p2 p3 p4 p5 p6 p7) (λr=>.Qc [.agg (D9 r.1),.i r.2])
def Lm(p:Z0):List V:=(A9 p)
def s57(p0:Bool)(p1:Int):Sp (Unit):=oF [0,1,5] Tryz.func57 [.bool p0,.i p1] (.br 0 (!p0) (.fail) (.done ()):TT (Unit)) (λr=>.Qc [])
def Qke(p0:ze)(p1:Int):TT (ze):=.cl 1004 (s57 (p1==0) p1) λr521=>.done p0
def Fl(p0:ze)(p1:Int):Sp (ze):=oF [0,1,4] Tryz.func213 [.str p0,.i p1] (Qke p0 p1) (λr=>.str r)
def Qj7(p0:Z0):TT (ze):=.cl 1006 (s67 p0.fe.fZ) λr520=>.cl 1009 (Fl r520.1 r520.2) λr522=>.done r522
def jT(p0:Z0):Sp (ze):=oF [0,2] Tryz.func160 [.snap (A9 p0)] (Qj7 p0) (λr=>.str r)
def Qkx(p0:Y1)(p1:Int):TT (Y1):=.cl 1004 (s57 (p1==0) p1) λr527=>.done p0
def tN(p0:Y1)(p1:Int):Sp (Y1):=oF [0,1,2,4] Tryz.func211 [.agg [.i p0.fB,.i p0.fY,.i p0.fO],.i p1] (Qkx p0 p1) (λr=>.agg [.i r.fB,.i r.fY,.i r.fO])
def Qj8(p0 p1:Int)(p2:ze)(p3:Z0):TT (Int×Int×Int×Int×(List Q9)):=.cl 3002 s66 λr524=>.Zz 4 [54] (.an 4004 (p0 != 1) (.done (p0 != 6))) zn λc525=>.br 0 c525 (.cl 5007 (tG p3.fe.fm) λr526=>.cl 5010 (tN r526.1 r526.2) λr528=>.gh 0 (.share (Zb.o 30 Z3 [(Q9.mk p1 p3.fe.fo p2)]) 0) (.gh 0 (.share (Zb.o 32 Z3 [(Q9.mk p1 p3.fe.fo p2)]) 0) (.done (r528.fB,r528.fY,r528.fO,(Q0 (p3.fe.fo+1)),[(Q9.mk p1 p3.fe.fo p2)])))) (.gh 0 (.share (Zb.o 30 Z3 [(Q9.mk p1 p3.fe.fo p2)]) 0) (.gh 0 (.share (Zb.o 32 Z3 [(Q9.mk p1 p3.fe.fo p2)]) 0) (.done (r524.fB,r524.fY,r524.fO,(Q0 (p3.fe.fo+1)),[(Q9.mk p1 p3.fe.fo p2)]))))
def Fg(p0 p1:Int)(p2:ze)(p3:Z0):Sp (Int×Int×Int×Int×(List Q9)):=.Zk 159 [] Z1 Tryz.func159 rfl (λ_=>rfl) (show Jf Pg GG [0,1,2,3,8,9,54] Tryz.f159 [.ptr zI 0 0,.i p0,.i p1,.str p2] (Ext.of .normal (U5 [.ptr zI 0 0,.i p0,.i p1,.str p2]) [(zI,⟨22,true,[(A9 p3)]⟩)] [] (by rfl)) (Qj8 p0 p1 p2 p3) (λ(r:Int×Int×Int×Int×(List Q9))=>.agg [.i p1,.i p3.fe.fo,.str p2]) (λ(r:Int×Int×Int×Int×(List Q9))=>Ext.of .normal [] [(zI,⟨22,true,[(A9 { p3 with fe:={ p3.fe with fk:=p0,fo:=r.2.2.2.1,fP:=r.q,fD:=⟨r.1,r.2.1,r.2.2.1⟩ },QL:=r.q })]⟩)] [] (by rfl)) by unfold Jf;kernel_rfl)
def Qjj(p0:Z0):TT (Int×Int×(List Q9)×Int×Int×Int):=.view 8 (jT p0) [] λr523=>.Qa 9 (decide (p0.fe.fG.size+r523.size<=9223372036854775807)) (.call 10 (Fg 2 1 (p0.fe.fG++r523) p0) [(zI,zI)] [] λr529=>.done (2,r529.2.2.2.1,r529.q,r529.1,r529.2.1,r529.2.2.1))
def Qhh(p0:Z0):Sp (Int×Int×(List Q9)×Int×Int×Int):=.Zk 106 [] Z1 Tryz.func106 rfl (λ_=>rfl) (show Jf Pg GG [0] Tryz.f106 [.ptr zI 0 0] (Ext.of .normal (U5 [.ptr zI 0 0]) [(zI,⟨22,true,[(A9 p0)]⟩)] [] (by rfl)) (Qjj p0) (λ(r:Int×Int×(List Q9)×Int×Int×Int)=>.Qc []) (λ(r:Int×Int×(List Q9)×Int×Int×Int)=>Ext.of .normal [] [(zI,⟨22,true,[(A9 { p0 with fe:={ p0.fe with fk:=r.1,fo:=r.2.1,fP:=r.2.2.1,fD:=⟨r.2.2.2.1,r.q.1,r.q.2⟩ },QL:=r.2.2.1 })]⟩)] [] (by rfl)) by unfold Jf;kernel_rfl)
def eF(p0:Bool)(p1:Int):TT ((Unit)⊕(Unit)):=.br 0 (!p0) (.Qq 1003 (Qh.Zu 124 (.tmp 7) 8 (.agg [.int .i64 p1]) (.agg #[.int .i64 p1]) rfl (by kernel_rfl)) λ_=>.Hp 1004 (.done (.inr ()))) (.done (.inl ()))
theorem Qwd(p0:Bool)(p1:Int):Hi Tryz.prog GG [0,1,5] Tryz.f57 [.bool p0,.i p1] (Ext.of .normal (U5 [.bool p0,.i p1]) [] [] (by rfl)) (eF p0 p1) (λ(_:Unit)=>.Qc []) (λ(r:Unit)=>Ext.of .normal [] [] [] (by rfl)) (λ(r:Unit)=>K7 (.iface 124 (.agg #[.int .i64 p1]))) (λ(r:Unit)=>Ext.of .normal [] [] [] (by rfl)):=by unfold Hi;kernel_rfl
def A5(p0:Bool)(p1:Int):L0 Tryz.prog GG (Unit) (Unit):=.ofFn 57 [] Z1 Tryz.func57 rfl (λ_=>rfl) (λ_=>rfl) (Qwd p0 p1)
def Qyb(p0:Q9)(p1:Z0):TT (ze):=.Qa 2021 (decide ((strOfNums [(Qk p0.fw),(Qk (Z5 .i64 (p0.ft.size:Int) 16)),(Qk (Z5 .i64 (p0.ft.size:Int) 8)),(Qk (p0.ft.size:Int))]).size+p0.ft.size<=9223372036854775807)) (.Qa 2022 (decide (p1.fe.fq.size+((strOfNums [(Qk p0.fw),(Qk (Z5 .i64 (p0.ft.size:Int) 16)),(Qk (Z5 .i64 (p0.ft.size:Int) 8)),(Qk (p0.ft.size:Int))])++p0.ft).size<=9223372036854775807)) (.done (p1.fe.fq++((strOfNums [(Qk p0.fw),(Qk (Z5 .i64 (p0.ft.size:Int) 16)),(Qk (Z5 .i64 (p0.ft.size:Int) 8)),(Qk (p0.ft.size:Int))])++p0.ft))))
def Aa(p0:Q9)(p1:Z0):Sp (ze):=.Zk 214 [] Z1 Tryz.func214 rfl (λ_=>rfl) (show Jf Pg GG [0,1,3,4] Tryz.f214 [.ptr zI 0 0,.agg (Z3.c p0)] (Ext.of .normal (U5 [.ptr zI 0 0,.agg (Z3.c p0)]) [(zI,⟨22,true,[(A9 p1)]⟩)] [] (by rfl)) (Qyb p0 p1) (λ(r:ze)=>.Qc []) (λ(r:ze)=>Ext.of .normal [] [(zI,⟨22,true,[(A9 { p1 with fe:={ p1.fe with fq:=r } })]⟩)] [] (by rfl)) by unfold Jf;kernel_rfl)
def Qj6(p0:ze)(p1:Z0):TT ((Int×Int×ze×(List Q9)×Int×Int×Int)⊕(Int)):=.Qi 4 (A5 ((p0.size:Int)==32) 5) [] [] (λr530=>.Qi 1007 (A5 (decide (p1.fe.fo < 7)) 3) [] [] (λr531=>.view 2008 (jT p1) [] λr532=>.Qa 2009 (decide (p1.fe.fG.size+r532.size<=9223372036854775807)) (.Qa 2011 (decide ((p1.fe.fG++r532).size+p0.size<=9223372036854775807)) (.call 2012 (Fg 3 1 ((p1.fe.fG++r532)++p0) p1) [(zI,zI)] [] λr533=>.call 4003 (Aa (Q9.mk 1 p1.fe.fo ((p1.fe.fG++r532)++p0)) { p1 with fe:={ p1.fe with fk:=3,fo:=r533.2.2.2.1,fq:=zg,fP:=r533.q,fD:=Y1.mk r533.1 r533.2.1 r533.2.2.1 },QL:=r533.q }) [(zI,zI)] [] λr534=>.done (.inl (3,r533.2.2.2.1,r534,r533.q,r533.1,r533.2.1,r533.2.2.1))))) (λr535=>.done (.inr 3))) (λr536=>.done (.inr 5))
theorem Qah(p0:ze)(p1:Z0):Hi Tryz.prog GG [0,1,4] Tryz.f161 [.ptr 1000000 0 0,.str p0] (Ext.of .normal (U5 [.ptr 1000000 0 0,.str p0]) [(1000000,⟨22,true,[(A9 p1)]⟩)] [] (by rfl)) (Qj6 p0 p1) (λ(r:Int×Int×ze×(List Q9)×Int×Int×Int)=>.Qc []) (λ(r:Int×Int×ze×(List Q9)×Int×Int×Int)=>Ext.of .normal [] [(1000000,⟨22,true,[(A9 { p1 with fe:={ p1.fe with fk:=r.1,fo:=r.2.1,fq:=r.2.2.1,fP:=r.2.2.2.1,fD:=⟨r.q.1,r.q.2.1,r.q.2.2⟩ },QL:=r.2.2.2.1 })]⟩)] [] (by rfl)) (λ(r:Int)=>K7 (.iface 124 (.agg #[.int .i64 r]))) (λ(r:Int)=>Ext.of .normal [] [(1000000,⟨22,true,[(A9 p1)]⟩)] [] (by rfl)):=by unfold Hi;kernel_rfl
def vR(p0:ze)(p1:Z0):L0 Pg GG (Int×Int×ze×(List Q9)×Int×Int×Int) (Int):=.ofFn 161 [] Z1 Tryz.func161 rfl (λ_=>rfl) (λ_=>rfl) (Qah p0 p1)
def Qys(p0:ze)(p1:Z0):TT ((ze×ze×Int×Int×Int)⊕(Bool×Int)):=.cl 1002 (s46 p0) λr538=>.Qi 2003 (A5 (r538.2==0) 5) [] [] (λr539=>.cl 3012 (tM r538.1 p1.fe.fL p1.fe.fm) λr540=>.br 0 (r540 != 0) (.Qq 5003 (Qh.Zu 171 (.tmp 31) 32 (.agg [.int .i64 r540]) (.agg #[.int .i64 r540]) rfl (by kernel_rfl)) λ_=>.Hp 5004 (.done (.inr (true,r540)))) (.done (.inl (r538.1.fy,r538.1.fJ,r538.1.fI,r538.1.fF,r538.1.fQ)))) (λr541=>.done (.inr (false,5)))
theorem Qa9(p0:ze)(p1:Z0):Hi Tryz.prog GG [0,1,4,5,6,7,29] Tryz.f215 [.ptr 1000000 0 0,.str p0] (Ext.of .normal (U5 [.ptr 1000000 0 0,.str p0]) [(1000000,⟨22,true,[(A9 p1)]⟩)] [] (by rfl)) (Qys p0 p1) (λ(r:ze×ze×Int×Int×Int)=>.agg [.str r.1,.str r.2.1,.i r.2.2.1,.i r.2.2.2.1,.i r.q]) (λ(r:ze×ze×Int×Int×Int)=>Ext.of .normal [] [(1000000,⟨22,true,[(A9 p1)]⟩)] [] (by rfl)) (λ(r:Bool×Int)=>K7 (.iface (bif r.1 then 171 else 124) (.agg #[.int .i64 r.2]))) (λ(r:Bool×Int)=>Ext.of .normal [] [(1000000,⟨22,true,[(A9 p1)]⟩)] [] (by rfl)):=by unfold Hi;kernel_rfl
def tF(p0:ze)(p1:Z0):L0 Pg GG (ze×ze×Int×Int×Int) (Bool×Int):=.ofFn 215 [] Z1 Tryz.func215 rfl (λ_=>rfl) (λ_=>rfl) (Qa9 p0 p1)
def Qyr(p0 p1:ze):TT ((ze)⊕(Int)):=.cl 1003 (tK p0 p1) λr543=>.br 0 (r543.2 != 0) (.Qq 3003 (Qh.Zu 171 (.tmp 16) 17 (.agg [.int .i64 r543.2]) (.agg #[.int .i64 r543.2]) rfl (by kernel_rfl)) λ_=>.Hp 3004 (.done (.inr r543.2))) (.done (.inl r543.1))
theorem Qa8(p0 p1:ze):Hi Tryz.prog GG [0,1,4,5,6,14] Tryz.f217 [.str p0,.str p1] (Ext.of .normal (U5 [.str p0,.str p1]) [] [] (by rfl)) (Qyr p0 p1) (λ(r:ze)=>.str r) (λ(r:ze)=>Ext.of .normal [] [] [] (by rfl)) (λ(r:Int)=>K7 (.iface 171 (.agg #[.int .i64 r]))) (λ(r:Int)=>Ext.of .normal [] [] [] (by rfl)):=by unfold Hi;kernel_rfl
def jR(p0 p1:ze):L0 Pg GG (ze) (Int):=.ofFn 217 [] Z1 Tryz.func217 rfl (λ_=>rfl) (λ_=>rfl) (Qa8 p0 p1)
def Qyp(p0 p1 p2 p3:ze)(p4:Z0):TT (ze):=.Qa 4 (decide (p0.size+p1.size<=9223372036854775807)) (.Qa 7 (decide (p2.size+p3.size<=9223372036854775807)) (.cl 8 (s94 (p0++p1) (p2++p3) (bs [116,97,110,110,111,121,32,109,97,115,116,101,114]) 32) λr548=>.cl 11 (Fl r548.1 r548.2) λr549=>.done r549))
def tL(p0 p1 p2 p3:ze)(p4:Z0):Sp (ze):=.Zk 216 [] Z1 Tryz.func216 rfl (λ_=>rfl) (show Jf Pg GG [0,1,2,3,4] Tryz.f216 [.ptr zI 0 0,.str p0,.str p1,.str p2,.str p3] (Ext.of .normal (U5 [.ptr zI 0 0,.str p0,.str p1,.str p2,.str p3]) [(zI,⟨22,true,[(A9 p4)]⟩)] [] (by rfl)) (Qyp p0 p1 p2 p3 p4) (λ(r:ze)=>.Qc []) (λ(r:ze)=>Ext.of .normal [] [(zI,⟨22,true,[(A9 { p4 with fe:={ p4.fe with fC:=r } })]⟩)] [] (by rfl)) by unfold Jf;kernel_rfl)
def Qyn(p0:Z0)(p1 p2:ze):TT (ze):=.cl 1007 (s94 p0.fe.fC zg p1 32) λr552=>.cl 1010 (Fl r552.1 r552.2) λr553=>.cl 2003 (s95 p2) λr554=>.cl 2006 (Fl r554.1 r554.2) λr555=>.cl 2007 (s96 r553 r555) λr556=>.cl 2010 (Fl r556.1 r556.2) λr557=>.done r557
def jN(p0:Z0)(p1 p2:ze):Sp (ze):=oF [0,1,2,6,7] Tryz.func218 [.snap (A9 p0),.str p1,.str p2] (Qyn p0 p1 p2) (λr=>.str r)
def Qj5(p0:ze)(p1:Z0):TT ((Q3×(List Q9))⊕(ze×ze×ze×Bool×Int)):=.Qi 4 (A5 (decide ((64:Int) < (p0.size:Int))) 5) [] [] (λr537=>.Qa 1003 (decide (0<=(64:Int))&&decide ((64:Int)<=(p0.size:Int))) (.Qi 1004 (tF (p0.extract 64 p0.size) p1) [(zI,zI)] [] (λr542=>.Qa 2003 (decide (0<=(32:Int))&&decide ((32:Int)<=(p0.size:Int))) (.Qa 2005 ((decide (0<=(64:Int))&&decide ((64:Int)<=(p0.size:Int)))&&true) (.Qa 2007 (decide (0<=(64:Int))&&decide ((64:Int)<=(p0.size:Int))) (.Qi 3009 (jR p1.fe.fZ r542.2.1) [] [] (λr544=>.Qi 3021 (jR p1.fe.gd (p0.extract 32 64)) [] [] (λr545=>.call 3033 (tL r544 r545 p1.fe.fG (p0.extract 0 32) { p1 with fe:={ p1.fe with fj:=K4.mk (p0.extract 0 32) (p0.extract 32 64) (p0.extract 64 p0.size) } }) [(zI,zI)] [] λr550=>.call 4004 (Aa (Q9.mk 3 0 p0) { p1 with fe:={ p1.fe with fj:=K4.mk (p0.extract 0 32) (p0.extract 32 64) (p0.extract 64 p0.size),fC:=r550 } }) [(zI,zI)] [] λr551=>.Qa 5014 (decide (r551.size+p1.fe.fh.size<=9223372036854775807)) (.view 5015 (jN { p1 with fe:={ p1.fe with fq:=r551,fj:=K4.mk (p0.extract 0 32) (p0.extract 32 64) (p0.extract 64 p0.size),fC:=r550 } } (bs [99,108,105,101,110,116]) (r551++p1.fe.fh)) [] λr558=>.Qa 5021 (decide (r558.size+p1.fe.fh.size<=9223372036854775807)) (.call 5022 (Fg 5 4 (r558++p1.fe.fh) { p1 with fe:={ p1.fe with fq:=r551,fj:=K4.mk (p0.extract 0 32) (p0.extract 32 64) (p0.extract 64 p0.size),fC:=r550 } }) [(zI,zI)] [] λr559=>.call 5023 (Aa (Q9.mk 4 p1.fe.fo (r558++p1.fe.fh)) { p1 with fe:={ p1.fe with fk:=5,fo:=r559.2.2.2.1,fq:=r551,fj:=K4.mk (p0.extract 0 32) (p0.extract 32 64) (p0.extract 64 p0.size),fC:=r550,fP:=r559.q,fD:=Y1.mk r559.1 r559.2.1 r559.2.2.1 },QL:=r559.q }) [(zI,zI)] [] λr560=>.done (.inl ({ p1.fe with fk:=5,fo:=r559.2.2.2.1,fq:=r560,fj:=K4.mk (p0.extract 0 32) (p0.extract 32 64) (p0.extract 64 p0.size),fC:=r550,fP:=r559.q,fD:=Y1.mk r559.1 r559.2.1 r559.2.2.1 },r559.q))))) (λr561=>.done (.inr ((p0.extract 0 32),(p0.extract 32 64),(p0.extract 64 p0.size),true,r561)))) (λr562=>.done (.inr ((p0.extract 0 32),(p0.extract 32 64),(p0.extract 64 p0.size),true,r562))))))) (λr563=>.done (.inr (p1.fe.fj.fG,p1.fe.fj.fR,p1.fe.fj.fh,r563.1,r563.2))))) (λr564=>.done (.inr (p1.fe.fj.fG,p1.fe.fj.fR,p1.fe.fj.fh,false,5)))
theorem Qau(p0:ze)(p1:Z0):Hi Tryz.prog GG [0,1,4] Tryz.f162 [.ptr 1000000 0 0,.str p0] (Ext.of .normal (U5 [.ptr 1000000 0 0,.str p0]) [(1000000,⟨22,true,[(A9 p1)]⟩)] [] (by rfl)) (Qj5 p0 p1) (λ(r:Q3×(List Q9))=>.Qc []) (λ(r:Q3×(List Q9))=>Ext.of .normal [] [(1000000,⟨22,true,[(W0 (D9 r.1) [.str p1.QY,.sl false 3 (List.map Z3.c r.2)])]⟩)] [] (by rfl)) (λ(r:ze×ze×ze×Bool×Int)=>K7 (.iface (bif r.2.2.2.1 then 171 else 124) (.agg #[.int .i64 r.q]))) (λ(r:ze×ze×ze×Bool×Int)=>Ext.of .normal [] [(1000000,⟨22,true,[(A9 { p1 with fe:={ p1.fe with fj:=⟨r.1,r.2.1,r.2.2.1⟩ } })]⟩)] [] (by rfl)):=by unfold Hi;kernel_rfl
def vN(p0:ze)(p1:Z0):L0 Pg GG (Q3×(List Q9)) (ze×ze×ze×Bool×Int):=.ofFn 162 [] Z1 Tryz.func162 rfl (λ_=>rfl) (λ_=>rfl) (Qau p0 p1)
def Qj4(p0:ze)(p1:Z0):TT ((ze×Int×Int×Int)⊕(Bool×Int)):=.Qi 4 (A5 ((p0.size:Int)==32) 5) [] [] (λr565=>.view 1008 (jN p1 (bs [115,101,114,118,101,114]) p1.fe.fq) [] λr566=>.br 0 (!decide (p0=r566)) (.Qq 2002 (Qh.Zu 171 (.tmp 17) 18 (.agg [.int .i64 9]) (.agg #[.int .i64 9]) rfl (by kernel_rfl)) λ_=>.Hp 2003 (.done (.inr (true,9)))) (.call 3004 (Aa (Q9.mk 5 0 p0) p1) [(zI,zI)] [] λr567=>.cl 4004 s66 λr568=>.done (.inl (r567,r568.fB,r568.fY,r568.fO)))) (λr569=>.done (.inr (false,5)))
theorem Qaj(p0:ze)(p1:Z0):Hi Tryz.prog GG [0,1,16] Tryz.f163 [.ptr 1000000 0 0,.str p0] (Ext.of .normal (U5 [.ptr 1000000 0 0,.str p0]) [(1000000,⟨22,true,[(A9 p1)]⟩)] [] (by rfl)) (Qj4 p0 p1) (λ(r:ze×Int×Int×Int)=>.Qc []) (λ(r:ze×Int×Int×Int)=>Ext.of .normal [] [(1000000,⟨22,true,[[.i p1.fe.fp,.i 6,.i p1.fe.fm,.str p1.fe.gd,.str p1.fe.fh,.str p1.fe.fZ,.str p1.fe.fG,.str p1.fe.gb,.sl false 1 (List.map Z8.c p1.fe.fL),.i p1.fe.fo,.str r.1,.str p1.fe.fj.fG,.str p1.fe.fj.fR,.str p1.fe.fj.fh,.str p1.fe.fC,.Qu,.i r.2.1,.i r.2.2.1,.i r.2.2.2,.i p1.fe.ge,.str p1.QY,.sl false 3 (List.map Z3.c p1.QL)]]⟩)] [] (by rfl)) (λ(r:Bool×Int)=>K7 (.iface (bif r.1 then 171 else 124) (.agg #[.int .i64 r.2]))) (λ(r:Bool×Int)=>Ext.of .normal [] [(1000000,⟨22,true,[(A9 p1)]⟩)] [] (by rfl)):=by unfold Hi;kernel_rfl
def Qhj(p0:ze)(p1:Z0):L0 Pg GG (ze×Int×Int×Int) (Bool×Int):=.ofFn 163 [] Z1 Tryz.func163 rfl (λ_=>rfl) (λ_=>rfl) (Qaj p0 p1)
def Qj3(p0:ze)(p1:Z0):TT ((Q3×(List Q9))⊕(Int)):=.br 5 ((p0.size:Int)==64) (.Qi 9 (A5 true 5) [] [] (λr570=>.Qa 1011 (decide (0<=(64:Int))&&decide ((64:Int)<=(p0.size:Int))) (.Qa 1012 (decide (p1.QY.size+(p0.extract 0 64).size<=9223372036854775807)) (.cl 1013 (s96 p1.fe.gb (p1.QY++(p0.extract 0 64))) λr571=>.cl 1016 (Fl r571.1 r571.2) λr572=>.Qa 2002 (decide (0<=(64:Int))&&decide ((64:Int)<=(p0.size:Int))) (.br 0 (!decide ((p0.extract 64 p0.size)=r572)) (.Qi 3007 (A5 (decide (p1.fe.fo < 6)) 3) [] [] (λr573=>.call 4003 (Fg 1 2 r572 p1) [(zI,zI)] [] λr574=>.done (.inl ({ p1.fe with fk:=1,fo:=r574.2.2.2.1,fP:=r574.q,fD:=Y1.mk r574.1 r574.2.1 r574.2.2.1 },r574.q))) (λr575=>.done (.inr 3))) (.Qa 5003 (decide (0<=(32:Int))&&decide ((32:Int)<=(p0.size:Int))) (.Qa 5005 ((decide (0<=(64:Int))&&decide ((64:Int)<=(p0.size:Int)))&&true) (.call 6004 (Aa (Q9.mk 1 0 p0) { p1 with fe:={ p1.fe with fj:=K4.mk (p0.extract 0 32) (p0.extract 32 64) zg } }) [(zI,zI)] [] λr576=>.view 7009 (jT { p1 with fe:={ p1.fe with fq:=r576,fj:=K4.mk (p0.extract 0 32) (p0.extract 32 64) zg } }) [] λr577=>.Qa 7010 (decide (p1.fe.fG.size+r577.size<=9223372036854775807)) (.Qa 7016 (decide ((p1.fe.fG++r577).size+p1.fe.fh.size<=9223372036854775807)) (.call 7017 (Fg 4 3 ((p1.fe.fG++r577)++p1.fe.fh) { p1 with fe:={ p1.fe with fq:=r576,fj:=K4.mk (p0.extract 0 32) (p0.extract 32 64) zg } }) [(zI,zI)] [] λr578=>.call 7018 (Aa (Q9.mk 3 p1.fe.fo ((p1.fe.fG++r577)++p1.fe.fh)) { p1 with fe:={ p1.fe with fk:=4,fo:=r578.2.2.2.1,fq:=r576,fj:=K4.mk (p0.extract 0 32) (p0.extract 32 64) zg,fP:=r578.q,fD:=Y1.mk r578.1 r578.2.1 r578.2.2.1 },QL:=r578.q }) [(zI,zI)] [] λr579=>.done (.inl ({ p1.fe with fk:=4,fo:=r578.2.2.2.1,fq:=r579,fj:=K4.mk (p0.extract 0 32) (p0.extract 32 64) zg,fP:=r578.q,fD:=Y1.mk r578.1 r578.2.1 r578.2.2.1 },r578.q))))))))))) (λr580=>.fail)) (.Qi 9 (A5 ((p0.size:Int)==96) 5) [] [] (λr581=>.Qa 1011 (decide (0<=(64:Int))&&decide ((64:Int)<=(p0.size:Int))) (.Qa 1012 (decide (p1.QY.size+(p0.extract 0 64).size<=9223372036854775807)) (.cl 1013 (s96 p1.fe.gb (p1.QY++(p0.extract 0 64))) λr582=>.cl 1016 (Fl r582.1 r582.2) λr583=>.Qa 2002 (decide (0<=(64:Int))&&decide ((64:Int)<=(p0.size:Int))) (.br 0 (!decide ((p0.extract 64 p0.size)=r583)) (.Qi 3007 (A5 (decide (p1.fe.fo < 6)) 3) [] [] (λr584=>.call 4003 (Fg 1 2 r583 p1) [(zI,zI)] [] λr585=>.done (.inl ({ p1.fe with fk:=1,fo:=r585.2.2.2.1,fP:=r585.q,fD:=Y1.mk r585.1 r585.2.1 r585.2.2.1 },r585.q))) (λr586=>.done (.inr 3))) (.Qa 5003 (decide (0<=(32:Int))&&decide ((32:Int)<=(p0.size:Int))) (.Qa 5005 ((decide (0<=(64:Int))&&decide ((64:Int)<=(p0.size:Int)))&&true) (.call 6004 (Aa (Q9.mk 1 0 p0) { p1 with fe:={ p1.fe with fj:=K4.mk (p0.extract 0 32) (p0.extract 32 64) zg } }) [(zI,zI)] [] λr587=>.view 7009 (jT { p1 with fe:={ p1.fe with fq:=r587,fj:=K4.mk (p0.extract 0 32) (p0.extract 32 64) zg } }) [] λr588=>.Qa 7010 (decide (p1.fe.fG.size+r588.size<=9223372036854775807)) (.Qa 7016 (decide ((p1.fe.fG++r588).size+p1.fe.fh.size<=9223372036854775807)) (.call 7017 (Fg 4 3 ((p1.fe.fG++r588)++p1.fe.fh) { p1 with fe:={ p1.fe with fq:=r587,fj:=K4.mk (p0.extract 0 32) (p0.extract 32 64) zg } }) [(zI,zI)] [] λr589=>.call 7018 (Aa (Q9.mk 3 p1.fe.fo ((p1.fe.fG++r588)++p1.fe.fh)) { p1 with fe:={ p1.fe with fk:=4,fo:=r589.2.2.2.1,fq:=r587,fj:=K4.mk (p0.extract 0 32) (p0.extract 32 64) zg,fP:=r589.q,fD:=Y1.mk r589.1 r589.2.1 r589.2.2.1 },QL:=r589.q }) [(zI,zI)] [] λr590=>.done (.inl ({ p1.fe with fk:=4,fo:=r589.2.2.2.1,fq:=r590,fj:=K4.mk (p0.extract 0 32) (p0.extract 32 64) zg,fP:=r589.q,fD:=Y1.mk r589.1 r589.2.1 r589.2.2.1 },r589.q))))))))))) (λr591=>.done (.inr 5)))
theorem Qay(p0:ze)(p1:Z0):Hi Tryz.prog GG [0,1,4,33] Tryz.f164 [.ptr 1000000 0 0,.str p0] (Ext.of .normal (U5 [.ptr 1000000 0 0,.str p0]) [(1000000,⟨22,true,[(A9 p1)]⟩)] [] (by rfl)) (Qj3 p0 p1) (λ(r:Q3×(List Q9))=>.Qc []) (λ(r:Q3×(List Q9))=>Ext.of .normal [] [(1000000,⟨22,true,[(W0 (D9 r.1) [.str p1.QY,.sl false 3 (List.map Z3.c r.2)])]⟩)] [] (by rfl)) (λ(r:Int)=>K7 (.iface 124 (.agg #[.int .i64 r]))) (λ(r:Int)=>Ext.of .normal [] [(1000000,⟨22,true,[(A9 p1)]⟩)] [] (by rfl)):=by unfold Hi;kernel_rfl
def vG(p0:ze)(p1:Z0):L0 Pg GG (Q3×(List Q9)) (Int):=.ofFn 164 [] Z1 Tryz.func164 rfl (λ_=>rfl) (λ_=>rfl) (Qay p0 p1)
def Qj2(p0:ze)(p1:Z0):TT ((Int×Int×ze×ze×ze×(List Q9)×Int×Int×Int)⊕(ze×Bool×Int)):=.Qi 4 (A5 (decide ((32:Int) < (p0.size:Int))) 5) [] [] (λr592=>.Qa 1002 (decide (0<=(32:Int))&&decide ((32:Int)<=(p0.size:Int))) (.Qa 1004 (decide (0<=(32:Int))&&decide ((32:Int)<=(p0.size:Int))) (.Qi 2003 (tF (p0.extract 32 p0.size) p1) [(zI,zI)] [] (λr593=>.Qi 3013 (jR p1.fe.gd p1.fe.fj.fR) [] [] (λr594=>.Qi 3021 (jR p1.fe.fZ r593.2.1) [] [] (λr595=>.call 3033 (tL r594 r595 p1.fe.fj.fG p1.fe.fG p1) [(zI,zI)] [] λr598=>.Qa 4009 (decide (p1.fe.fq.size+(p0.extract 32 p0.size).size<=9223372036854775807)) (.view 4010 (jN { p1 with fe:={ p1.fe with fC:=r598 } } (bs [99,108,105,101,110,116]) (p1.fe.fq++(p0.extract 32 p0.size))) [] λr599=>.br 0 (!decide ((p0.extract 0 32)=r599)) (.Qq 5002 (Qh.Zu 171 (.tmp 62) 63 (.agg [.int .i64 9]) (.agg #[.int .i64 9]) rfl (by kernel_rfl)) λ_=>.Hp 5003 (.done (.inr (r598,true,9)))) (.call 7004 (Aa (Q9.mk 4 0 p0) { p1 with fe:={ p1.fe with fj:=K4.mk p1.fe.fj.fG p1.fe.fj.fR (p0.extract 32 p0.size),fC:=r598 } }) [(zI,zI)] [] λr600=>.view 8009 (jN { p1 with fe:={ p1.fe with fq:=r600,fj:=K4.mk p1.fe.fj.fG p1.fe.fj.fR (p0.extract 32 p0.size),fC:=r598 } } (bs [115,101,114,118,101,114]) r600) [] λr601=>.call 8010 (Fg 6 5 r601 { p1 with fe:={ p1.fe with fq:=r600,fj:=K4.mk p1.fe.fj.fG p1.fe.fj.fR (p0.extract 32 p0.size),fC:=r598 } }) [(zI,zI)] [] λr602=>.call 8011 (Aa (Q9.mk 5 p1.fe.fo r601) { p1 with fe:={ p1.fe with fk:=6,fo:=r602.2.2.2.1,fq:=r600,fj:=K4.mk p1.fe.fj.fG p1.fe.fj.fR (p0.extract 32 p0.size),fC:=r598,fP:=r602.q,fD:=Y1.mk r602.1 r602.2.1 r602.2.2.1 },QL:=r602.q }) [(zI,zI)] [] λr603=>.done (.inl (6,r602.2.2.2.1,r603,(p0.extract 32 p0.size),r598,r602.q,r602.1,r602.2.1,r602.2.2.1))))) (λr604=>.done (.inr (p1.fe.fC,true,r604)))) (λr605=>.done (.inr (p1.fe.fC,true,r605)))) (λr606=>.done (.inr (p1.fe.fC,r606.1,r606.2)))))) (λr607=>.done (.inr (p1.fe.fC,false,5)))
theorem Qaz(p0:ze)(p1:Z0):Hi Tryz.prog GG [0,1,4,5,6,61] Tryz.f165 [.ptr 1000000 0 0,.str p0] (Ext.of .normal (U5 [.ptr 1000000 0 0,.str p0]) [(1000000,⟨22,true,[(A9 p1)]⟩)] [] (by rfl)) (Qj2 p0 p1) (λ(r:Int×Int×ze×ze×ze×(List Q9)×Int×Int×Int)=>.Qc []) (λ(r:Int×Int×ze×ze×ze×(List Q9)×Int×Int×Int)=>Ext.of .normal [] [(1000000,⟨22,true,[(A9 { p1 with fe:={ p1.fe with fk:=r.1,fo:=r.2.1,fq:=r.2.2.1,fj:={ p1.fe.fj with fh:=r.2.2.2.1 },fC:=r.q.1,fP:=r.q.2.1,fD:=⟨r.q.2.2.1,r.q.2.2.2.1,r.q.q⟩ },QL:=r.q.2.1 })]⟩)] [] (by rfl)) (λ(r:ze×Bool×Int)=>K7 (.iface (bif r.2.1 then 171 else 124) (.agg #[.int .i64 r.2.2]))) (λ(r:ze×Bool×Int)=>Ext.of .normal [] [(1000000,⟨22,true,[(A9 { p1 with fe:={ p1.fe with fC:=r.1 } })]⟩)] [] (by rfl)):=by unfold Hi;kernel_rfl
def vL(p0:ze)(p1:Z0):L0 Pg GG (Int×Int×ze×ze×ze×(List Q9)×Int×Int×Int) (ze×Bool×Int):=.ofFn 165 [] Z1 Tryz.func165 rfl (λ_=>rfl) (λ_=>rfl) (Qaz p0 p1)
def Qmz(p0:Bool)(p1:Int):TT (Bool):=.cl 1004 (s57 (p1==0) p1) λr609=>.done p0
def vO(p0:Bool)(p1:Int):Sp (Bool):=oF [0,1,4] Tryz.func166 [.bool p0,.i p1] (Qmz p0 p1) (λr=>.bool r)
def Qjz(p0:Z0):TT ((Int×Int×Int×(List Q9))⊕(Unit)):=.cl 11 (lZ p0.fe.fD p0.fe.fm) λr608=>.cl 14 (vO r608.1 r608.2) λr610=>.br 0 (!r610) (.done (.inl (p0.fe.fD.fB,p0.fe.fD.fY,p0.fe.fD.fO,p0.QL))) (.cl 1011 (vI p0.fe.fD p0.fe.fm) λr611=>.br 0 (r611.2 != 0) (.Qq 3002 (Qh.Zu 171 (.tmp 35) 36 (.agg [.int .i64 6]) (.agg #[.int .i64 6]) rfl (by kernel_rfl)) λ_=>.Hp 3003 (.done (.inr ()))) (.done (.inl (r611.1.fB,r611.1.fY,r611.1.fO,p0.fe.fP))))
theorem Qae(p0:Z0):Hi Tryz.prog GG [0,2,3,18,34] Tryz.f108 [.ptr 1000000 0 0] (Ext.of .normal (U5 [.ptr 1000000 0 0]) [(1000000,⟨22,true,[(A9 p0)]⟩)] [] (by rfl)) (Qjz p0) (λ(r:Int×Int×Int×(List Q9))=>.Qc []) (λ(r:Int×Int×Int×(List Q9))=>Ext.of .normal [] [(1000000,⟨22,true,[(A9 { p0 with fe:={ p0.fe with fD:=⟨r.1,r.2.1,r.2.2.1⟩ },QL:=r.2.2.2 })]⟩)] [] (by rfl)) (λ(r:Unit)=>K7 (.iface 171 (.agg #[.int .i64 6]))) (λ(r:Unit)=>Ext.of .normal [] [(1000000,⟨22,true,[(A9 p0)]⟩)] [] (by rfl)):=by unfold Hi;kernel_rfl
def Qhu(p0:Z0):L0 Pg GG (Int×Int×Int×(List Q9)) (Unit):=.ofFn 108 [] Z1 Tryz.func108 rfl (λ_=>rfl) (λ_=>rfl) (Qae p0)
def Qju(p0:Int)(p1:Z0):TT (Int×Int×Int):=.cl 11 s66 λr612=>.done (r612.fB,r612.fY,r612.fO)
def Qhw(p0:Int)(p1:Z0):Sp (Int×Int×Int):=.Zk 105 [] Z1 Tryz.func105 rfl (λ_=>rfl) (show Jf Pg GG [0,1] Tryz.f105 [.ptr zI 0 0,.i p0] (Ext.of .normal (U5 [.ptr zI 0 0,.i p0]) [(zI,⟨22,true,[(A9 p1)]⟩)] [] (by rfl)) (Qju p0 p1) (λ(r:Int×Int×Int)=>.Qc []) (λ(r:Int×Int×Int)=>Ext.of .normal [] [(zI,⟨22,true,[(W0 [.i p1.fe.fp,.i 7,.i p1.fe.fm,.str p1.fe.gd,.str p1.fe.fh,.str p1.fe.fZ,.str p1.fe.fG,.str p1.fe.gb,Sl 1 Z8 p1.fe.fL,.i p1.fe.fo] (X9 5 (.str zg) [.Qu,.i r.1,.i r.2.1,.i r.2.2,.i p0,.str p1.QY,.Qu]))]⟩)] [] (by rfl)) by unfold Jf;kernel_rfl)
noncomputable def cHn:Code:=Tryz.f107.body.getD .skip
def hnC:Code:=cL (cR cHn)
def YZ:Array Oper:=Oo hnC
theorem eHn:hnC=.region 1 YZ true:=by kernel_rfl
def QW(n:Int):V:=.int .i64 n
def pm:V:=.ptr 1000000 0 0
def Ir(f:FuncId):V:=.fn f [pm] []
def A6:List (Nat×List V×List V):=[(4,[QW 1,QW 2,QW 2],[Ir 161]),(8,[QW 1,QW 3,QW 2],[Ir 161]),(12,[QW 1,QW 3,QW 3],[Ir 162]),(16,[QW 1,QW 5,QW 5],[Ir 163]),(20,[QW 2,QW 1,QW 1],[Ir 164]),(24,[QW 2,QW 4,QW 4],[Ir 165])]
def Wp:List Nat:=[1,2,3,5,6,7,9,10,11,13,14,15,17,18,19,21,22,23,25,26,27,28,29,30,31,32,33,34,35,36,37,38,40]
def OU(s t k:Int)(r:List V):Bool:=match r with
 | [.int _ a,.int _ b,.int _ c]=>s==a&&(t==b&&(k==c&&true))
 | _=>false
section
variable (s t k q:Int) (body:ze) (tl:List V) (res:V)
def Em:List (Nat×V):=[(0,pm),(3,.ptr 3 0 0)]
def Qaf:List (Nat×Qd):=[(1000000,⟨22,true,[.int .i64 s :: .int .i64 t :: tl]⟩),(3,⟨3,true,[[.int .i64 k,.int .i64 q,.str body]]⟩)]
def hnS:St:=D2 46 Em (Qaf s t k q body tl) [1000000,3]
def CR:List (Nat×V):=[(5,.mp 5),(6,.agg [QW 1,QW 2,QW 2]),(7,pm),(8,Ir 161),(9,.agg [QW 1,QW 3,QW 2]),(10,pm),(11,Ir 161),(12,.agg [QW 1,QW 3,QW 3]),(13,pm),(14,Ir 162),(15,.agg [QW 1,QW 5,QW 5]),(16,pm),(17,Ir 163),
 (18,.agg [QW 2,QW 1,QW 1]),(19,pm),(20,Ir 164),(21,.agg [QW 2,QW 4,QW 4]),(22,pm),(23,Ir 165),(24,.mp 5),(25,pm),(26,pm),(27,pm),(28,pm),(29,QW s),(30,pm),(31,pm),(32,pm),(33,.ptr 1000000 0 1),(34,QW t),(35,.ptr 3 0 0),(36,QW k),(37,.agg [QW s,QW t,QW k]),(38,res),(4,res)]
def Qwn:List (Nat×V):=Em++CR s t k res
def eQ:St:={ hnS s t k q body tl with t:=λi=>Zw (Qwn s t k res) i }
def hnR(i:Nat):List EV.Loc:=((HN Tryz.prog GG YZ i (eQ s t k q body tl res)).map (·.1)).getD []
def hnD(i:Nat):Nat:=(Yk YZ i).getD 0
theorem Qyh:(Wp.map λi=>HN Tryz.prog GG YZ i (eQ s t k q body tl res))=Wp.map λi=>some (hnR s t k q body tl res i,[.t (hnD i) ((eQ s t k q body tl res).t (hnD i))]):=by kernel_rfl
theorem rJ:(Wp.all λi=>(hnR s t k q body tl res i).all λl=>match l with|.t x=>WZ YZ i x|.b b=>b != 5)=true:=by kernel_rfl
theorem Qwg:(Wp.map λi=>Yk YZ i)=Wp.map λi=>some (hnD i):=by kernel_rfl
theorem Qal(x:Nat)(h:∀j,j < YZ.size->Yk YZ j≠some x):(eQ s t k q body tl res).t x=(hnS s t k q body tl).t x:=by
 have hk:((CR s t k res).all λp=>(List.range YZ.size).any λj=>Yk YZ j==some p.1)=true:=by kernel_rfl
 show Zw (Em++CR s t k res) x=Zw Em x;grind [List.any_eq_true,List.all_eq_true,List.mem_of_find?_eq_some,Zw,CR,absurd]
theorem Qwo(hhit:∀x,x∈A6->OU s t k x.2.1=true->I4 false x.2.2=res)(hmiss:(∀x,x∈A6->OU s t k x.2.1=false)->V.Zd=res) :
  iH Tryz.prog GG YZ (hnS s t k q body tl) (eQ s t k q body tl res) 5 0 39 25 (Qwj true false 3 1) 226 225 223 A6 (Wp.map λi=>(i,hnR s t k q body tl res i)) [QW s,QW t,QW k] res .Zd (OU s t k) where
 cov:=by
  have h:((List.range YZ.size).all λi=>i==0 || (i==39 || ((A6.any λx=>x.1==i) || Wp.contains i)))=true:=by kernel_rfl
  intro i hi;have:=zN.1 h i (by simpa using hi);simp only[wi,beq_iff_eq,List.any_eq_true,wz,zM] at this;rcases this with h|h|h|h
  ·exact .inl h
  ·grind
  ·grind
  ·exact .inr (.inr (.inr ⟨(i,_),zP.2 ⟨i,h,rfl⟩,rfl⟩))
 guard:=by
  have h:(YZ.toList.all λo=>o.guard.isNone)=true:=by kernel_rfl
  intro i o ho;have:=zN.1 h o (by rw[<-Array.getElem?_toList] at ho;exact wd ho);simpa using this
 sf:=Qal s t k q body tl res
 sfn:=rfl
 sfb:=λ_ _=>⟨rfl,rfl⟩
 fresh:=⟨by rfl,by rfl⟩
 step:=by
  intro x hx;obtain⟨i,hi,rfl⟩:=zP.1 hx;exact⟨hnD i,List.map_inj_left.1 Qwg i hi,List.map_inj_left.1 (Qyh s t k q body tl res) i hi⟩
 reads:=by
  intro x hx l hl;obtain⟨i,hi,rfl⟩:=zP.1 hx;have:=zN.1 (zN.1 (rJ s t k q body tl res) i hi) l hl;grind
 make:=by
  have h:(YZ[0]?).map (λo=>(o.op,o.dst))=some (.makeMap 226 none,some 5):=by kernel_rfl
  obtain⟨o,ho,he⟩:=zJ.1 h;exact⟨o,ho,congrArg Prod.fst he,congrArg Prod.snd he,by show 5 < 46;decide,by rfl,by decide⟩
 maps:=⟨by kernel_rfl,by kernel_rfl,by kernel_rfl,λh=>(by cases h),λ_=>(by rfl)⟩
 put:=by
  intro x hx;simp only[A6,zY,wj,or_false] at hx;rcases hx with rfl|rfl|rfl|rfl|rfl|rfl
  ·exact EH.of 5 6 8 (by kernel_rfl) (by rfl) (by kernel_rfl) (by kernel_rfl) (by kernel_rfl) ⟨rfl,rfl,by rfl⟩ (by kernel_rfl) (by kernel_rfl) (by kernel_rfl)
  ·exact EH.of 5 9 11 (by kernel_rfl) (by rfl) (by kernel_rfl) (by kernel_rfl) (by kernel_rfl) ⟨rfl,rfl,by rfl⟩ (by kernel_rfl) (by kernel_rfl) (by kernel_rfl)
  ·exact EH.of 5 12 14 (by kernel_rfl) (by rfl) (by kernel_rfl) (by kernel_rfl) (by kernel_rfl) ⟨rfl,rfl,by rfl⟩ (by kernel_rfl) (by kernel_rfl) (by kernel_rfl)
  ·exact EH.of 5 15 17 (by kernel_rfl) (by rfl) (by kernel_rfl) (by kernel_rfl) (by kernel_rfl) ⟨rfl,rfl,by rfl⟩ (by kernel_rfl) (by kernel_rfl) (by kernel_rfl)
  ·exact EH.of 5 18 20 (by kernel_rfl) (by rfl) (by kernel_rfl) (by kernel_rfl) (by kernel_rfl) ⟨rfl,rfl,by rfl⟩ (by kernel_rfl) (by kernel_rfl) (by kernel_rfl)
  ·exact EH.of 5 21 23 (by kernel_rfl) (by rfl) (by kernel_rfl) (by kernel_rfl) (by kernel_rfl) ⟨rfl,rfl,by rfl⟩ (by kernel_rfl) (by kernel_rfl) (by kernel_rfl)
 look:=by
  have h:(YZ[39]?).map (λo=>(o.op,o.dst))=some (.lookup 226 (.tmp 24) (.tmp 37) false,some 38):=by kernel_rfl
  obtain⟨o,ho,he⟩:=zJ.1 h;refine⟨o,24,37,38,ho,congrArg Prod.fst he,congrArg Prod.snd he,by show 38 < 46;decide,by rfl,by rfl,by rfl,by kernel_rfl,by kernel_rfl,by kernel_rfl,?_,by kernel_rfl,?_⟩
  ·grind
  have h2:(A6.all λx=>Gs YZ 25 x.1)=true:=by kernel_rfl
  grind
 self:=by kernel_rfl
 hit:=hhit
 Qwz:=hmiss
 apart:=by
  refine⟨by decide,?_,?_,?_⟩
  ·have h:(A6.all λx=>x.1 != 0&&x.1 != 39)=true:=by rfl
   grind
  ·intro x hx;obtain⟨i,hi,rfl⟩:=zP.1 hx;have h:(Wp.all λi=>i != 0)=true:=by rfl
   grind
  ·intro x y hx hy e;simp only[A6,zY,wj,or_false] at hx hy;grind
end
def iG(p:Z0)(n:Q9)(ts:List (Nat×V)):Ext:=Ext.of .normal ts [(1000000,⟨22,true,[Lm p]⟩),(3,⟨3,true,[(Z3.c n)]⟩)] [] (by rfl)
theorem Qwf(p:Z0)(n:Q9)(res:V)(hhit:∀x,x∈A6->OU p.fe.fp p.fe.fk n.fw x.2.1=true->I4 false x.2.2=res)(hmiss:(∀x,x∈A6->OU p.fe.fp p.fe.fk n.fw x.2.1=false)->V.Zd=res)
  (hE:(iG p n (Em++[(4,res)])).ok=true) (hc:X5 8 res res=res) :
  TV Tryz.prog GG hnC ((iG p n Em).D 46).st (λe st=>e=.normal/\QU GG st ((iG p n (Em++[(4,res)])).D 46).st):=by
 rw[eHn];refine TV.rG (st:=((iG p n Em).D 46).st) Z1 (by kernel_rfl) (Qwo p.fe.fp p.fe.fk n.fw n.fV n.ft ((Lm p).drop 2) res hhit hmiss) λst hn ht hb'=>⟨rfl,W6 _ hE hn ⟨?_,?_⟩⟩
 ·show [(0,X5 8 pm (st.t 0)),(3,X5 8 (.ptr 3 0 0) (st.t 3)),(4,X5 8 res (st.t 4))]=[(0,pm),(3,.ptr 3 0 0),(4,res)];rw[ht 0,ht 3,ht 4];show [(0,pm),(3,.ptr 3 0 0),(4,X5 8 res res)]=_;rw[hc]
 ·show [(1000000,xO [] 1000000 ⟨22,true,[Lm p]⟩ (st.b 1000000)),(3,xO [] 3 ⟨3,true,[(Z3.c n)]⟩ (st.b 3))]=_;rw[(hb' 1000000 (by decide)).1,(hb' 3 (by decide)).1];rfl
theorem Gm(s t k a b c:Int):OU s t k [QW a,QW b,QW c]=true↔s=a/\t=b/\k=c:=by simp[OU,QW]
theorem Qwl(p:Z0)(n:Q9)(x0:Nat×List V×List V)(f:FuncId)(a b c:Int)(h0:x0∈A6)(hk:x0.2.1=[QW a,QW b,QW c])(hf:∀x,x∈A6->x.2.1=[QW a,QW b,QW c]->x.2.2=[Ir f])(hq:OU p.fe.fp p.fe.fk n.fw [QW a,QW b,QW c]=true) :
  TV Tryz.prog GG hnC ((iG p n Em).D 46).st (λe st=>e=.normal/\QU GG st ((iG p n (Em++[(4,Ir f)])).D 46).st):=by
 refine Qwf p n (Ir f) (λx hx h=>?_) (λh=>?_) (by rfl) (by rfl)
 ·have hx':x.2.1=[QW a,QW b,QW c]:=by
   obtain⟨e1,e2,e3⟩:=(Gm _ _ _ _ _ _).1 hq;rw[e1,e2,e3] at h;simp only[A6,zY,wj,or_false] at hx;rcases hx with rfl|rfl|rfl|rfl|rfl|rfl<;>(obtain⟨rfl,rfl,rfl⟩:=(Gm _ _ _ _ _ _).1 h;rfl)
  rw[hf x hx hx'];rfl
 grind
def DK(p:Z0)(n:Q9)(f:FuncId)(a b c:Int)(x0:Nat×List V×List V)(h0:x0∈A6)(hk:x0.2.1=[QW a,QW b,QW c])(hf:∀x,x∈A6->x.2.1=[QW a,QW b,QW c]->x.2.2=[Ir f]):Sub Tryz.prog GG Unit:=
 ⟨hnC,46,iG p n Em,bif OU p.fe.fp p.fe.fk n.fw [QW a,QW b,QW c] then some () else none,λ_=>iG p n (Em++[(4,Ir f)]),λr h=>by
  cases hq:OU p.fe.fp p.fe.fk n.fw [QW a,QW b,QW c] with
  | false=>grind
  | true=>exact Qwl p n x0 f a b c h0 hk hf hq⟩
def jY(p:Z0)(n:Q9):Sub Tryz.prog GG Unit:=
 ⟨hnC,46,iG p n Em,bif A6.all λx=>!OU p.fe.fp p.fe.fk n.fw x.2.1 then some () else none,λ_=>iG p n (Em++[(4,.Zd)]),λr h=>by
  cases hq:A6.all λx=>!OU p.fe.fp p.fe.fk n.fw x.2.1 with
  | false=>grind
  | true=>
   refine Qwf p n .Zd (λx hx h=>?_) (λ_=>rfl) (by rfl) (by rfl);grind⟩
def cO(p:Z0)(n:Q9):Sub Tryz.prog GG Unit:=DK p n 161 1 2 2 (4,[QW 1,QW 2,QW 2],[Ir 161]) (by simp[A6]) rfl (by
 intro x hx h;simp only[A6,zY,wj,or_false] at hx;rcases hx with rfl|rfl|rfl|rfl|rfl|rfl<;>first|rfl|(simp[QW] at h))
def cA(p:Z0)(n:Q9):Sub Tryz.prog GG Unit:=DK p n 161 1 3 2 (8,[QW 1,QW 3,QW 2],[Ir 161]) (by simp[A6]) rfl (by
 intro x hx h;simp only[A6,zY,wj,or_false] at hx;rcases hx with rfl|rfl|rfl|rfl|rfl|rfl<;>first|rfl|(simp[QW] at h))
def cX(p:Z0)(n:Q9):Sub Tryz.prog GG Unit:=DK p n 162 1 3 3 (12,[QW 1,QW 3,QW 3],[Ir 162]) (by simp[A6]) rfl (by
 intro x hx h;simp only[A6,zY,wj,or_false] at hx;rcases hx with rfl|rfl|rfl|rfl|rfl|rfl<;>first|rfl|(simp[QW] at h))
def cE(p:Z0)(n:Q9):Sub Tryz.prog GG Unit:=DK p n 163 1 5 5 (16,[QW 1,QW 5,QW 5],[Ir 163]) (by simp[A6]) rfl (by
 intro x hx h;simp only[A6,zY,wj,or_false] at hx;rcases hx with rfl|rfl|rfl|rfl|rfl|rfl<;>first|rfl|(simp[QW] at h))
def cM(p:Z0)(n:Q9):Sub Tryz.prog GG Unit:=DK p n 164 2 1 1 (20,[QW 2,QW 1,QW 1],[Ir 164]) (by simp[A6]) rfl (by
 intro x hx h;simp only[A6,zY,wj,or_false] at hx;rcases hx with rfl|rfl|rfl|rfl|rfl|rfl<;>first|rfl|(simp[QW] at h))
def cK(p:Z0)(n:Q9):Sub Tryz.prog GG Unit:=DK p n 165 2 4 4 (24,[QW 2,QW 4,QW 4],[Ir 165]) (by simp[A6]) rfl (by
 intro x hx h;simp only[A6,zY,wj,or_false] at hx;rcases hx with rfl|rfl|rfl|rfl|rfl|rfl<;>first|rfl|(simp[QW] at h))
def Qjy(p0:Q9)(p1:Z0):TT ((Q3×(List Q9))⊕(ze×ze×ze×ze×Bool×Int)):=.br 999999 (OU p1.fe.fp p1.fe.fk p0.fw [QW 1,QW 2,QW 2]) (.br 990001 true (.sub (cO p1 p0) λr641=>.Qi 2003 (A5 true 8) [] [] (λr642=>.Qi 3004 (vR p0.ft p1) [(zI,zI)] [] (λr643=>.done (.inl ({ p1.fe with fk:=r643.1,fo:=r643.2.1,fq:=r643.2.2.1,fP:=r643.2.2.2.1,fD:=Y1.mk r643.q.1 r643.q.2.1 r643.q.2.2 },r643.2.2.2.1))) (λr644=>.done (.inr (p1.fe.fj.fG,p1.fe.fj.fR,p1.fe.fj.fh,p1.fe.fC,false,r644)))) (λr645=>.fail)) (.fail)) (.br 999999 (OU p1.fe.fp p1.fe.fk p0.fw [QW 1,QW 3,QW 2]) (.br 990001 true (.sub (cA p1 p0) λr636=>.Qi 2003 (A5 true 8) [] [] (λr637=>.Qi 3004 (vR p0.ft p1) [(zI,zI)] [] (λr638=>.done (.inl ({ p1.fe with fk:=r638.1,fo:=r638.2.1,fq:=r638.2.2.1,fP:=r638.2.2.2.1,fD:=Y1.mk r638.q.1 r638.q.2.1 r638.q.2.2 },r638.2.2.2.1))) (λr639=>.done (.inr (p1.fe.fj.fG,p1.fe.fj.fR,p1.fe.fj.fh,p1.fe.fC,false,r639)))) (λr640=>.fail)) (.fail)) (.br 999999 (OU p1.fe.fp p1.fe.fk p0.fw [QW 1,QW 3,QW 3]) (.br 990001 true (.sub (cX p1 p0) λr631=>.Qi 2003 (A5 true 8) [] [] (λr632=>.Qi 3004 (vN p0.ft p1) [(zI,zI)] [] (λr633=>.done (.inl (r633.1,r633.2))) (λr634=>.done (.inr (r634.1,r634.2.1,r634.2.2.1,p1.fe.fC,r634.2.2.2.1,r634.q)))) (λr635=>.fail)) (.fail)) (.br 999999 (OU p1.fe.fp p1.fe.fk p0.fw [QW 1,QW 5,QW 5]) (.br 990001 true (.sub (cE p1 p0) λr626=>.Qi 2003 (A5 true 8) [] [] (λr627=>.Qi 3004 (Qhj p0.ft p1) [(zI,zI)] [] (λr628=>.gh 0 (.tell zI [(X9 15 .undef [.sl false 3 (List.map Z3.c []),.undef,.undef,.undef,.undef,.undef,.undef])]) (.done (.inl ({ p1.fe with fk:=6,fq:=r628.1,fP:=[],fD:=Y1.mk r628.2.1 r628.2.2.1 r628.2.2.2 },p1.QL)))) (λr629=>.done (.inr (p1.fe.fj.fG,p1.fe.fj.fR,p1.fe.fj.fh,p1.fe.fC,r629.1,r629.2)))) (λr630=>.fail)) (.fail)) (.br 999999 (OU p1.fe.fp p1.fe.fk p0.fw [QW 2,QW 1,QW 1]) (.br 990001 true (.sub (cM p1 p0) λr621=>.Qi 2003 (A5 true 8) [] [] (λr622=>.Qi 3004 (vG p0.ft p1) [(zI,zI)] [] (λr623=>.done (.inl (r623.1,r623.2))) (λr624=>.done (.inr (p1.fe.fj.fG,p1.fe.fj.fR,p1.fe.fj.fh,p1.fe.fC,false,r624)))) (λr625=>.fail)) (.fail)) (.br 999999 (OU p1.fe.fp p1.fe.fk p0.fw [QW 2,QW 4,QW 4]) (.br 990001 true (.sub (cK p1 p0) λr616=>.Qi 2003 (A5 true 8) [] [] (λr617=>.Qi 3004 (vL p0.ft p1) [(zI,zI)] [] (λr618=>.done (.inl ({ p1.fe with fk:=r618.1,fo:=r618.2.1,fq:=r618.2.2.1,fj:=K4.mk p1.fe.fj.fG p1.fe.fj.fR r618.2.2.2.1,fC:=r618.q.1,fP:=r618.q.2.1,fD:=Y1.mk r618.q.2.2.1 r618.q.2.2.2.1 r618.q.q },r618.q.2.1))) (λr619=>.done (.inr (p1.fe.fj.fG,p1.fe.fj.fR,p1.fe.fj.fh,r619.1,r619.2.1,r619.2.2)))) (λr620=>.fail)) (.fail)) (.br 990001 true (.sub (jY p1 p0) λr613=>.Qi 2003 (A5 false 8) [] [] (λr614=>.fail) (λr615=>.done (.inr (p1.fe.fj.fG,p1.fe.fj.fR,p1.fe.fj.fh,p1.fe.fC,false,8)))) (.fail)))))))
theorem Qad(p0:Q9)(p1:Z0):Hi Tryz.prog GG [0,1,3,4] Tryz.f107 [.ptr 1000000 0 0,.agg (Z3.c p0)] (Ext.of .normal (U5 [.ptr 1000000 0 0,.agg (Z3.c p0)]) [(1000000,⟨22,true,[(A9 p1)]⟩)] [] (by rfl)) (Qjy p0 p1) (λ(r:Q3×(List Q9))=>.Qc []) (λ(r:Q3×(List Q9))=>Ext.of .normal [] [(1000000,⟨22,true,[(W0 (D9 r.1) [.str p1.QY,.sl false 3 (List.map Z3.c r.2)])]⟩)] [] (by rfl)) (λ(r:ze×ze×ze×ze×Bool×Int)=>K7 (.iface (bif r.q.1 then 171 else 124) (.agg #[.int .i64 r.q.2]))) (λ(r:ze×ze×ze×ze×Bool×Int)=>Ext.of .normal [] [(1000000,⟨22,true,[(A9 { p1 with fe:={ p1.fe with fj:=⟨r.1,r.2.1,r.2.2.1⟩,fC:=r.2.2.2.1 } })]⟩)] [] (by rfl)):=by unfold Hi;kernel_rfl
def Qqj(p0:Q9)(p1:Z0):L0 Pg GG (Q3×(List Q9)) (ze×ze×ze×ze×Bool×Int):=.ofFn 107 [] Z1 Tryz.func107 rfl (λ_=>rfl) (λ_=>rfl) (Qad p0 p1)
structure Q7 where
 fw:Int
 fm:Int
 fI:ze
 fM:Q9
noncomputable def bU:Code:=Tryz.f62.body.getD .skip
def Qas(p:Z0)(v:Q7):TT (Unit):=
 .done ()
def yQ(p:Z0)(v:Q7):Ext:=Ext.of .normal [(0,.ptr 1000000 0 0),(1,.agg [.i v.fw,.i v.fm,.str v.fI,.i v.fM.fw,.i v.fM.fV,.str v.fM.ft])] [(1000000,⟨22,true,[(A9 p)]⟩)] [] (by rfl)
def Nz(p:Z0)(v:Q7):(Unit)->Ext:=λ(r:Unit)=>Ext.of .normal [(2,.ptr 2 0 0),(3,.ptr 3 0 0)] [(2,⟨1,true,[[.ptr 1000000 0 0]]⟩),(3,⟨6,true,[[.i v.fw,.i v.fm,.str v.fI,.i v.fM.fw,.i v.fM.fV,.str v.fM.ft]]⟩),(1000000,⟨22,true,[(A9 p)]⟩)] [] (by rfl)
theorem Qxb(p:Z0)(v:Q7):Y3 Tryz.prog GG [0,1,2,3] 52 (cL bU) (yQ p v) (Qas p v) (Nz p v):=by unfold Y3;kernel_rfl
def eO(p:Z0)(v:Q7):TT ((Q3×(List Q9))⊕(ze×ze×ze×ze×Bool×Int)):=
 .br 0 (v.fw==1)
 (.br 4008 (p.fe.fp==1)
  (.Qi 4015 (A5 (p.fe.fk==1) 8) [] [] (λr646=>
    .call 5002 (Qhh p) [(1000000,2000000)] [] λr648=>
    .done (.inl ({ p.fe with fk:=r648.1,fo:=r648.2.1,fP:=r648.2.2.1,fD:=Y1.mk r648.2.2.2.1 r648.q.1 r648.q.2 },r648.2.2.1)))
   (λr649=>
    .done (.inr (p.fe.fj.fG,p.fe.fj.fR,p.fe.fj.fh,p.fe.fC,false,8))))
  (.Qi 4015 (A5 false 8) [] [] (λr650=>
    .fail)
   (λr651=>
    .done (.inr (p.fe.fj.fG,p.fe.fj.fR,p.fe.fj.fh,p.fe.fC,false,8)))))
 (.br 0 (v.fw==2)
  (.Qi 7004 (Qqj v.fM p) [(1000000,2000000)] [] (λr652=>
    .done (.inl (r652.1,r652.2)))
   (λr653=>
    .done (.inr (r653.1,r653.2.1,r653.2.2.1,r653.2.2.2.1,r653.q.1,r653.q.2))))
  (.br 0 (v.fw==3)
   (.Qi 9002 (Qhu p) [(1000000,2000000)] [] (λr654=>
     .done (.inl ({ p.fe with fD:=Y1.mk r654.1 r654.2.1 r654.2.2.1 },r654.2.2.2)))
    (λr655=>
     .done (.inr (p.fe.fj.fG,p.fe.fj.fR,p.fe.fj.fh,p.fe.fC,true,6))))
   (.br 0 (v.fw==4)
    (.br 0 (p.fe.fp==2)
     (.done (.inl (p.fe,p.fe.fP)))
     (.done (.inl (p.fe,p.QL))))
    (.done (.inl (p.fe,p.QL))))))
def qV(p:Z0)(v:Q7):Ext:=Ext.of .normal [(2,.ptr 1000002 0 0),(3,.ptr 1000003 0 0),(4,.fn 104 [] [.ptr 1000002 0 0])] [(1000002,⟨1,true,[[.ptr 2000000 0 0]]⟩),(1000003,⟨6,true,[[.i v.fw,.i v.fm,.str v.fI,.i v.fM.fw,.i v.fM.fV,.str v.fM.ft]]⟩),(2000000,⟨22,true,[(A9 p)]⟩)] [] (by rfl)
def LO(p:Z0)(v:Q7)(r:Q3×(List Q9)):Ext:=Ext.of .normal [(2,.ptr 1000002 0 0)] [(1000002,⟨1,true,[[.ptr 2000000 0 0]]⟩),(1000003,⟨6,true,[[.i v.fw,.i v.fm,.str v.fI,.i v.fM.fw,.i v.fM.fV,.str v.fM.ft]]⟩),(2000000,⟨22,true,[(W0 (D9 r.1) [.str p.QY,.sl false 3 (List.map Z3.c r.2)])]⟩)] [] (by rfl)
def LI(p:Z0)(v:Q7)(r:ze×ze×ze×ze×Bool×Int):Ext:=Ext.of (.panic (K7 (.iface (bif r.q.1 then 171 else 124) (.agg #[.int .i64 r.q.2])))) [(2,.ptr 1000002 0 0)] [(1000002,⟨1,true,[[.ptr 2000000 0 0]]⟩),(1000003,⟨6,true,[[.i v.fw,.i v.fm,.str v.fI,.i v.fM.fw,.i v.fM.fV,.str v.fM.ft]]⟩),(2000000,⟨22,true,[(A9 { p with fe:={ p.fe with fj:=⟨r.1,r.2.1,r.2.2.1⟩,fC:=r.2.2.2.1 } })]⟩)] [] (by rfl)
theorem Qxs(p:Z0)(v:Q7):Y3 Tryz.prog GG [2,3,4,6,7,26,32,36,43] 52 (cR (cR bU)) (qV p v) (eO p v) (Sum.elim (LO p v) (LI p v)):=by unfold Y3;kernel_rfl
def sB:Array Oper:=Oo (cL (cR bU))
def Rv:Oper:=(sB[0]?).get (by kernel_rfl)
def dN:Oper:=(sB[1]?).get (by kernel_rfl)
theorem eEv:Tryz.f62.body=some ([cL bU].foldr Code.seq (.seq (.region 1 #[Rv,dN] false) (cR (cR bU)))):=by kernel_rfl
noncomputable def cEc:Code:=Tryz.f104.body.getD .skip
def Qei:Array Oper:=Oo (cL cEc)
def Qi9:Oper:=(Qei[0]?).get (by kernel_rfl)
theorem eEc:Tryz.f104.body=some (.seq (.region 0 #[Qi9] false) (cR cEc)):=by kernel_rfl
def Bx(e:Int):Value:=.iface 171 (.agg #[.int .i64 e])
def Hz(e:Int):Value:=.iface 124 (.agg #[.int .i64 e])
def Up(v:Q7):List V:=[.int .i64 v.fw,.int .i64 v.fm,.str v.fI,.int .i64 v.fM.fw,.int .i64 v.fM.fV,.str v.fM.ft]
def Da(p:Z0)(v:Q7):List (Nat×Qd):=[(1000002,⟨1,true,[[.ptr 2000000 0 0]]⟩),(1000003,⟨6,true,[Up v]⟩),(2000000,⟨22,true,[Lm p]⟩)]
def Mp:List V:=[.ptr 1000002 0 0]
def xEc(rv:Value)(h:Wn rv=true)(p:Z0)(v:Q7):Ext:=Ext.of .normal [(0,.ptr 1000002 0 0),(4,.Zu rv)] (Da p v) [] (by rfl)
def Tt(p:Z0)(v:Q7):Ext:=Ext.of .normal [] (Da p v) [] (by rfl)
def dE(p:Z0)(e:Int)(q:Int×Int×Int):Z0:=⟨⟨p.fe.fp,7,p.fe.fm,p.fe.gd,p.fe.fh,p.fe.fZ,p.fe.fG,p.fe.gb,p.fe.fL,p.fe.fo,zg,⟨zg,zg,zg⟩,zg,[],⟨q.1,q.2.1,q.2.2⟩,e⟩,p.QY,[]⟩
def Qab:TT Unit:=.Qq 3001 (Qh.Qex 20 20 (.tmp 4) 6 (by kernel_rfl)) λ_=>.tt (.done ())
theorem Qxc(p:Z0)(v:Q7):Y3 Tryz.prog GG [0,4,6] 14 (cR cEc) (xEc .nilIface rfl p v) Qab (λ_=>Tt p v):=by unfold Y3;kernel_rfl
theorem asF(e:Int)(w:World):∃v,(Instr.typeAssert (Bx e) 20 171 true).run Tryz.prog w=.ok (.tuple #[v,.bool true]) w/\∀γ bs u,Qz γ w bs u (.agg [.int .i64 e]) v:=⟨.agg #[.int .i64 e],by kernel_rfl,λ_ _ _=>.agg [.int .i64 e] [.int .i64 e] rfl λi c x hc hx=>by
 match i,hc,hx with
 | 0,hc,hx=>simp at hc hx;subst hc;subst hx;exact .data (.int _ _)
 | n+1,hc,hx=>simp at hc⟩
theorem asE(e:Int)(w:World):∃v,(Instr.typeAssert (Hz e) 20 171 true).run Tryz.prog w=.ok (.tuple #[v,.bool false]) w/\∀γ bs u,Qz γ w bs u (.agg [.int .i64 0]) v:=⟨.agg #[.int .i64 0],by kernel_rfl,λ_ _ _=>.agg [.int .i64 0] [.int .i64 0] rfl λi c x hc hx=>by
 match i,hc,hx with
 | 0,hc,hx=>simp at hc hx;subst hc;subst hx;exact .data (.int _ _)
 | n+1,hc,hx=>simp at hc⟩
def rW(p:Z0)(e:Int):TT (Int×Int×Int):=.Qq 3001 (Qh.dB 20 20 (.tmp 4) 6 171 (.agg #[.int .i64 e]) (by kernel_rfl)) λ_=>.ff (.Qq 5001 (Qh.asserted (.tmp 4) 20 171 7 (Bx e) true (.agg [.int .i64 e]) (.agg [.int .i64 0]) λw=>by
 simp_all [asF]) λ_=>.tt (.call 7004 (Qhw e p) [(1000000,2000000)] [] λq=>.gh 0 (.tell 2000000 [[.undef,.undef,.undef,.undef,.undef,.undef,.undef,.undef,.undef,.undef,.undef,.undef,.undef,.undef,.undef,.sl false 3 [],.undef,.undef,.undef,.undef,.undef,.sl false 3 []]]) (.done q)))
theorem Qxt(p:Z0)(v:Q7)(e:Int):Y3 Tryz.prog GG [0,1,2,3,4,5,6,8,9] 14 (cR cEc) (xEc (Bx e) rfl p v) (rW p e) (λq=>Tt (dE p e q) v):=by unfold Y3;kernel_rfl
def Qac(e:Int):TT Unit:=.Qq 3001 (Qh.dB 20 20 (.tmp 4) 6 124 (.agg #[.int .i64 e]) (by kernel_rfl)) λ_=>.ff (.Qq 5001 (Qh.asserted (.tmp 4) 20 171 7 (Hz e) false (.agg [.int .i64 e]) (.agg [.int .i64 0]) λw=>by
 simp_all [asE]) λ_=>.ff (.Hp 2002 (.done ())))
theorem Qxv(p:Z0)(v:Q7)(e:Int):Y3 Tryz.prog GG [0,1,2,3,4,5,6,8,9] 14 (cR cEc) (xEc (Hz e) rfl p v) (Qac e) (λ_=>Ext.of (.panic (K7 (Hz e))) [] (Da p v) [] (by rfl)):=by unfold Y3;kernel_rfl
theorem dS(p:Z0)(v:Q7):∀b k,Qm (Da p v) b=some k->X8 b=true:=λb k h=>by
 obtain⟨q,h1,rfl,_⟩:=Ys h;simp only[Da,zY,wj,or_false] at h1;rcases h1 with rfl|rfl|rfl
 ·grind [X8]
 ·grind [X8]
 grind [X8]
theorem ecD{u u':FrameMode}{rv:Value}(hi:Wn rv=true){p:Z0}{v:Q7}{kp:List Nat}{ρ:Type}{g:TT ρ}{E:ρ->Ext}{r:ρ}{ee:Value->Ending}{outs:zj}(hr:WE u rv u')(k:Y3 Tryz.prog GG kp 14 (cR cEc) (xEc rv hi p v) g E)(hg:g.run=some r)(hok:(E r).ok=true)
  (hex:(ee=.returned/\(E r).ex=.normal)\/∃ch,ee=(λ_=>.panicked ch)/\(E r).ex=.panic ch) (hb:∀b k,outs b=some k->Qm (E r).bs b=some k) :
  WA Tryz.prog GG 104 Mp (Qm (Da p v)) u ee u' outs:=by
 refine DT (n:=14) (l:=[]) (t1:=4) (rv:=rv) (S1:=((xEc rv hi p v).D 14).st) (ex:=λe=>e=(E r).ex) Tryz.func104 eEc (by kernel_rfl) rfl rfl (by kernel_rfl) (by kernel_rfl) (by kernel_rfl) (by decide) hi hr (by kernel_rfl) (U8.nil ⟨rfl,W6 (xEc rv hi p v) (by rfl) rfl ⟨by rfl,by rfl⟩⟩) ?_ ?_
 ·have h:=k.tv Z1 hg hok;exact h.mono λe s hq=>⟨hq.1,_,hq.2,λb k hk=>hb b k hk⟩
 ·rcases hex with⟨h1,h2⟩|⟨ch,h1,h2⟩
  ·grind
  simp_all
abbrev EvA:=Q3×List Q9
abbrev EvB:=ze×ze×ze×ze×Bool×Int
def evM(p:Z0)(r:EvA):Z0:=⟨r.1,p.QY,r.2⟩
def sS(p:Z0)(r:EvB):Z0:=⟨⟨p.fe.fp,p.fe.fk,p.fe.fm,p.fe.gd,p.fe.fh,p.fe.fZ,p.fe.fG,p.fe.gb,p.fe.fL,p.fe.fo,p.fe.fq,⟨r.1,r.2.1,r.2.2.1⟩,r.2.2.2.1,p.fe.fP,p.fe.fD,p.fe.ge⟩,p.QY,p.QL⟩
def XS(p:Z0)(v:Q7):Ext:=Ext.of .normal [(2,.ptr 1000002 0 0),(3,.ptr 1000003 0 0)] (Da p v) [] (by rfl)
def LF(p:Z0)(v:Q7):Ext:=Ext.of .normal [] [(2,⟨1,true,[[.ptr 1000000 0 0]]⟩),(3,⟨6,true,[Up v]⟩),(1000000,⟨22,true,[Lm p]⟩)] [] (by rfl)
def Ea(p:Z0):List (Nat×Qd):=[(1000000,⟨22,true,[Lm p]⟩)]
theorem Qeh{x:Ext}(h:x.us=[1000002,1000003,2000000]):(x.D 52).st.u=Qw:=funext λb=>by
 show (x.us.contains b || Qw b)=Qw b;rw[h];by_cases h1:b=1000002
 ·subst h1;rfl
 ·by_cases h2:b=1000003
  ·subst h2;rfl
  ·by_cases h3:b=2000000
   ·subst h3;rfl
   grind
theorem Ba(p:Z0)(v:Q7){q:EvA⊕EvB}{x:Ext}{u u' M:FrameMode}{ee EE:Value->Ending}{p1 p2:Z0}{res:V}{outs:zj}(hx:Sum.elim (LO p v) (LI p v) q=x)(h2:(eO p v).run=some q)(hok:x.ok=true)(hl:Go.EV.Left u x.ex)(hbs:(x.D 52).st.b=Qm (Da p1 v))(hus:x.us=[1000002,1000003,2000000])
  (hD:WA Tryz.prog GG 104 Mp (Qm (Da p1 v)) u ee u' (Qm (Da p2 v))) (hM:∀z,settled u' (ee z)=M) (hne:∀z,ee z≠.outgrown) (houts:∀b k,outs b=some k->Qm (LF p2 v).bs b=some k)
  (hend:(M=.returning/\EE=.returned/\res=.Qc [])\/∃ch,M=.panicking ch/\EE=(λ_=>.panicked ch)/\res=.undef) :
  WX Tryz.prog GG 62 [.ptr 1000000 0 0,.agg (Up v)] (Qm (Ea p)) EE res outs:=by
 subst hx;have e0:U3 52 [.ptr 1000000 0 0,.agg (Up v)] (Qm (Ea p))=((yQ p v).D 52).st:=(B9 (x:=yQ p v) (by rfl) (by rfl) 52).symm;have t0:=(Qxb p v).tv Z1 (r:=()) rfl (by rfl);have t2:=(Qxs p v).tv Z1 h2 hok;have hsh:QU GG ((Nz p v ()).D 52).st.shift ((XS p v).D 52).st:=by
  have eT:((Nz p v ()).ts.map λp=>(p.1,W3 sh p.2))=(XS p v).ts:=by kernel_rfl
  have eB:((Nz p v ()).bs.map λp=>(sh p.1,p.2.Qb sh))=(XS p v).bs:=by kernel_rfl
  rw[Ur,eT,eB];exact W6 (XS p v) (by rfl) rfl ⟨by rfl,by rfl⟩
 have hU:QU GG ⟨52,((Sum.elim (LO p v) (LI p v) q).D 52).st.t,Qm (Da p2 v),λ_=>true⟩ ((LF p2 v).D 52).st.shift:=by
  have eT:((LF p2 v).ts.map λp=>(p.1,W3 sh p.2))=(Tt p2 v).ts:=by kernel_rfl
  have eB:((LF p2 v).bs.map λp=>(sh p.1,p.2.Qb sh))=(Tt p2 v).bs:=by kernel_rfl
  rw[Ur,eT,eB,<-iM (x:=Tt p2 v) _ (by rfl)];exact W6 (Tt p2 v) (by rfl) rfl ⟨by rfl,by rfl⟩
 have st5:C1 Tryz.prog GG #[Rv,dN] 0 ((XS p v).D 52).st (((XS p v).D 52).st.put (some 4) (.fn 104 [] Mp)):=ZZ (by rfl);have g0:E4 #[Rv,dN] ((XS p v).D 52).st Rv=some true:=by rfl
 have h0:I9 Tryz.prog GG Rv ((XS p v).D 52).st (((XS p v).D 52).st.put (some 4) (.fn 104 [] Mp)):=by
  unfold C1 at st5;simp only[show (#[Rv,dN]:Array Oper)[0]?=some Rv from rfl] at st5;rcases st5 with⟨_,h⟩|⟨h,_⟩
  ·exact h
  ·rw[g0] at h;simp at h
 have gB:QU GG (((XS p v).D 52).st.put (some 4) (.fn 104 [] Mp)) ((qV p v).D 52).st:=W6 (qV p v) (by rfl) rfl ⟨by rfl,by rfl⟩;refine DC (As:=[cL bU]) (rest:=cR (cR bU)) (rid:=1) (t:=4) (n:=52) (o0:=Rv) (o1:=dN) (caps:=Mp) (insD:=Qm (Da p1 v)) (outsD:=Qm (Da p2 v)) (S0:=((Nz p v ()).D 52).st) (S1:=((XS p v).D 52).st) (S2:=((Sum.elim (LO p v) (LI p v) q).D 52).st) (Sx:=((LF p2 v).D 52).st) (u:=u) (u':=u')
  Tryz.func62 eEv (by kernel_rfl) ?_ hsh h0 g0 (by kernel_rfl) (by kernel_rfl) (by rfl) (TV.ghost gB t2) hl (λc hc=>?_) (show 4 < 52 by decide) ⟨hbs,Qeh hus⟩ (by grind [dS]) Tryz.func104 (by kernel_rfl) (by kernel_rfl) hD hM hne hU (Yu (ts:=(LF p2 v).ts) (bs:=(LF p2 v).bs) (us:=(LF p2 v).us) (by rfl) (by rfl)) rfl houts ?_
 ·rw[e0];show TV _ _ (cL bU) _ _;exact t0
 ·simp only[Mp,zY,wj,or_false] at hc;subst hc;exact⟨1000002,_,rfl,by decide,rfl⟩
 ·rcases hend with⟨h1,h2,rfl⟩|h
  ·exact .inl ⟨h1,h2,by kernel_rfl,λγ w v h=>Qz.IW (γ:=γ) (γ':=γ) (by grind) h (by rfl)⟩
  grind
def evR(p:Z0)(v:Q7):Option (Z0⊕Int):=match (eO p v).run with
 | some (.inl r)=>some (.inl (evM p r))
 | some (.inr r)=>bif r.q.1 then (match (rW (sS p r) r.q.2).run with|some q=>some (.inl (dE (sS p r) r.q.2 q))|none=>none) else some (.inr r.q.2)
 | none=>none
def dR(e:Int):List PanicEntry:=[{ v:=Hz e,recovered:=false },{ v:=Hz e,recovered:=true }]
theorem Qek(p:Z0)(v:Q7){p':Z0}(h:evR p v=some (.inl p')):QR Tryz.prog GG 62 [.ptr 1000000 0 0,.agg (Up v)] (Qm (Ea p)) (.Qc []) (Qm (Ea p')):=by
 have sub:∀p2:Z0,∀b k,Qm (Ea p2) b=some k->Qm (LF p2 v).bs b=some k:=λp2 b k hk=>by
  obtain⟨z,h1,rfl,rfl⟩:=Ys hk;simp only[Ea,zY,wj,or_false] at h1;subst h1;rfl
 unfold evR at h;split at h
 ·rename_i r hr;obtain rfl:=Sum.inl.inj (wu h);exact Ba p v (p1:=evM p r) (p2:=evM p r) (u:=.returning) (u':=.returning) (M:=.returning) (ee:=.returned) (EE:=.returned) rfl hr (by rfl) (.inr (.inl ⟨rfl,rfl⟩)) rfl rfl (ecD rfl (.inl ⟨rfl,rfl,rfl⟩) (Qxc (evM p r) v) (r:=()) rfl (by rfl) (.inl ⟨rfl,rfl⟩) λ_ _ h=>h) (λ_=>rfl) (λ_ h=>by cases h) (sub _) (.inl ⟨rfl,rfl,rfl⟩)
 ·rename_i r hr;cases hf:r.q.1 with
  | false=>grind
  | true=>
   rw[hf] at h;simp only[cond_true] at h;split at h
   ·rename_i q hq;obtain rfl:=Sum.inl.inj (wu h);refine Ba p v (p1:=sS p r) (p2:=dE (sS p r) r.q.2 q) (u:=.panicking (K7 (Bx r.q.2))) (u':=.panicking [{ v:=Bx r.q.2,recovered:=true }]) (M:=.returning) (ee:=.returned) (EE:=.returned) rfl hr (by rfl) (.inr (.inr ⟨_,rfl,?_⟩)) rfl rfl (ecD rfl (.inr ⟨Bx r.q.2,[],rfl,rfl,rfl⟩) (Qxt (sS p r) v r.q.2) hq (by rfl) (.inl ⟨rfl,rfl⟩) λ_ _ h=>h) (λ_=>rfl) (λ_ h=>by cases h) (sub _) (.inl ⟨rfl,rfl,rfl⟩);grind [K7,Bx]
   ·cases h
 ·cases h
theorem Qjx(p:Z0)(v:Q7){e:Int}(h:evR p v=some (.inr e)):WX Tryz.prog GG 62 [.ptr 1000000 0 0,.agg (Up v)] (Qm (Ea p)) (λ_=>.panicked (dR e)) .undef Ot:=by
 unfold evR at h;split at h
 ·cases h
 ·rename_i r hr;cases hf:r.q.1 with
  | true=>
   grind
  | false=>
   rw[hf] at h;obtain rfl:=Sum.inr.inj (wu h);refine Ba p v (p1:=sS p r) (p2:=sS p r) (u:=.panicking (K7 (Hz r.q.2))) (u':=.panicking [{ v:=Hz r.q.2,recovered:=true }]) (M:=.panicking (dR r.q.2)) (ee:=λ_=>.panicked (K7 (Hz r.q.2))) (EE:=λ_=>.panicked (dR r.q.2)) rfl hr (by rfl) (.inr (.inr ⟨_,rfl,?_⟩)) rfl rfl (ecD rfl (.inr ⟨Hz r.q.2,[],rfl,rfl,rfl⟩) (Qxv (sS p r) v r.q.2) (r:=()) rfl (by rfl) (.inr ⟨_,rfl,rfl⟩) λ_ _ h=>h) (λ_=>rfl) (λ_ h=>by cases h) (by grind [Ot]) (by grind);grind [K7,Hz]
 ·cases h
def tQ(v:Q7)(p:Z0):L0 Pg GG Z0 Int:=⟨62,[.ptr zI 0 0,.agg (Up v)],Ea p,evR p v,λ_=>.Qc [],Ea,dR,λ_=>[],[],λ_ _ _ h=>by simp at h,λ_ _ _ h=>by simp at h,λ_ h=>Qek p v h,λ_ h=>Qjx p v h⟩
def cS(b:Bool)(e:Int):List PanicEntry:=bif b then dR e else K7 (Hz e)
noncomputable def bJ:Code:=Tryz.f24.body.getD .skip
def Qan(s:Q3)(v:Q7):TT (Unit):=
 .done ()
def qC(s:Q3)(v:Q7):Ext:=Ext.of .normal [(0,.agg (D9 s)),(1,.agg [.i v.fw,.i v.fm,.str v.fI,.i v.fM.fw,.i v.fM.fV,.str v.fM.ft])] [] [] (by rfl)
def Nq(s:Q3)(v:Q7):(Unit)->Ext:=λ(r:Unit)=>Ext.of .normal [(2,.ptr 2 0 0),(3,.ptr 3 0 0),(4,.ptr 4 0 0),(5,.ptr 5 0 0),(6,.ptr 6 0 0)] [(2,⟨20,true,[(D9 s)]⟩),(3,⟨6,true,[[.i v.fw,.i v.fm,.str v.fI,.i v.fM.fw,.i v.fM.fV,.str v.fM.ft]]⟩),(4,⟨20,true,[(W0 [.i 0,.i 0,.i 0] (X9 5 (.str zg) (W0 [.Qu,.i 0] (X9 5 (.str zg) (W0 [.Qu] (X9 4 (.int .i64 0) []))))))]⟩),(5,⟨1,true,[[.Qu]]⟩),(6,⟨1,true,[[.i 0]]⟩)] [] (by rfl)
theorem Qxz(s:Q3)(v:Q7):Y3 Tryz.prog GG [0,1,2,3,4,5,6] 76 (cL bJ) (qC s v) (Qan s v) (Nq s v):=by unfold Y3;kernel_rfl
def g61(p0:List Q9):TT Unit:=.app 3003 Z3 [] p0 32 true (by intros;rfl) (.done ())
theorem Qa4:Y3 Tryz.prog GG [2] 8 (Ef Tryz.f61.body) (Ext.l .normal [(2,.Qu)] []) (.done ():TT Unit) (λ_=>Ext.l .ret [(2,.Qu)] []):=by unfold Y3;kernel_rfl
theorem Qa5(p0:List Q9):Y3 Tryz.prog GG [0,2,5,6,7] 8 (Ki Tryz.f61.body) (Ext.l .normal [(0,.sl false 3 (List.map Z3.c p0)),(2,.Qu)] []) (g61 p0) (λ_=>Ext.of .ret [(2,.ref 7 0 ([]++p0).length)] [] [BT.of 7 Z3 3 ([]++p0)] (by rfl)):=by unfold Y3;kernel_rfl
theorem k61(p0:(List Q9)){r:Unit}(h:(g61 p0).run=some r):QR Tryz.prog GG 61 [.sl false 3 (List.map Z3.c p0)] (Qm []) (.ref 7 0 p0.length) (Qm [(7,⟨3,true,List.map Z3.c p0⟩)]):=
 RE (ty:=Z3) (ops0:=Lc Tryz.f61.body) (ops1:=Lb Tryz.f61.body) (yes:=Ef Tryz.f61.body) (rest:=Ki Tryz.f61.body) (t:=43) Z1 (by decide) Tryz.func61 (by kernel_rfl) (by kernel_rfl) (by kernel_rfl) (by kernel_rfl) (by kernel_rfl) (by kernel_rfl) (by kernel_rfl) (by kernel_rfl) (by kernel_rfl) Qa4 (Qa5 p0) (by rfl) h
def s61(p0:List Q9):Sp Unit:=⟨61,[Sl 3 Z3 p0],[],(g61 p0).run,λ_=>Rf 7 p0,λ_=>[(7,⟨3,true,List.map Z3.c p0⟩)],[7],λ_ p hp _=>by rw[wG.1 hp];exact Z3.data _,λ_ h=>k61 p0 h⟩
def eE(s:Q3)(v:Q7):TT ((Q3×(List Q9))⊕(Bool×Int)):=
 .cl 2002 (tY s) λr656=>
 .Qi 2004 (A5 (r656==0) 200) [] [] (λr657=>
  .br 3005 (decide ((1:Int)<=v.fw))
  (.br 3010 (decide (v.fw<=4))
   (.br 3017 (decide (s.fm<=v.fm))
    (.br 3022 (decide (v.fm<=1099511627776))
     (.Qi 3027 (A5 (decide ((v.fI.size:Int)<=64)) 2) [] [] (λr658=>
       .br 4005 (v.fw != 2)
       (.Qi 4010 (A5 true 2) [] [] (λr659=>
         .cl 5004 (s59 v.fI) λr660=>
         .call 7003 (s60 s.fL) [] [(7,500016)] λr661=>
         .call 7006 (s61 s.fP) [] [(7,500017)] λr662=>
         .gh 10 (.share (Zb.o 500016 Z8 s.fL) 0) (.gh 10 (.share (Zb.o 500017 Z3 s.fP) 0) (.gh 10 (.tell 7 [(X9 21 .undef [.sl false 3 (List.map Z3.c [])])]) (.Qi 8002 (tQ v (Z0.mk { s with fm:=v.fm } r660 [])) [(1000000,7)] [] (λr663=>
          .call 9005 (s61 r663.QL) [] [(7,500018)] λr664=>
          .gh 0 (.share (Zb.o 500018 Z3 r663.QL) 0) (.done (.inl (r663.fe,r663.QL))))
         (λr665=>
          .done (.inr (true,r665)))))))
        (λr666=>
         .fail))
       (.cl 4007 (s58 v.fM) λr667=>
        .Qi 4010 (A5 (r667==0) 2) [] [] (λr668=>
         .cl 5004 (s59 v.fI) λr669=>
         .call 7003 (s60 s.fL) [] [(7,500019)] λr670=>
         .call 7006 (s61 s.fP) [] [(7,500020)] λr671=>
         .gh 10 (.share (Zb.o 500019 Z8 s.fL) 0) (.gh 10 (.share (Zb.o 500020 Z3 s.fP) 0) (.gh 10 (.tell 7 [(X9 21 .undef [.sl false 3 (List.map Z3.c [])])]) (.Qi 8002 (tQ v (Z0.mk { s with fm:=v.fm } r669 [])) [(1000000,7)] [] (λr672=>
          .call 9005 (s61 r672.QL) [] [(7,500021)] λr673=>
          .gh 0 (.share (Zb.o 500021 Z3 r672.QL) 0) (.done (.inl (r672.fe,r672.QL))))
         (λr674=>
          .done (.inr (true,r674)))))))
        (λr675=>
         .done (.inr (false,2)))))
      (λr676=>
       .done (.inr (false,2))))
     (.Qi 3027 (A5 false 2) [] [] (λr677=>
       .fail)
      (λr678=>
       .done (.inr (false,2)))))
    (.Qi 3027 (A5 false 2) [] [] (λr679=>
      .fail)
     (λr680=>
      .done (.inr (false,2)))))
   (.Qi 3027 (A5 false 2) [] [] (λr681=>
     .fail)
    (λr682=>
     .done (.inr (false,2)))))
  (.Qi 3027 (A5 false 2) [] [] (λr683=>
    .fail)
   (λr684=>
    .done (.inr (false,2)))))
 (λr685=>
  .done (.inr (false,200)))
def qB(s:Q3)(v:Q7):Ext:=Ext.of .normal [(2,.ptr 1000002 0 0),(3,.ptr 1000003 0 0),(4,.ptr 1000004 0 0),(5,.ptr 1000005 0 0),(6,.ptr 1000006 0 0),(8,.fn 56 [] [.ptr 1000004 0 0,.ptr 1000005 0 0,.ptr 1000006 0 0])] [(1000002,⟨20,true,[(D9 s)]⟩),(1000003,⟨6,true,[[.i v.fw,.i v.fm,.str v.fI,.i v.fM.fw,.i v.fM.fV,.str v.fM.ft]]⟩),(1000004,⟨20,true,[(W0 [.i 0,.i 0,.i 0] (X9 5 (.str zg) (W0 [.Qu,.i 0] (X9 5 (.str zg) (W0 [.Qu] (X9 4 (.int .i64 0) []))))))]⟩),(1000005,⟨1,true,[[.Qu]]⟩),(1000006,⟨1,true,[[.i 0]]⟩)] [] (by rfl)
def LA(s:Q3)(v:Q7)(r:Q3×(List Q9)):Ext:=Ext.of .ret [(4,.ptr 1000004 0 0),(5,.ptr 1000005 0 0),(6,.ptr 1000006 0 0)] [(1000002,⟨20,true,[(D9 s)]⟩),(1000003,⟨6,true,[[.i v.fw,.i v.fm,.str v.fI,.i v.fM.fw,.i v.fM.fV,.str v.fM.ft]]⟩),(1000004,⟨20,true,[(D9 r.1)]⟩),(1000005,⟨1,true,[[.sl false 3 (List.map Z3.c r.2)]]⟩),(1000006,⟨1,true,[[.i 0]]⟩)] [] (by rfl)
def LX(s:Q3)(v:Q7)(r:Bool×Int):Ext:=Ext.of (.panic (cS r.1 r.2)) [(4,.ptr 1000004 0 0),(5,.ptr 1000005 0 0),(6,.ptr 1000006 0 0)] [(1000002,⟨20,true,[(D9 s)]⟩),(1000003,⟨6,true,[[.i v.fw,.i v.fm,.str v.fI,.i v.fM.fw,.i v.fM.fV,.str v.fM.ft]]⟩),(1000004,⟨20,true,[(W0 [.i 0,.i 0,.i 0] (X9 5 (.str zg) (W0 [.Qu,.i 0] (X9 5 (.str zg) (W0 [.Qu] (X9 4 (.int .i64 0) []))))))]⟩),(1000005,⟨1,true,[[.Qu]]⟩),(1000006,⟨1,true,[[.i 0]]⟩)] [] (by rfl)
theorem Qxq(s:Q3)(v:Q7):Y3 Tryz.prog GG [2,3,4,5,6,7,8] 76 (cR (cR bJ)) (qB s v) (eE s v) (Sum.elim (LA s v) (LX s v)):=by unfold Y3;kernel_rfl
def pB:Array Oper:=Oo (cL (cR bJ))
def Ng:Oper:=(pB[0]?).get (by kernel_rfl)
def jW:Oper:=(pB[1]?).get (by kernel_rfl)
theorem eSt:Tryz.f24.body=some ([cL bJ].foldr Code.seq (.seq (.region 1 #[Ng,jW] false) (cR (cR bJ)))):=by kernel_rfl
noncomputable def cSc:Code:=Tryz.f56.body.getD .skip
def NQ:Array Oper:=Oo (cL cSc)
def Qh9:Oper:=(NQ[0]?).get (by kernel_rfl)
theorem eSc:Tryz.f56.body=some (.seq (.region 0 NQ false) (cR cSc)):=by kernel_rfl
abbrev qG:=Q3×List Q9×Int
def HT(h:Q3):List V:=[.int .i64 h.fp,.int .i64 h.fk,.int .i64 h.fm,.str h.gd,.str h.fh,.str h.fZ,.str h.fG,.str h.gb,.sl false 1 (h.fL.map Z8.c),.int .i64 h.fo,.str h.fq,.str h.fj.fG,.str h.fj.fR,.str h.fj.fh,.str h.fC,.sl false 3 (h.fP.map Z3.c),.int .i64 h.fD.fB,.int .i64 h.fD.fY,.int .i64 h.fD.fO,.int .i64 h.ge]
def Fw:Q3:=⟨0,0,0,zg,zg,zg,zg,zg,[],0,zg,⟨zg,zg,zg⟩,zg,[],⟨0,0,0⟩,0⟩
def bS:List V:=[.int .i64 0,.int .i64 0,.int .i64 0,.str zg,.str zg,.str zg,.str zg,.str zg,.Qu,.int .i64 0,.str zg,.str zg,.str zg,.str zg,.str zg,.Qu,.int .i64 0,.int .i64 0,.int .i64 0,.int .i64 0]
def Ae(s:Q3)(v:Q7)(row:List V)(l:V)(e:Int):List (Nat×Qd):=[(1000002,⟨20,true,[HT s]⟩),(1000003,⟨6,true,[Up v]⟩),(1000004,⟨20,true,[row]⟩),(1000005,⟨1,true,[[l]]⟩),(1000006,⟨1,true,[[.int .i64 e]]⟩)]
def Nr(s:Q3)(v:Q7)(r:qG):List (Nat×Qd):=Ae s v (HT r.1) (.sl false 3 (r.2.1.map Z3.c)) r.2.2
def Nn(s:Q3)(v:Q7)(e:Int):List (Nat×Qd):=Ae s v bS .Qu e
def JD:List V:=[.ptr 1000004 0 0,.ptr 1000005 0 0,.ptr 1000006 0 0]
def Qh8:List (Nat×V):=[(0,.ptr 1000004 0 0),(1,.ptr 1000005 0 0),(2,.ptr 1000006 0 0)]
def Tb(rv:Value)(h:Wn rv=true)(bs:List (Nat×Qd)):Ext:=Ext.of .normal (Qh8++[(6,.Zu rv)]) bs [] (by simp)
def Nj(b:Bool)(e:Int)(bs:List (Nat×Qd)):Ext:=Ext.of .normal (Qh8++[(3,.ptr 3 0 0),(4,.bool b)]) ((3,⟨1,true,[[.i e]]⟩) :: bs) [] (by simp)
def Tc(bs:List (Nat×Qd)):Ext:=Ext.of .normal [] bs [] (by simp)
theorem asS(e:Int)(w:World):∃v,(Instr.typeAssert (Hz e) 20 124 true).run Tryz.prog w=.ok (.tuple #[v,.bool true]) w/\∀γ bs u,Qz γ w bs u (.agg [.int .i64 e]) v:=⟨.agg #[.int .i64 e],by kernel_rfl,λ_ _ _=>.agg [.int .i64 e] [.int .i64 e] rfl λi c x hc hx=>by
 match i,hc,hx with
 | 0,hc,hx=>simp at hc hx;subst hc;subst hx;exact .data (.int _ _)
 | n+1,hc,hx=>simp at hc⟩
theorem asZ(w:World):∃v,(Instr.typeAssert .nilIface 20 124 true).run Tryz.prog w=.ok (.tuple #[v,.bool false]) w/\∀γ bs u,Qz γ w bs u (.agg [.int .i64 0]) v:=⟨.agg #[.int .i64 0],by kernel_rfl,λ_ _ _=>.agg [.int .i64 0] [.int .i64 0] rfl λi c x hc hx=>by
 match i,hc,hx with
 | 0,hc,hx=>simp at hc hx;subst hc;subst hx;exact .data (.int _ _)
 | n+1,hc,hx=>simp at hc⟩
def Qap:TT Unit:=.Qq 2 (Qh.asserted (.tmp 6) 20 124 7 .nilIface false (.agg [.int .i64 0]) (.agg [.int .i64 0]) λw=>by
 simp_all [asZ]) λ_=>.done ()
def Qar(e:Int):TT Unit:=.Qq 2 (Qh.asserted (.tmp 6) 20 124 7 (Hz e) true (.agg [.int .i64 e]) (.agg [.int .i64 0]) λw=>by
 simp_all [asS]) λ_=>.done ()
theorem Qxj(s:Q3)(v:Q7)(r:qG):K5 Tryz.prog GG [0,1,2,3,4] 14 0 (C9 NQ 6) 8 (Tb .nilIface rfl (Nr s v r)) Qap (λ_=>Nj false 0 (Nr s v r)):=by unfold K5;kernel_rfl
theorem Qxy(s:Q3)(v:Q7)(e:Int):K5 Tryz.prog GG [0,1,2,3,4] 14 0 (C9 NQ 6) 8 (Tb (Hz e) rfl (Nn s v 0)) (Qar e) (λ_=>Nj true e (Nn s v 0)):=by unfold K5;kernel_rfl
def Qwb:TT Unit:=.ff (.done ())
def Qws:TT Unit:=.tt (.done ())
theorem Qwm(s:Q3)(v:Q7)(r:qG):Y3 Tryz.prog GG [0,1,2,3,4,10] 14 (cR cSc) (Nj false 0 (Nr s v r)) Qwb (λ_=>Tc (Nr s v r)):=by unfold Y3;kernel_rfl
theorem Qwk(s:Q3)(v:Q7)(e:Int):Y3 Tryz.prog GG [0,1,2,3,4,10] 14 (cR cSc) (Nj true e (Nn s v 0)) Qws (λ_=>Tc (Nn s v e)):=by unfold Y3;kernel_rfl
theorem jE(s:Q3)(v:Q7)(row:List V)(l:V)(e:Int):∀b k,Qm (Ae s v row l e) b=some k->X8 b=true:=λb k h=>by
 obtain⟨q,h1,rfl,_⟩:=Ys h;simp only[Ae,zY,wj,or_false] at h1;rcases h1 with rfl|rfl|rfl|rfl|rfl
 ·grind [X8]
 ·grind [X8]
 ·grind [X8]
 ·grind [X8]
 grind [X8]
theorem stD{u u':FrameMode}{rv:Value}{b:Bool}{e:Int}{bs bs':List (Nat×Qd)}{g g2:TT Unit}(hi:Wn rv=true)(hr:WE u rv u')(k:K5 Tryz.prog GG [0,1,2,3,4] 14 0 (C9 NQ 6) 8 (Tb rv hi bs) g (λ_=>Nj b e bs))(hg:g.run=some ())
  (k2:Y3 Tryz.prog GG [0,1,2,3,4,10] 14 (cR cSc) (Nj b e bs) g2 (λ_=>Tc bs')) (hg2:g2.run=some ()) (hok:(Nj b e bs).ok=true) (hok2:(Tc bs').ok=true)
  (h0:QU GG ((U3 14 JD (Qm bs)).put (some 6) (.Zu rv)) ((Tb rv hi bs).D 14).st) :
  WA Tryz.prog GG 56 JD (Qm bs) u .returned u' (Qm bs'):=by
 refine DT (n:=14) (l:=List.range' 1 7) (t1:=6) (rv:=rv) (S1:=((Nj b e bs).D 14).st) (ex:=λe=>e=.normal) Tryz.func56 eSc (by kernel_rfl) (o0:=Qh9) (by kernel_rfl) (by kernel_rfl) (by kernel_rfl) (by kernel_rfl) (by kernel_rfl) (by decide) hi hr (by kernel_rfl) (U8.ghost h0 ?_) ?_ (by grind)
 ·exact K5.uF (o0:=Qh9) (by kernel_rfl) (by kernel_rfl) (by kernel_rfl) k Z1 hg hok
 ·exact(k2.tv Z1 hg2 hok2).mono λe s hq=>⟨hq.1,_,hq.2,λb k hk=>by
   have e0:(Tc bs').bs=bs':=wS bs';show Qm (Tc bs').bs b=some k;grind⟩
theorem Qh4(s:Q3)(v:Q7)(r:qG):WA Tryz.prog GG 56 JD (Qm (Nr s v r)) .returning .returned .returning (Qm (Nr s v r)):=
 stD rfl (.inl ⟨rfl,rfl,rfl⟩) (Qxj s v r) rfl (Qwm s v r) rfl (by rfl) (by rfl) (W6 (Tb .nilIface rfl (Nr s v r)) (by rfl) rfl ⟨by rfl,by rfl⟩)
def stU(b:Bool)(e:Int):FrameMode:=.panicking ({ v:=Hz e,recovered:=true } :: bif b then [{ v:=Hz e,recovered:=true }] else [])
theorem Qh5(s:Q3)(v:Q7)(b:Bool)(e:Int):WA Tryz.prog GG 56 JD (Qm (Nn s v 0)) (.panicking (cS b e)) .returned (stU b e) (Qm (Nn s v e)):=
 stD rfl (.inr (by cases b<;>exact⟨Hz e,_,rfl,rfl,rfl⟩)) (Qxy s v e) rfl (Qwk s v e) rfl (by rfl) (by rfl) (W6 (Tb (Hz e) rfl (Nn s v 0)) (by rfl) rfl ⟨by rfl,by rfl⟩)
def XP(s:Q3)(v:Q7):Ext:=Ext.of .normal [(2,.ptr 1000002 0 0),(3,.ptr 1000003 0 0),(4,.ptr 1000004 0 0),(5,.ptr 1000005 0 0),(6,.ptr 1000006 0 0)] (Nn s v 0) [] (by rfl)
def PJ(s:Q3)(v:Q7)(r:qG):Ext:=Ext.of .normal [(4,.ptr 4 0 0),(5,.ptr 5 0 0),(6,.ptr 6 0 0)] [(2,⟨20,true,[HT s]⟩),(3,⟨6,true,[Up v]⟩),(4,⟨20,true,[HT r.1]⟩),(5,⟨1,true,[[.sl false 3 (r.2.1.map Z3.c)]]⟩),(6,⟨1,true,[[.i r.2.2]]⟩)] [] (by rfl)
def Ts(s:Q3)(v:Q7)(r:qG):Ext:=Ext.of .normal [(4,.ptr 1000004 0 0),(5,.ptr 1000005 0 0),(6,.ptr 1000006 0 0)] (Nr s v r) [] (by rfl)
def stV(r:qG):V:=.Qc [.agg (HT r.1),.sl false 3 (r.2.1.map Z3.c),.int .i64 r.2.2]
theorem Qh0{x:Ext}(h:x.us=[1000002,1000003,1000004,1000005,1000006]):(x.D 76).st.u=Qw:=funext λb=>by
 show (x.us.contains b || Qw b)=Qw b;rw[h];by_cases h1:b=1000002
 ·subst h1;rfl
 ·by_cases h2:b=1000003
  ·subst h2;rfl
  ·by_cases h3:b=1000004
   ·subst h3;rfl
   ·by_cases h4:b=1000005
    ·subst h4;rfl
    ·by_cases h5:b=1000006
     ·subst h5;rfl
     grind
theorem jK(s:Q3)(v:Q7){q:_⊕(Bool×Int)}{x:Ext}{u u':FrameMode}{row1 row2:List V}{l1 l2:V}{e1 e2:Int}{r:qG}(hx:Sum.elim (LA s v) (LX s v) q=x)(h2:(eE s v).run=some q)(hok:x.ok=true)(hl:Go.EV.Left u x.ex)(hbs:(x.D 76).st.b=Qm (Ae s v row1 l1 e1))(hus:x.us=[1000002,1000003,1000004,1000005,1000006])
  (hD:WA Tryz.prog GG 56 JD (Qm (Ae s v row1 l1 e1)) u .returned u' (Qm (Ae s v row2 l2 e2))) (hM:settle u'=.returning)
  (hU:QU GG ⟨76,(x.D 76).st.t,Qm (Ae s v row2 l2 e2),λ_=>true⟩ ((Ts s v r).D 76).st) :
  QR Tryz.prog GG 24 [.agg (HT s),.agg (Up v)] (Qm []) (stV r) (Qm []):=by
 subst hx;have e0:U3 76 [.agg (HT s),.agg (Up v)] (Qm [])=((qC s v).D 76).st:=(B9 (x:=qC s v) (by rfl) (by rfl) 76).symm;have t0:=(Qxz s v).tv Z1 (r:=()) rfl (by rfl);have t2:=(Qxq s v).tv Z1 h2 hok;have hsh:QU GG ((Nq s v ()).D 76).st.shift ((XP s v).D 76).st:=by
  have eT:((Nq s v ()).ts.map λp=>(p.1,W3 sh p.2))=(XP s v).ts:=by kernel_rfl
  have eB:((Nq s v ()).bs.map λp=>(sh p.1,p.2.Qb sh))=(XP s v).bs:=by kernel_rfl
  rw[Ur,eT,eB];exact W6 (XP s v) (by rfl) rfl ⟨by rfl,by rfl⟩
 have hU':QU GG ⟨76,((Sum.elim (LA s v) (LX s v) q).D 76).st.t,Qm (Ae s v row2 l2 e2),λ_=>true⟩ ((PJ s v r).D 76).st.shift:=by
  have eT:((PJ s v r).ts.map λp=>(p.1,W3 sh p.2))=(Ts s v r).ts:=by kernel_rfl
  have eB:((PJ s v r).bs.map λp=>(sh p.1,p.2.Qb sh))=(Ts s v r).bs:=by kernel_rfl
  rw[Ur,eT,eB,<-iM (x:=Ts s v r) _ (by rfl)];exact hU
 have st5:C1 Tryz.prog GG #[Ng,jW] 0 ((XP s v).D 76).st (((XP s v).D 76).st.put (some 8) (.fn 56 [] JD)):=ZZ (by rfl);have g0:E4 #[Ng,jW] ((XP s v).D 76).st Ng=some true:=by rfl
 have h0:I9 Tryz.prog GG Ng ((XP s v).D 76).st (((XP s v).D 76).st.put (some 8) (.fn 56 [] JD)):=by
  unfold C1 at st5;simp only[show (#[Ng,jW]:Array Oper)[0]?=some Ng from rfl] at st5;rcases st5 with⟨_,h⟩|⟨h,_⟩
  ·exact h
  ·rw[g0] at h;simp at h
 have gB:QU GG (((XP s v).D 76).st.put (some 8) (.fn 56 [] JD)) ((qB s v).D 76).st:=W6 (qB s v) (by rfl) rfl ⟨by rfl,by rfl⟩;refine DC (As:=[cL bJ]) (rest:=cR (cR bJ)) (rid:=1) (t:=8) (n:=76) (o0:=Ng) (o1:=jW) (caps:=JD) (insD:=Qm (Ae s v row1 l1 e1)) (outsD:=Qm (Ae s v row2 l2 e2)) (S0:=((Nq s v ()).D 76).st) (S1:=((XP s v).D 76).st) (S2:=((Sum.elim (LA s v) (LX s v) q).D 76).st) (Sx:=((PJ s v r).D 76).st) (u:=u) (u':=u') (M:=.returning)
  Tryz.func24 eSt (by kernel_rfl) ?_ hsh h0 g0 (by kernel_rfl) (by kernel_rfl) (by rfl) (TV.ghost gB t2) hl (λc hc=>?_) (show 8 < 76 by decide) ⟨hbs,Qh0 hus⟩ (by grind [jE]) Tryz.func56 (by kernel_rfl) (by kernel_rfl) hD (λ_=>hM) (λ_ h=>by cases h) hU' (Yu (ts:=(PJ s v r).ts) (bs:=(PJ s v r).bs) (us:=(PJ s v r).us) (by rfl) (by rfl)) rfl (by grind [Qm]) (.inl ⟨rfl,rfl,by kernel_rfl,λγ w v h=>Qz.IW (γ:=γ) (γ':=γ) (by grind) h (by rfl)⟩)
 ·rw[e0];show TV _ _ (cL bJ) _ _;exact t0
 ·simp only[JD,zY,wj,or_false] at hc;rcases hc with rfl|rfl|rfl
  ·exact⟨1000004,_,rfl,by decide,rfl⟩
  ·exact⟨1000005,_,rfl,by decide,rfl⟩
  ·exact⟨1000006,_,rfl,by decide,rfl⟩
def jM(r:Q3×List Q9):qG:=(r.1,r.2,0)
def stM(s:Q3)(v:Q7):Option qG:=match (eE s v).run with
 | some (.inl r)=>some (jM r)
 | some (.inr r)=>some (Fw,[],r.2)
 | none=>none
theorem Qh3(s:Q3)(v:Q7){r:qG}(h:stM s v=some r):QR Tryz.prog GG 24 [.agg (HT s),.agg (Up v)] (Qm []) (stV r) (Qm []):=by
 unfold stM at h;split at h
 ·rename_i q hq;obtain rfl:=wu h;exact jK s v (u:=.returning) (u':=.returning) (row1:=HT (jM q).1) (row2:=HT (jM q).1) (l1:=.sl false 3 ((jM q).2.1.map Z3.c)) (l2:=.sl false 3 ((jM q).2.1.map Z3.c)) (e1:=(jM q).2.2) (e2:=(jM q).2.2) (r:=jM q) rfl hq (by rfl) (.inl ⟨rfl,rfl⟩) rfl rfl (Qh4 s v (jM q)) rfl (W6 (Ts s v (jM q)) (by rfl) rfl ⟨by rfl,by rfl⟩)
 ·rename_i q hq;obtain rfl:=wu h;exact jK s v (u:=.panicking (cS q.1 q.2)) (u':=stU q.1 q.2) (row1:=bS) (row2:=bS) (l1:=.Qu) (l2:=.Qu) (e1:=0) (e2:=q.2) (r:=(Fw,[],q.2)) rfl hq (by rfl) (.inr (.inr ⟨_,rfl,rfl⟩)) rfl rfl (Qh5 s v q.1 q.2) (by cases q.1<;>rfl) (W6 (Ts s v (Fw,[],q.2)) (by rfl) rfl ⟨by rfl,by rfl⟩)
 ·cases h
def jG(p0:Q3)(p1:Q7):Sp qG:=⟨24,[.agg (HT p0),.agg (Up p1)],[],stM p0 p1,stV,λ_=>[],[],λ_ _ h=>by simp at h,λ_ h=>Qh3 p0 p1 h⟩
def Q8:Ty Bool:=⟨λx=>[.bool x],λx=>[.bool x],λ_=>rfl,λ_=>rfl,λ_ _=>rfl,λ_=>rfl⟩
def zu(a b c:Nat)(f:zl):=Qh.DF (P:=Tryz.prog) (G:=GG) 289 (.tmp a) b c ⟨1,true,(List.map Q8.c (vec f))⟩ (.agg (K6 f))
def zw(a b c:Nat)(f g:zl):=Qh.Mz (P:=Tryz.prog) (G:=GG) (ty:=Q8) 289 (.tmp a) (.tmp b) c ⟨1,true,(List.map Q8.c (vec f))⟩ (.agg (K6 g)) (vec g)
def zx(a:Nat):=Qh.MZ (P:=Tryz.prog) (G:=GG) (ty:=Q8) 289 a (vec (λ_=>false))
def zF(a b c d:Nat)(f:zl)(i:Int):=Qh.Yi (P:=Tryz.prog) (G:=GG) (e:=4) 289 (.tmp a) (.tmp b) c d ⟨1,true,(List.map Q8.c (vec f))⟩ 0 .i64 i 32
def Qkj(p0:Int):TT ((Nat->Bool)):=.Qq 1 (zx 2) λ_=>.Qq 1001 (zx 3) λ_=>.bind 1 (.lp (λ(l688:(Nat->Bool)×Int×Int)=>Ext.of .normal [(0,.i l688.2.1),(2,.ptr 2 0 0),(3,.ptr 3 0 0),(4,.i l688.2.2)] [] [BT.of 2 Q8 1 (vec (λ_=>false)) true,BT.of 3 Q8 1 (vec l688.1) true] (by rfl)) (λl688=>.br 0 (decide ((0:Int)<=l688.2.2)) (.Qq 5005 (zF 3 9 13 3 l688.1 l688.2.2) λ_=>.row 5006 Q8 (vec l688.1) (0+l688.2.2.toNat) true λx689=>.re 5006 (Ji.Sv 3 Q8 l688.1 (0+l688.2.2.toNat) ((Int.tmod l688.2.1 2)==1)) (.done (.inl ((Nd l688.1 (0+l688.2.2.toNat) ((Int.tmod l688.2.1 2)==1)),(Q0 (Int.tdiv l688.2.1 2)),(Q0 (l688.2.2 - 1)))))) (.done (.inr l688.1))) ((λ_=>false),p0,31)) (λ(e690:(Nat->Bool))=>Ext.of (.exit 0) [(2,.ptr 2 0 0),(3,.ptr 3 0 0)] [] [BT.of 2 Q8 1 (vec (λ_=>false)) true,BT.of 3 Q8 1 (vec e690) true] (by rfl)) (λe690=>.Qq 7001 (zu 3 16 3 e690) λ_=>.Qq 7002 (zw 2 16 2 (λ_=>false) e690) λ_=>.done e690)
def Oe(p0:Int):Sp ((Nat->Bool)):=oF [0,2,3,4,6] Tryz.func230 [.i p0] (Qkj p0) (λr=>.agg (K6 r))
def zy(a b:Nat)(f:zl):=Qh.Dv (P:=Tryz.prog) (G:=GG) (ty:=Q8) 289 (.tmp a) b (vec f)
def Qky(p0:zl):TT (Int):=.Qq 1 (zy 0 1 p0) λ_=>.bind 1 (.lp (λ(l693:Int×Int)=>Ext.of .normal [(1,.ptr 1 0 0),(2,.i 0),(3,.i l693.1),(4,.i l693.2)] [] [BT.of 1 Q8 1 (vec p0) true] (by rfl)) (λl693=>.br 0 (decide (l693.2 < 32)) (.Qq 6002 (zF 1 11 12 1 p0 l693.2) λ_=>.row 6003 Q8 (vec p0) (0+l693.2.toNat) true λx694=>.br 0 x694 (.done (.inl ((Q0 ((Q0 ((2:Int) * l693.1))+1)),(Q0 (l693.2+1))))) (.done (.inl ((Q0 ((2:Int) * l693.1)),(Q0 (l693.2+1)))))) (.done (.inr l693.1))) (0,0)) (λ(e695:Int)=>Ext.l (.exit 0) [(2,.i 0),(3,.i e695)] []) (λe695=>.done e695)
def NJ(p0:zl):Sp (Int):=oF [0,1,2,3,4,6,13] Tryz.func232 [.agg (K6 p0)] (Qky p0) (λr=>.int .i64 r)
def Qkq(p0:zl)(p1:Int):TT ((Nat->Bool)):=.Qq 1 (zy 0 2 p0) λ_=>.Qq 2 (zx 4) λ_=>.Qq 1001 (zx 5) λ_=>.bind 1 (.lp (λ(l699:(Nat->Bool)×Int)=>Ext.of .normal [(1,.i p1),(2,.ptr 2 0 0),(4,.ptr 4 0 0),(5,.ptr 5 0 0),(6,.i l699.2)] [] [BT.of 2 Q8 1 (vec p0) true,BT.of 4 Q8 1 (vec (λ_=>false)) true,BT.of 5 Q8 1 (vec l699.1) true] (by rfl)) (λl699=>.br 0 (decide (l699.2 < 32)) (.Qq 5006 (zF 2 15 16 2 p0 l699.2) λ_=>.row 5007 Q8 (vec p0) (0+l699.2.toNat) true λx700=>.Qq 5008 (Qh.Yi (e:=4) 289 (.tmp 5) (.tmp 14) 18 5 ⟨1,true,(List.map Q8.c (vec l699.1))⟩ 0 .i64 (Int.tmod (Q0 (l699.2+p1)) 32) 32) λ_=>.row 5009 Q8 (vec l699.1) (0+(Int.tmod (Q0 (l699.2+p1)) 32).toNat) true λx701=>.re 5009 (Ji.Sv 5 Q8 l699.1 (0+(Int.tmod (Q0 (l699.2+p1)) 32).toNat) x700) (.done (.inl ((Nd l699.1 (0+(Int.tmod (Q0 (l699.2+p1)) 32).toNat) x700),(Q0 (l699.2+1)))))) (.done (.inr l699.1))) ((λ_=>false),0)) (λ(e702:(Nat->Bool))=>Ext.of (.exit 0) [(4,.ptr 4 0 0),(5,.ptr 5 0 0)] [] [BT.of 4 Q8 1 (vec (λ_=>false)) true,BT.of 5 Q8 1 (vec e702) true] (by rfl)) (λe702=>.Qq 6001 (zu 5 19 5 e702) λ_=>.Qq 6002 (zw 4 19 4 (λ_=>false) e702) λ_=>.done e702)
def Xh(p0:zl)(p1:Int):Sp ((Nat->Bool)):=oF [0,1,2,4,5,6,8] Tryz.func234 [.agg (K6 p0),.i p1] (Qkq p0 p1) (λr=>.agg (K6 r))
def Qk9(p0:zl)(p1:Int):TT ((Nat->Bool)):=.Qq 1 (zy 0 2 p0) λ_=>.Qq 2 (zx 4) λ_=>.Qq 1001 (zx 5) λ_=>.bind 1 (.lp (λ(l706:(Nat->Bool)×Int)=>Ext.of .normal [(1,.i p1),(2,.ptr 2 0 0),(4,.ptr 4 0 0),(5,.ptr 5 0 0),(6,.i l706.2)] [] [BT.of 2 Q8 1 (vec p0) true,BT.of 4 Q8 1 (vec (λ_=>false)) true,BT.of 5 Q8 1 (vec l706.1) true] (by rfl)) (λl706=>.br 0 (decide ((Q0 (l706.2+p1)) < 32)) (.Qq 5005 (zF 2 16 17 2 p0 l706.2) λ_=>.row 5006 Q8 (vec p0) (0+l706.2.toNat) true λx707=>.Qq 5007 (Qh.Yi (e:=4) 289 (.tmp 5) (.tmp 15) 19 5 ⟨1,true,(List.map Q8.c (vec l706.1))⟩ 0 .i64 (Q0 (l706.2+p1)) 32) λ_=>.row 5008 Q8 (vec l706.1) (0+(Q0 (l706.2+p1)).toNat) true λx708=>.re 5008 (Ji.Sv 5 Q8 l706.1 (0+(Q0 (l706.2+p1)).toNat) x707) (.done (.inl ((Nd l706.1 (0+(Q0 (l706.2+p1)).toNat) x707),(Q0 (l706.2+1)))))) (.done (.inr l706.1))) ((λ_=>false),0)) (λ(e709:(Nat->Bool))=>Ext.of (.exit 0) [(4,.ptr 4 0 0),(5,.ptr 5 0 0)] [] [BT.of 4 Q8 1 (vec (λ_=>false)) true,BT.of 5 Q8 1 (vec e709) true] (by rfl)) (λe709=>.Qq 6001 (zu 5 20 5 e709) λ_=>.Qq 6002 (zw 4 20 4 (λ_=>false) e709) λ_=>.done e709)
def oC(p0:zl)(p1:Int):Sp ((Nat->Bool)):=oF [0,1,2,4,5,6,10] Tryz.func235 [.agg (K6 p0),.i p1] (Qk9 p0 p1) (λr=>.agg (K6 r))
def Qk8(p0 p1:zl):TT ((Nat->Bool)):=.Qq 1 (zy 0 2 p0) λ_=>.Qq 2 (zy 1 3 p1) λ_=>.Qq 3 (zx 4) λ_=>.Qq 1001 (zx 5) λ_=>.bind 1 (.lp (λ(l714:(Nat->Bool)×Int)=>Ext.of .normal [(2,.ptr 2 0 0),(3,.ptr 3 0 0),(4,.ptr 4 0 0),(5,.ptr 5 0 0),(6,.i l714.2)] [] [BT.of 2 Q8 1 (vec p0) true,BT.of 3 Q8 1 (vec p1) true,BT.of 4 Q8 1 (vec (λ_=>false)) true,BT.of 5 Q8 1 (vec l714.1) true] (by rfl)) (λl714=>.br 0 (decide (l714.2 < 32)) (.Qq 5003 (zF 2 12 13 2 p0 l714.2) λ_=>.row 5004 Q8 (vec p0) (0+l714.2.toNat) true λx715=>.Qq 5006 (zF 3 15 16 3 p1 l714.2) λ_=>.row 5007 Q8 (vec p1) (0+l714.2.toNat) true λx716=>.Qq 5009 (zF 5 11 19 5 l714.1 l714.2) λ_=>.row 5010 Q8 (vec l714.1) (0+l714.2.toNat) true λx717=>.re 5010 (Ji.Sv 5 Q8 l714.1 (0+l714.2.toNat) (!(x715==x716))) (.done (.inl ((Nd l714.1 (0+l714.2.toNat) (!(x715==x716))),(Q0 (l714.2+1)))))) (.done (.inr l714.1))) ((λ_=>false),0)) (λ(e718:(Nat->Bool))=>Ext.of (.exit 0) [(4,.ptr 4 0 0),(5,.ptr 5 0 0)] [] [BT.of 4 Q8 1 (vec (λ_=>false)) true,BT.of 5 Q8 1 (vec e718) true] (by rfl)) (λe718=>.Qq 6001 (zu 5 20 5 e718) λ_=>.Qq 6002 (zw 4 20 4 (λ_=>false) e718) λ_=>.done e718)
def TA(p0 p1:zl):Sp ((Nat->Bool)):=oF [0,1,2,3,4,5,6,8] Tryz.func236 [.agg (K6 p0),.agg (K6 p1)] (Qk8 p0 p1) (λr=>.agg (K6 r))
def Qk7(p0 p1:zl):TT ((Nat->Bool)):=.Qq 1 (zy 0 2 p0) λ_=>.Qq 2 (zy 1 3 p1) λ_=>.Qq 3 (zx 4) λ_=>.Qq 1001 (zx 5) λ_=>.bind 1 (.lp (λ(l724:(Nat->Bool)×Int)=>Ext.of .normal [(2,.ptr 2 0 0),(3,.ptr 3 0 0),(4,.ptr 4 0 0),(5,.ptr 5 0 0),(6,.i l724.2)] [] [BT.of 2 Q8 1 (vec p0) true,BT.of 3 Q8 1 (vec p1) true,BT.of 4 Q8 1 (vec (λ_=>false)) true,BT.of 5 Q8 1 (vec l724.1) true] (by rfl)) (λl724=>.br 0 (decide (l724.2 < 32)) (.Qq 5003 (zF 2 12 13 2 p0 l724.2) λ_=>.row 5004 Q8 (vec p0) (0+l724.2.toNat) true λx725=>.br 5006 x725 (.Qq 5007 (zF 3 16 17 3 p1 l724.2) λ_=>.row 5008 Q8 (vec p1) (0+l724.2.toNat) true λx726=>.Qq 5010 (zF 5 11 20 5 l724.1 l724.2) λ_=>.row 5011 Q8 (vec l724.1) (0+l724.2.toNat) true λx727=>.re 5011 (Ji.Sv 5 Q8 l724.1 (0+l724.2.toNat) x726) (.done (.inl ((Nd l724.1 (0+l724.2.toNat) x726),(Q0 (l724.2+1)))))) (.Qq 5010 (zF 5 11 20 5 l724.1 l724.2) λ_=>.row 5011 Q8 (vec l724.1) (0+l724.2.toNat) true λx728=>.re 5011 (Ji.Sv 5 Q8 l724.1 (0+l724.2.toNat) false) (.done (.inl ((Nd l724.1 (0+l724.2.toNat) false),(Q0 (l724.2+1))))))) (.done (.inr l724.1))) ((λ_=>false),0)) (λ(e729:(Nat->Bool))=>Ext.of (.exit 0) [(4,.ptr 4 0 0),(5,.ptr 5 0 0)] [] [BT.of 4 Q8 1 (vec (λ_=>false)) true,BT.of 5 Q8 1 (vec e729) true] (by rfl)) (λe729=>.Qq 6001 (zu 5 21 5 e729) λ_=>.Qq 6002 (zw 4 21 4 (λ_=>false) e729) λ_=>.done e729)
def NY(p0 p1:zl):Sp ((Nat->Bool)):=oF [0,1,2,3,4,5,6,8] Tryz.func237 [.agg (K6 p0),.agg (K6 p1)] (Qk7 p0 p1) (λr=>.agg (K6 r))
def Qk6(p0:zl):TT ((Nat->Bool)):=.Qq 1 (zy 0 1 p0) λ_=>.Qq 2 (zx 2) λ_=>.Qq 1001 (zx 3) λ_=>.bind 1 (.lp (λ(l733:(Nat->Bool)×Int)=>Ext.of .normal [(1,.ptr 1 0 0),(2,.ptr 2 0 0),(3,.ptr 3 0 0),(4,.i l733.2)] [] [BT.of 1 Q8 1 (vec p0) true,BT.of 2 Q8 1 (vec (λ_=>false)) true,BT.of 3 Q8 1 (vec l733.1) true] (by rfl)) (λl733=>.br 0 (decide (l733.2 < 32)) (.Qq 5003 (zF 1 10 11 1 p0 l733.2) λ_=>.row 5004 Q8 (vec p0) (0+l733.2.toNat) true λx734=>.Qq 5006 (zF 3 9 14 3 l733.1 l733.2) λ_=>.row 5007 Q8 (vec l733.1) (0+l733.2.toNat) true λx735=>.re 5007 (Ji.Sv 3 Q8 l733.1 (0+l733.2.toNat) (!x734)) (.done (.inl ((Nd l733.1 (0+l733.2.toNat) (!x734)),(Q0 (l733.2+1)))))) (.done (.inr l733.1))) ((λ_=>false),0)) (λ(e736:(Nat->Bool))=>Ext.of (.exit 0) [(2,.ptr 2 0 0),(3,.ptr 3 0 0)] [] [BT.of 2 Q8 1 (vec (λ_=>false)) true,BT.of 3 Q8 1 (vec e736) true] (by rfl)) (λe736=>.Qq 6001 (zu 3 15 3 e736) λ_=>.Qq 6002 (zw 2 15 2 (λ_=>false) e736) λ_=>.done e736)
def oS(p0:zl):Sp ((Nat->Bool)):=oF [0,1,2,3,4,6] Tryz.func238 [.agg (K6 p0)] (Qk6 p0) (λr=>.agg (K6 r))
def Qkz(p0 p1 p2:zl):TT ((Nat->Bool)):=.Qq 1 (zy 0 3 p0) λ_=>.Qq 2 (zy 1 4 p1) λ_=>.Qq 3 (zy 2 5 p2) λ_=>.Qq 4 (zx 6) λ_=>.Qq 1001 (zu 3 7 3 p0) λ_=>.Qq 1002 (zu 4 8 4 p1) λ_=>.cl 1003 (TA p0 p1) λr737=>.Qq 1004 (zu 5 10 5 p2) λ_=>.cl 1005 (TA r737 p2) λr738=>.Qq 1006 (zw 6 11 6 (λ_=>false) r738) λ_=>.done r738
def Sq(p0 p1 p2:zl):Sp ((Nat->Bool)):=oF [0,1,2,3,4,5,6] Tryz.func233 [.agg (K6 p0),.agg (K6 p1),.agg (K6 p2)] (Qkz p0 p1 p2) (λr=>.agg (K6 r))
def Xw(p0 p1 p2 p3 p4:Int):Sp (Int):=oF [0,1,2,3,4,10] Tryz.func231 [.i p0,.i p1,.i p2,.i p3,.i p4] (.done (Int.tmod (Q0 ((Q0 ((Q0 ((Q0 (p0+p1))+p2))+p3))+p4)) 4294967296):TT (Int)) (λr=>.int .i64 r)
end Go.Proofs.YtjdieimefebnfaaGreatDoor
