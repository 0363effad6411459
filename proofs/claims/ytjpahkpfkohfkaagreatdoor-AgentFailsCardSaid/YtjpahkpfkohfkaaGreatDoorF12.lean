/- Guides and contracts, printed by a program. Guides and contracts, printed by a program. The checks that are due (agent.time): a range over a function ..; no conditions. -/
import Derived.Test.YtjpahkpfkohfkaaGreatDoorF11
import Derived.Test.YtjpahkpfkohfkaaGreatDoorF6
import Derived.Test.YtjpahkpfkohfkaaGreatDoorF8
import Derived.Test.YtjpahkpfkohfkaaGreatDoorF7
import Derived.KernelRfl
set_option linter.unusedVariables false
set_option linter.unusedSimpArgs false
set_option maxRecDepth 100000
noncomputable section
namespace Go.Proofs.YtjpahkpfkohfkaaGreatDoor
open Go Go.EV
structure M5 where
 fB:Y0
 gv:(List Y6)
def s51(p0:Q2)(p1:Y6):Sp (Bool):=.ofFn 51 Z0 Tryz.func51 (show FnD Pg GG [0,1,2,3] Tryz.f51 [.agg (Q0.c p0),.snap (Z8.c p1)] (.done ((decide (p0.fT.fe=p1.gc.fe))&&((p0.fT.fh==p1.gc.fh)&&true)):TT (Bool)) (fun r=>.bool r) by unfold FnD;kernel_rfl)
def s102_2(p0:List Q2)(p1:Y6):Sp (Int):=.ofFn 102 Z0 Tryz.func102 (show FnD Pg GG [0,1,4,5,7,8,9,16] Tryz.f102 [Sl 8 Q0 p0,.fn 51 [] [.snap (Z8.c p1)]] (.bind2 1 (.lp (fun(l703:Int)=>Ext.l .normal [(0,Sl 8 Q0 p0),(1,.fn 51 [] [.snap (Z8.c p1)]),(4,.i 0),(7,.i (Y9 Q0 p0)),(8,.i l703)] []) (fun l703=>.br 0 (decide (l703 < (Y9 Q0 p0))) (.row 4004 Q0 p0 l703.toNat (decide (0≤l703)) fun x704=>.call 4006 (s51 x704 p1) [] [] fun r705=>.br 0 r705 (.done (.inr (.inl l703))) (.fail)) (.fail)) 0) (fun(e706:Int)=>Ext.l .ret [(4,.i e706)] []) (fun(e707:Unit)=>Ext.l (.exit 0) [(4,.i 0)] []) (fun e706=>.done e706) (fun _=>.fail):TT (Int)) (fun r=>.int .i64 r) by unfold FnD;kernel_rfl)
def s50_1(p0:List Q2)(p1:Y6):Sp (Int):=.ofFn 50 Z0 Tryz.func50 (show FnD Pg GG [0,1,4] Tryz.f50 [Sl 8 Q0 p0,.fn 51 [] [.snap (Z8.c p1)]] (.call 1003 (s102_2 p0 p1) [] [] fun r708=>.done r708:TT (Int)) (fun r=>.int .i64 r) by unfold FnD;kernel_rfl)
def s103(p0:Y6)(p1:U7)(p2:Bool)(p3 p4 p5 p6 p7:Int)(p8 p9:List Q2)(p10:List Q6)(p11:List Int)(p12:List Bool)(p13:List Q8):Sp ((List Y6)):=.ofFnB 103 [22,ωb,ωc,ωd,ωe,ωf,ωg] Z0 Tryz.func103 rfl (fun _=>rfl) (show FnB Pg GG [0,1,2,4,5] Tryz.f103 [.ptr ωa 0 0,.agg (Z8.c p0),.agg [.i p1.fy,.i p1.fp,.i p1.ft,.bool p1.fo,.i p1.fC,.bool p1.fF,.str p1.fO.fe,.i p1.fO.fh]] (Ext.of .normal (U6 [.ptr ωa 0 0,.agg (Z8.c p0),.agg [.i p1.fy,.i p1.fp,.i p1.ft,.bool p1.fo,.i p1.fC,.bool p1.fF,.str p1.fO.fe,.i p1.fO.fh]]) [(ωa,⟨13,true,[[.bool p2,Rf ωb p8,Rf ωc p9,Rf ωd p10,.i p3,.i p4,.i p5,.i p6,.i p7,Rf ωe p11,Rf ωf p12,Rf ωg p13,.nilsl]]⟩)] [Bt ωb Q0 8 p8,Bt ωc Q0 8 p9,Bt ωd Q3 4 p10,Bt ωe Z2 1 p11,Bt ωf Z1 1 p12,Bt ωg Q5 6 p13] (by rfl)) (.app 2013 Z8 [] [(Y6.mk p0.gc p0.gb (U7.mk p1.fy p0.fj.fp p1.ft p1.fo p1.fC p1.fF p1.fO))] 120 false (by intro h;cases h) (.done ([]++[(Y6.mk p0.gc p0.gb (U7.mk p1.fy p0.fj.fp p1.ft p1.fo p1.fC p1.fF p1.fO))])):TT ((List Y6))) (fun(r:(List Y6))=>.tup []) (fun(r:(List Y6))=>Ext.of .normal [] [(ωa,⟨13,true,[[.bool p2,Rf ωb p8,Rf ωc p9,Rf ωd p10,.i p3,.i p4,.i p5,.i p6,.i p7,Rf ωe p11,Rf ωf p12,Rf ωg p13,Rf 22 r]]⟩)] [Bt 22 Z8 12 r,Bt ωb Q0 8 p8,Bt ωc Q0 8 p9,Bt ωd Q3 4 p10,Bt ωe Z2 1 p11,Bt ωf Z1 1 p12,Bt ωg Q5 6 p13] (by rfl)) by unfold FnB;kernel_rfl)
def s105(p0:Q2)(p1:Y6):Sp (Bool):=.ofFn 105 Z0 Tryz.func105 (show FnD Pg GG [0,1,2,3] Tryz.f105 [.agg (Q0.c p0),.snap (Z8.c p1)] (.done ((decide (p0.fT.fe=p1.gc.fe))&&((p0.fT.fh==p1.gc.fh)&&true)):TT (Bool)) (fun r=>.bool r) by unfold FnD;kernel_rfl)
def s102_3(p0:List Q2)(p1:Y6):Sp (Int):=.ofFn 102 Z0 Tryz.func102 (show FnD Pg GG [0,1,4,5,7,8,9,16] Tryz.f102 [Sl 8 Q0 p0,.fn 105 [] [.snap (Z8.c p1)]] (.bind2 1 (.lp (fun(l707:Int)=>Ext.l .normal [(0,Sl 8 Q0 p0),(1,.fn 105 [] [.snap (Z8.c p1)]),(4,.i 0),(7,.i (Y9 Q0 p0)),(8,.i l707)] []) (fun l707=>.br 0 (decide (l707 < (Y9 Q0 p0))) (.row 4004 Q0 p0 l707.toNat (decide (0≤l707)) fun x708=>.call 4006 (s105 x708 p1) [] [] fun r709=>.br 0 r709 (.done (.inr (.inl l707))) (.fail)) (.fail)) 0) (fun(e710:Int)=>Ext.l .ret [(4,.i e710)] []) (fun(e711:Unit)=>Ext.l (.exit 0) [(4,.i 0)] []) (fun e710=>.done e710) (fun _=>.fail):TT (Int)) (fun r=>.int .i64 r) by unfold FnD;kernel_rfl)
def s50_2(p0:List Q2)(p1:Y6):Sp (Int):=.ofFn 50 Z0 Tryz.func50 (show FnD Pg GG [0,1,4] Tryz.f50 [Sl 8 Q0 p0,.fn 105 [] [.snap (Z8.c p1)]] (.call 1003 (s102_3 p0 p1) [] [] fun r712=>.done r712:TT (Int)) (fun r=>.int .i64 r) by unfold FnD;kernel_rfl)
def s106(p0:Q2)(p1:Y6):Sp (Bool):=.ofFn 106 Z0 Tryz.func106 (show FnD Pg GG [0,1,2,3] Tryz.f106 [.agg (Q0.c p0),.snap (Z8.c p1)] (.done ((decide (p0.fG.fe=p1.gb.fe))&&((p0.fG.fh==p1.gb.fh)&&true)):TT (Bool)) (fun r=>.bool r) by unfold FnD;kernel_rfl)
def s102_4(p0:List Q2)(p1:Y6):Sp (Int):=.ofFn 102 Z0 Tryz.func102 (show FnD Pg GG [0,1,4,5,7,8,9,16] Tryz.f102 [Sl 8 Q0 p0,.fn 106 [] [.snap (Z8.c p1)]] (.bind2 1 (.lp (fun(l717:Int)=>Ext.l .normal [(0,Sl 8 Q0 p0),(1,.fn 106 [] [.snap (Z8.c p1)]),(4,.i 0),(7,.i (Y9 Q0 p0)),(8,.i l717)] []) (fun l717=>.br 0 (decide (l717 < (Y9 Q0 p0))) (.row 4004 Q0 p0 l717.toNat (decide (0≤l717)) fun x718=>.call 4006 (s106 x718 p1) [] [] fun r719=>.br 0 r719 (.done (.inr (.inl l717))) (.fail)) (.fail)) 0) (fun(e720:Int)=>Ext.l .ret [(4,.i e720)] []) (fun(e721:Unit)=>Ext.l (.exit 0) [(4,.i 0)] []) (fun e720=>.done e720) (fun _=>.fail):TT (Int)) (fun r=>.int .i64 r) by unfold FnD;kernel_rfl)
def s50_3(p0:List Q2)(p1:Y6):Sp (Int):=.ofFn 50 Z0 Tryz.func50 (show FnD Pg GG [0,1,4] Tryz.f50 [Sl 8 Q0 p0,.fn 106 [] [.snap (Z8.c p1)]] (.call 1003 (s102_4 p0 p1) [] [] fun r722=>.done r722:TT (Int)) (fun r=>.int .i64 r) by unfold FnD;kernel_rfl)
def s182(p0:Q6)(p1:M5)(p2 p3:Z7):Sp (Bool):=.ofFn 182 Z0 Tryz.func182 (show FnD Pg GG [0,1,2,3,4,5] Tryz.f182 [.agg (Q3.c p0),.snap [.snap [.bool p1.fB.fc.fo,Sl 8 Q0 p1.fB.fc.fu,Sl 8 Q0 p1.fB.fc.fw,Sl 4 Q3 p1.fB.fc.fm,.i p1.fB.fC,.i p1.fB.fP,.i p1.fB.fK,.i p1.fB.fI,.i p1.fB.fV,Sl 1 Z2 p1.fB.fN,Sl 1 Z1 p1.fB.fQ,Sl 6 Q5 p1.fB.fA,Sl 12 Z8 p1.gv]],.snap [.str p2.fe,.i p2.fh],.snap [.str p3.fe,.i p3.fh]] (.cnd 1 [5] (.row 1009 Q0 p1.fB.fc.fu p0.fH.toNat (decide (0≤p0.fH)) fun x728=>.br 1015 ((decide (x728.fT.fe=p2.fe))&&((x728.fT.fh==p2.fh)&&true)) (.row 1023 Q0 p1.fB.fc.fw p0.fJ.toNat (decide (0≤p0.fJ)) fun x729=>.done ((decide (x729.fG.fe=p3.fe))&&((x729.fG.fh==p3.fh)&&true))) (.fail)) (fun(c730:Bool)=>[.bool c730]) fun c730=>.done c730:TT (Bool)) (fun r=>.bool r) by unfold FnD;kernel_rfl)
def s98_2(p0:List Q6)(p1:M5)(p2 p3:Z7):Sp (Int):=.ofFn 98 Z0 Tryz.func98 (show FnD Pg GG [0,1,4,5,7,8,9,16] Tryz.f98 [Sl 4 Q3 p0,.fn 182 [] [.snap [.snap [.bool p1.fB.fc.fo,Sl 8 Q0 p1.fB.fc.fu,Sl 8 Q0 p1.fB.fc.fw,Sl 4 Q3 p1.fB.fc.fm,.i p1.fB.fC,.i p1.fB.fP,.i p1.fB.fK,.i p1.fB.fI,.i p1.fB.fV,Sl 1 Z2 p1.fB.fN,Sl 1 Z1 p1.fB.fQ,Sl 6 Q5 p1.fB.fA,Sl 12 Z8 p1.gv]],.snap [.str p2.fe,.i p2.fh],.snap [.str p3.fe,.i p3.fh]]] (.bind2 1 (.lp (fun(l729:Int)=>Ext.l .normal [(0,Sl 4 Q3 p0),(1,.fn 182 [] [.snap [.snap [.bool p1.fB.fc.fo,Sl 8 Q0 p1.fB.fc.fu,Sl 8 Q0 p1.fB.fc.fw,Sl 4 Q3 p1.fB.fc.fm,.i p1.fB.fC,.i p1.fB.fP,.i p1.fB.fK,.i p1.fB.fI,.i p1.fB.fV,Sl 1 Z2 p1.fB.fN,Sl 1 Z1 p1.fB.fQ,Sl 6 Q5 p1.fB.fA,Sl 12 Z8 p1.gv]],.snap [.str p2.fe,.i p2.fh],.snap [.str p3.fe,.i p3.fh]]),(4,.i 0),(7,.i (Y9 Q3 p0)),(8,.i l729)] []) (fun l729=>.br 0 (decide (l729 < (Y9 Q3 p0))) (.row 4004 Q3 p0 l729.toNat (decide (0≤l729)) fun x730=>.call 4006 (s182 x730 p1 p2 p3) [] [] fun r731=>.br 0 r731 (.done (.inr (.inl l729))) (.fail)) (.fail)) 0) (fun(e732:Int)=>Ext.l .ret [(4,.i e732)] []) (fun(e733:Unit)=>Ext.l (.exit 0) [(4,.i 0)] []) (fun e732=>.done e732) (fun _=>.fail):TT (Int)) (fun r=>.int .i64 r) by unfold FnD;kernel_rfl)
def s41_2(p0:List Q6)(p1:M5)(p2 p3:Z7):Sp (Int):=.ofFn 41 Z0 Tryz.func41 (show FnD Pg GG [0,1,4] Tryz.f41 [Sl 4 Q3 p0,.fn 182 [] [.snap [.snap [.bool p1.fB.fc.fo,Sl 8 Q0 p1.fB.fc.fu,Sl 8 Q0 p1.fB.fc.fw,Sl 4 Q3 p1.fB.fc.fm,.i p1.fB.fC,.i p1.fB.fP,.i p1.fB.fK,.i p1.fB.fI,.i p1.fB.fV,Sl 1 Z2 p1.fB.fN,Sl 1 Z1 p1.fB.fQ,Sl 6 Q5 p1.fB.fA,Sl 12 Z8 p1.gv]],.snap [.str p2.fe,.i p2.fh],.snap [.str p3.fe,.i p3.fh]]] (.call 1003 (s98_2 p0 p1 p2 p3) [] [] fun r734=>.done r734:TT (Int)) (fun r=>.int .i64 r) by unfold FnD;kernel_rfl)
def s108(p0 p1:Int)(p2:Bool)(p3 p4 p5 p6 p7:Int)(p8 p9:List Q2)(p10:List Q6)(p11:List Int)(p12:List Bool)(p13:List Q8)(p14:List Y6):Sp ((List Q6)×(List Bool)×Int):=.ofFnB 108 [ωh,ωj,ωb,ωc,ωe,ωg,ωi] Z0 Tryz.func108 rfl (fun _=>rfl) (show FnB Pg GG [0,1,2,3,6,7,8,9,10,11,12,13,14,45,83,94] Tryz.f108 [.ptr ωa 0 0,.i p0,.i p1] (Ext.of .normal (U6 [.ptr ωa 0 0,.i p0,.i p1]) [(ωa,⟨13,true,[[.bool p2,Rf ωb p8,Rf ωc p9,Rf ωd p10,.i p3,.i p4,.i p5,.i p6,.i p7,Rf ωe p11,Rf ωf p12,Rf ωg p13,Rf ωi p14]]⟩)] [Bt ωb Q0 8 p8,Bt ωc Q0 8 p9,Bt ωd Q3 4 p10,Bt ωe Z2 1 p11,Bt ωf Z1 1 p12,Bt ωg Q5 6 p13,Bt ωi Z8 12 p14] (by rfl)) (.chk 1008 (bD p0 p8.length) (.row 1010 Q0 p8 (0+p0.toNat) true fun x740=>.chk 1018 (bD p1 p9.length) (.row 1020 Q0 p9 (0+p1.toNat) true fun x741=>.view 2008 (s41_2 p10 (M5.mk (Y0.mk (Y3.mk p2 p8 p9 p10) p3 p4 p5 p6 p7 p11 p12 p13) p14) x740.fT x741.fG) [(VwW.o ωd Q3 p10),(VwW.o ωb Q0 p8),(VwW.o ωc Q0 p9),(VwW.o ωd Q3 p10),(VwW.o ωe Z2 p11),(VwW.o ωf Z1 p12),(VwW.o ωg Q5 p13),(VwW.o ωi Z8 p14)] fun r742=>.br 0 (decide ((0:Int)≤r742)) (.gh 0 (.ren ωd ωh) (.gh 0 (.ren ωf ωj) (.done (p10,p12,r742)))) (.fail))):TT ((List Q6)×(List Bool)×Int)) (fun(r:(List Q6)×(List Bool)×Int)=>.int .i64 r.2.2) (fun(r:(List Q6)×(List Bool)×Int)=>Ext.of .normal [] [(ωa,⟨13,true,[[.bool p2,Rf ωb p8,Rf ωc p9,Rf ωh r.1,.i p3,.i p4,.i p5,.i p6,.i p7,Rf ωe p11,Rf ωj r.2.1,Rf ωg p13,Rf ωi p14]]⟩)] [Bt ωh Q3 4 r.1,Bt ωj Z1 1 r.2.1,Bt ωb Q0 8 p8,Bt ωc Q0 8 p9,Bt ωe Z2 1 p11,Bt ωg Q5 6 p13,Bt ωi Z8 12 p14] (by rfl)) by unfold FnB;kernel_rfl)
def s109(p0:Int)(p1:Bool)(p2 p3 p4 p5 p6:Int)(p7 p8:List Q2)(p9:List Q6)(p10:List Int)(p11:List Bool)(p12:List Q8)(p13:List Y6):Sp ((List Int)):=.ofFnB 109 [ωh,ωb,ωc,ωd,ωf,ωg,ωi] Z0 Tryz.func109 rfl (fun _=>rfl) (show FnB Pg GG [0,1,11] Tryz.f109 [.ptr ωa 0 0,.i p0] (Ext.of .normal (U6 [.ptr ωa 0 0,.i p0]) [(ωa,⟨13,true,[[.bool p1,Rf ωb p7,Rf ωc p8,Rf ωd p9,.i p2,.i p3,.i p4,.i p5,.i p6,Rf ωe p10,Rf ωf p11,Rf ωg p12,Rf ωi p13]]⟩)] [Bt ωb Q0 8 p7,Bt ωc Q0 8 p8,Bt ωd Q3 4 p9,Bt ωe Z2 1 p10,Bt ωf Z1 1 p11,Bt ωg Q5 6 p12,Bt ωi Z8 12 p13] (by rfl)) (.view 7 (s87 p10 p0) [(VwW.o ωe Z2 p10)] fun r754=>.br 0 (!r754) (.app 1009 Z2 p10 [p0] 8 false (by intro h;cases h) (.gh 0 (.ren 20 ωh) (.done (p10++[p0])))) (.fail):TT ((List Int))) (fun(r:(List Int))=>.tup []) (fun(r:(List Int))=>Ext.of .normal [] [(ωa,⟨13,true,[[.bool p1,Rf ωb p7,Rf ωc p8,Rf ωd p9,.i p2,.i p3,.i p4,.i p5,.i p6,Rf ωh r,Rf ωf p11,Rf ωg p12,Rf ωi p13]]⟩)] [Bt ωh Z2 1 r,Bt ωb Q0 8 p7,Bt ωc Q0 8 p8,Bt ωd Q3 4 p9,Bt ωf Z1 1 p11,Bt ωg Q5 6 p12,Bt ωi Z8 12 p13] (by rfl)) by unfold FnB;kernel_rfl)
def s52(p0:Y6)(p1:Bool)(p2 p3 p4 p5 p6:Int)(p7 p8:List Q2)(p9:List Q6)(p10:List Int)(p11:List Bool)(p12:List Q8):Sp ((List Q6)×(List Int)×(List Bool)×(List Y6)×Int):=.ofFnB 52 [ωh,ωj,ωn,660003,ωb,ωc,ωg] Z0 Tryz.func52 rfl (fun _=>rfl) (show FnB Pg GG [0,1,3,4,5,6,7,8,19,34,64,72,105,125,142,162] Tryz.f52 [.ptr ωa 0 0,.agg (Z8.c p0)] (Ext.of .normal (U6 [.ptr ωa 0 0,.agg (Z8.c p0)]) [(ωa,⟨13,true,[[.bool p1,Rf ωb p7,Rf ωc p8,Rf ωd p9,.i p2,.i p3,.i p4,.i p5,.i p6,Rf ωe p10,Rf ωf p11,Rf ωg p12,.nilsl]]⟩)] [Bt ωb Q0 8 p7,Bt ωc Q0 8 p8,Bt ωd Q3 4 p9,Bt ωe Z2 1 p10,Bt ωf Z1 1 p11,Bt ωg Q5 6 p12] (by rfl)) (.br 0 (p0.fj.fo==p1) (.br 0 (p1==(decide (p0.fj.fC≤p2))) (.call 4004 (s103 (Y6.mk (Z7.mk p0.gb.fe p0.gb.fh) (Z7.mk p0.gc.fe p0.gc.fh) (U7.mk p0.fj.fy p0.fj.fp p0.fj.ft p0.fj.fo p0.fj.fC p0.fj.fF (Z7.mk p0.fj.fO.fe p0.fj.fO.fh))) (U7.mk 3 0 0 false 0 false (Z7.mk ByteArray.empty 0)) p1 p2 p3 p4 p5 p6 p7 p8 p9 p10 p11 p12) [(ωa,ωa),(ωb,ωb),(ωc,ωc),(ωd,ωd),(ωe,ωe),(ωf,ωf),(ωg,ωg)] [(22,500088)] fun r702=>.gh 0 (.ren ωd ωh) (.gh 0 (.ren ωe ωj) (.gh 0 (.ren ωf ωn) (.gh 0 (.ren 500088 660003) (.done (p9,p10,p11,r702,p6)))))) (.fail)) (.call 6006 (s103 (Y6.mk (Z7.mk p0.gb.fe p0.gb.fh) (Z7.mk p0.gc.fe p0.gc.fh) (U7.mk p0.fj.fy p0.fj.fp p0.fj.ft p0.fj.fo p0.fj.fC p0.fj.fF (Z7.mk p0.fj.fO.fe p0.fj.fO.fh))) (U7.mk 2 0 0 false 0 false (Z7.mk p0.gb.fe p0.gb.fh)) p1 p2 p3 p4 p5 p6 p7 p8 p9 p10 p11 p12) [(ωa,ωa),(ωb,ωb),(ωc,ωc),(ωd,ωd),(ωe,ωe),(ωf,ωf),(ωg,ωg)] [(22,500089)] fun r703=>.view 7008 (s50_2 p7 (Y6.mk (Z7.mk p0.gb.fe p0.gb.fh) (Z7.mk p0.gc.fe p0.gc.fh) (U7.mk p0.fj.fy p0.fj.fp p0.fj.ft p0.fj.fo p0.fj.fC p0.fj.fF (Z7.mk p0.fj.fO.fe p0.fj.fO.fh)))) [(VwW.o ωb Q0 p7)] fun r713=>.view 8008 (s50_3 p8 (Y6.mk (Z7.mk p0.gb.fe p0.gb.fh) (Z7.mk p0.gc.fe p0.gc.fh) (U7.mk p0.fj.fy p0.fj.fp p0.fj.ft p0.fj.fo p0.fj.fC p0.fj.fF (Z7.mk p0.fj.fO.fe p0.fj.fO.fh)))) [(VwW.o ωc Q0 p8)] fun r723=>.br 0 (decide (r723 < 0)) (.br 0 ((p8.length:Int)==12) (.gh 0 (.ren ωd ωh) (.gh 0 (.ren ωe ωj) (.gh 0 (.ren ωf ωn) (.gh 0 (.ren 500089 660003) (.done (p9,p10,p11,r703,p6)))))) (.fail)) (.call 13004 (s108 r713 r723 p1 p2 p3 p4 p5 p6 p7 p8 p9 p10 p11 p12 r703) [(ωa,ωa),(ωb,ωb),(ωc,ωc),(ωd,ωd),(ωe,ωe),(ωf,ωf),(ωg,ωg),(ωi,500089)] [(ωh,500090),(ωj,500091)] fun r748=>.br 0 (decide (r748.2.2 < 0)) (.gh 0 (.ren 500090 ωh) (.gh 0 (.ren ωe ωj) (.gh 0 (.ren 500091 ωn) (.gh 0 (.ren 500089 660003) (.done (r748.1,p10,r748.2.1,r703,p6)))))) (.chk 15008 (bD r748.2.2 r748.1.length) (.cnd 16 [125] (.row 16004 Q3 r748.1 (0+r748.2.2.toNat) true fun x749=>.br 16007 (x749.fD != 2) (.row 16010 Q3 r748.1 (0+r748.2.2.toNat) true fun x750=>.done (x750.fD != 3)) (.done false)) (fun(c751:Bool)=>[.bool c751]) fun c751=>.bind 0 (.br 0 c751 (.row 17004 Q3 r748.1 (0+r748.2.2.toNat) true fun x752=>.re 17004 (ReW.put 500090 4 Q3 r748.1 (0+r748.2.2.toNat) (Q6.mk x752.fH x752.fJ x752.ft 1)) (.gh 20 (.len 500090 ((r748.1.set (0+r748.2.2.toNat) (Q6.mk x752.fH x752.fJ x752.ft 1)).length) [r748.1.length] (by simp)) (.call 18003 (s109 r748.2.2 p1 p2 p3 p4 p5 p6 p7 p8 (r748.1.set (0+r748.2.2.toNat) (Q6.mk x752.fH x752.fJ x752.ft 1)) p10 r748.2.1 p12 r703) [(ωa,ωa),(ωb,ωb),(ωc,ωc),(ωd,500090),(ωe,ωe),(ωf,500091),(ωg,ωg),(ωi,500089)] [(ωh,500092)] fun r755=>.gh 0 (.ren 500092 600093) (.done ((r748.1.set (0+r748.2.2.toNat) (Q6.mk x752.fH x752.fJ x752.ft 1)),r755))))) (.gh 0 (.ren ωe 600093) (.done (r748.1,p10)))) (fun(e756:(List Q6)×(List Int))=>Ext.of .normal [(0,.ptr ωa 0 0),(4,.ptr 4 0 0),(7,.i r748.2.2),(8,.ptr 500090 (0+r748.2.2.toNat) 0)] [(4,⟨8,true,[[.i p0.fj.fy,.i p0.fj.fp,.i p0.fj.ft,.bool p0.fj.fo,.i p0.fj.fC,.bool p0.fj.fF,.str p0.fj.fO.fe,.i p0.fj.fO.fh]]⟩),(ωa,⟨13,true,[[.bool p1,Rf ωb p7,Rf ωc p8,Rf 500090 e756.1,.i p2,.i p3,.i p4,.i p5,.i p6,Rf 600093 e756.2,Rf 500091 r748.2.1,Rf ωg p12,Rf 500089 r703]]⟩)] [Bt 500089 Z8 12 r703,Bt 500090 Q3 4 e756.1,Bt 500091 Z1 1 r748.2.1,Bt 600093 Z2 1 e756.2,Bt ωb Q0 8 p7,Bt ωc Q0 8 p8,Bt ωg Q5 6 p12] (by rfl)) (fun e756=>.cnd 19 [142] (.br 19004 p0.fj.fF (.done (!p1)) (.done false)) (fun(c757:Bool)=>[.bool c757]) fun c757=>.br 0 c757 (.chk 20007 (bD r748.2.2 r748.2.1.length) (.row 20008 Z1 r748.2.1 (0+r748.2.2.toNat) true fun x758=>.re 20008 (ReW.put 500091 1 Z1 r748.2.1 (0+r748.2.2.toNat) true) (.gh 23 (.len 500091 ((r748.2.1.set (0+r748.2.2.toNat) true).length) [r748.2.1.length] (by simp)) (.cnd 21 [162] (.row 21004 Q3 e756.1 (0+r748.2.2.toNat) true fun x759=>.br 21007 (x759.fD==3) (.done (decide (p6 < 0))) (.done false)) (fun(c760:Bool)=>[.bool c760]) fun c760=>.br 0 c760 (.gh 0 (.ren 500090 ωh) (.gh 0 (.ren 600093 ωj) (.gh 0 (.ren 500091 ωn) (.gh 0 (.ren 500089 660003) (.done (e756.1,e756.2,(r748.2.1.set (0+r748.2.2.toNat) true),r703,r748.2.2)))))) (.gh 0 (.ren 500090 ωh) (.gh 0 (.ren 600093 ωj) (.gh 0 (.ren 500091 ωn) (.gh 0 (.ren 500089 660003) (.done (e756.1,e756.2,(r748.2.1.set (0+r748.2.2.toNat) true),r703,p6)))))))))) (.gh 0 (.ren 500090 ωh) (.gh 0 (.ren 600093 ωj) (.gh 0 (.ren 500091 ωn) (.gh 0 (.ren 500089 660003) (.done (e756.1,e756.2,r748.2.1,r703,p6))))))))))):TT ((List Q6)×(List Int)×(List Bool)×(List Y6)×Int)) (fun(r:(List Q6)×(List Int)×(List Bool)×(List Y6)×Int)=>.tup []) (fun(r:(List Q6)×(List Int)×(List Bool)×(List Y6)×Int)=>Ext.of .normal [] [(ωa,⟨13,true,[[.bool p1,Rf ωb p7,Rf ωc p8,Rf ωh r.1,.i p2,.i p3,.i p4,.i p5,.i r.q,Rf ωj r.2.1,Rf ωn r.2.2.1,Rf ωg p12,Rf 660003 r.2.2.2.1]]⟩)] [Bt ωh Q3 4 r.1,Bt ωj Z2 1 r.2.1,Bt ωn Z1 1 r.2.2.1,Bt 660003 Z8 12 r.2.2.2.1,Bt ωb Q0 8 p7,Bt ωc Q0 8 p8,Bt ωg Q5 6 p12] (by rfl)) by unfold FnB;kernel_rfl)
def g186(p0:List Bool)(p1:Bool):TT (Int):=.bind2 1 (.lp (fun(l764:Int)=>Ext.l .normal [(0,Sl 1 Z1 p0),(1,.bool p1),(4,.i 0),(7,.i (Y9 Z1 p0)),(8,.i l764)] []) (fun l764=>.br 0 (decide (l764 < (Y9 Z1 p0))) (.row 4004 Z1 p0 l764.toNat (decide (0≤l764)) fun x765=>.br 0 (p1==x765) (.done (.inr (.inl l764))) (.done (.inl (Q4 (l764+1))))) (.done (.inr (.inr ())))) 0) (fun(e766:Int)=>Ext.l .ret [(4,.i e766)] []) (fun(e767:Unit)=>Ext.l (.exit 0) [(4,.i 0)] []) (fun e766=>.done e766) (fun e767=>.done (-1))
def s186(p0:List Bool)(p1:Bool):Sp (Int):=.ofFn 186 Z0 Tryz.func186 (show FnD Pg GG [0,1,4,5,7,8,9,16] Tryz.f186 [Sl 1 Z1 p0,.bool p1] (g186 p0 p1) (fun r=>.int .i64 r) by unfold FnD;kernel_rfl)
def g114(p0:List Bool)(p1:Bool):TT (Bool):=.call 1003 (s186 p0 p1) [] [] fun r768=>.done (decide ((0:Int)≤r768))
def s114(p0:List Bool)(p1:Bool):Sp (Bool):=.ofFn 114 Z0 Tryz.func114 (show FnD Pg GG [0,1,4] Tryz.f114 [Sl 1 Z1 p0,.bool p1] (g114 p0 p1) (fun r=>.bool r) by unfold FnD;kernel_rfl)
def s55(p0:Bool)(p1 p2 p3 p4 p5:Int)(p6 p7:List Q2)(p8:List Q6)(p9:List Int)(p10:List Bool)(p11:List Q8)(p12:List Y6):Sp ((List Int)×(List Bool)):=.ofFnB 55 [ωh,ωb,ωc,ωd,ωf,ωg,ωi] Z0 Tryz.func55 rfl (fun _=>rfl) (show FnB Pg GG [0,1,2,3,4,27,33,34,35,36,61,76] Tryz.f55 [.ptr ωa 0 0] (Ext.of .normal (U6 [.ptr ωa 0 0]) [(ωa,⟨13,true,[[.bool p0,Rf ωb p6,Rf ωc p7,Rf ωd p8,.i p1,.i p2,.i p3,.i p4,.i p5,Rf ωe p9,Rf ωf p10,Rf ωg p11,Rf ωi p12]]⟩)] [Bt ωb Q0 8 p6,Bt ωc Q0 8 p7,Bt ωd Q3 4 p8,Bt ωe Z2 1 p9,Bt ωf Z1 1 p10,Bt ωg Q5 6 p11,Bt ωi Z8 12 p12] (by rfl)) (.cnd 1 [27] (.br 1009 (!p0) (.done true) (.fail)) (fun(c792:Bool)=>[.bool c792]) fun c792=>.br 0 c792 (.gh 0 (.ren ωe ωh) (.done (p9,p10))) (.fail):TT ((List Int)×(List Bool))) (fun(r:(List Int)×(List Bool))=>.tup []) (fun(r:(List Int)×(List Bool))=>Ext.of .normal [] [(ωa,⟨13,true,[[.bool p0,Rf ωb p6,Rf ωc p7,Rf ωd p8,.i p1,.i p2,.i p3,.i p4,.i p5,Rf ωh r.1,Rf ωf r.2,Rf ωg p11,Rf ωi p12]]⟩)] [Bt ωh Z2 1 r.1,Bt ωb Q0 8 p6,Bt ωc Q0 8 p7,Bt ωd Q3 4 p8,Bt ωf Z1 1 r.2,Bt ωg Q5 6 p11,Bt ωi Z8 12 p12] (by rfl)) by unfold FnB;kernel_rfl)
def s75(p0:Bool)(p1 p2:List Q2)(p3:List Q6)(p4 p5 p6 p7 p8:Int)(p9:List Int)(p10:List Bool)(p11:List Q8)(p12:Int):Sp (Z7×Z7):=.ofFn 75 Z0 Tryz.func75 (show FnD Pg GG [0,1,4,5,6] Tryz.f75 [.snap [.bool p0,Sl 8 Q0 p1,Sl 8 Q0 p2,Sl 4 Q3 p3,.i p4,.i p5,.i p6,.i p7,.i p8,Sl 1 Z2 p9,Sl 1 Z1 p10,Sl 6 Q5 p11,.nilsl],.i p12] (.row 1008 Q3 p3 p12.toNat (decide (0≤p12)) fun x809=>.row 2009 Q0 p1 x809.fH.toNat (decide (0≤x809.fH)) fun x810=>.row 2020 Q0 p2 x809.fJ.toNat (decide (0≤x809.fJ)) fun x811=>.done (x810.fT,x811.fG):TT (Z7×Z7)) (fun r=>.tup [.agg [.str r.1.fe,.int .i64 r.1.fh],.agg [.str r.2.fe,.int .i64 r.2.fh]]) by unfold FnD;kernel_rfl)
def s184(p0:Q8)(p1:Bool)(p2 p3:List Q2)(p4:List Q6)(p5 p6 p7 p8 p9:Int)(p10:List Int)(p11:List Bool)(p12:List Q8)(p13:Y6):Sp (Bool):=.ofFn 184 Z0 Tryz.func184 (show FnD Pg GG [0,1,2,3,4,5,6] Tryz.f184 [.agg (Q5.c p0),.snap [.snap [.bool p1,Sl 8 Q0 p2,Sl 8 Q0 p3,Sl 4 Q3 p4,.i p5,.i p6,.i p7,.i p8,.i p9,Sl 1 Z2 p10,Sl 1 Z1 p11,Sl 6 Q5 p12,.nilsl]],.snap (Z8.c p13)] (.call 1004 (s75 p1 p2 p3 p4 p5 p6 p7 p8 p9 p10 p11 p12 p0.fE) [] [] fun r812=>.cnd 2 [4] (.br 2008 (p0.fp==p13.fj.fp) (.br 2014 ((decide (r812.1.fe=p13.gc.fe))&&((r812.1.fh==p13.gc.fh)&&true)) (.done ((decide (r812.2.fe=p13.gb.fe))&&((r812.2.fh==p13.gb.fh)&&true))) (.fail)) (.fail)) (fun(c813:Bool)=>[.bool c813]) fun c813=>.done c813:TT (Bool)) (fun r=>.bool r) by unfold FnD;kernel_rfl)
def s223(p0:List Q8)(p1:Bool)(p2 p3:List Q2)(p4:List Q6)(p5 p6 p7 p8 p9:Int)(p10:List Int)(p11:List Bool)(p12:List Q8)(p13:Y6):Sp (Int):=.ofFn 223 Z0 Tryz.func223 (show FnD Pg GG [0,1,4,5,7,8,9,16] Tryz.f223 [Sl 6 Q5 p0,.fn 184 [] [.snap [.snap [.bool p1,Sl 8 Q0 p2,Sl 8 Q0 p3,Sl 4 Q3 p4,.i p5,.i p6,.i p7,.i p8,.i p9,Sl 1 Z2 p10,Sl 1 Z1 p11,Sl 6 Q5 p12,.nilsl]],.snap (Z8.c p13)]] (.bind2 1 (.lp (fun(l810:Int)=>Ext.l .normal [(0,Sl 6 Q5 p0),(1,.fn 184 [] [.snap [.snap [.bool p1,Sl 8 Q0 p2,Sl 8 Q0 p3,Sl 4 Q3 p4,.i p5,.i p6,.i p7,.i p8,.i p9,Sl 1 Z2 p10,Sl 1 Z1 p11,Sl 6 Q5 p12,.nilsl]],.snap (Z8.c p13)]),(4,.i 0),(7,.i (Y9 Q5 p0)),(8,.i l810)] []) (fun l810=>.br 0 (decide (l810 < (Y9 Q5 p0))) (.row 4004 Q5 p0 l810.toNat (decide (0≤l810)) fun x811=>.call 4006 (s184 x811 p1 p2 p3 p4 p5 p6 p7 p8 p9 p10 p11 p12 p13) [] [] fun r812=>.br 0 r812 (.done (.inr (.inl l810))) (.fail)) (.fail)) 0) (fun(e813:Int)=>Ext.l .ret [(4,.i e813)] []) (fun(e814:Unit)=>Ext.l (.exit 0) [(4,.i 0)] []) (fun e813=>.done e813) (fun _=>.fail):TT (Int)) (fun r=>.int .i64 r) by unfold FnD;kernel_rfl)
def s168(p0:List Q8)(p1:Bool)(p2 p3:List Q2)(p4:List Q6)(p5 p6 p7 p8 p9:Int)(p10:List Int)(p11:List Bool)(p12:List Q8)(p13:Y6):Sp (Int):=.ofFn 168 Z0 Tryz.func168 (show FnD Pg GG [0,1,4] Tryz.f168 [Sl 6 Q5 p0,.fn 184 [] [.snap [.snap [.bool p1,Sl 8 Q0 p2,Sl 8 Q0 p3,Sl 4 Q3 p4,.i p5,.i p6,.i p7,.i p8,.i p9,Sl 1 Z2 p10,Sl 1 Z1 p11,Sl 6 Q5 p12,.nilsl]],.snap (Z8.c p13)]] (.call 1003 (s223 p0 p1 p2 p3 p4 p5 p6 p7 p8 p9 p10 p11 p12 p13) [] [] fun r815=>.done r815:TT (Int)) (fun r=>.int .i64 r) by unfold FnD;kernel_rfl)
def g96(p0 p1:Int)(p2:List Q8):TT ((List Q8)×Nat):=.opr 1006 (Rule.cap3 (ty:=Q5) (t:=33) (e:=101) (z:=6) (.tmp 8) (.tmp 9) (.tmp 10) (.tmp 12) 13 ωa p2.length p2 .i64 .i64 .i64 p0 p1 (p2.length:Int) (by kernel_rfl) (by kernel_rfl)) fun _=>.br 0 (p0==p1) (.gh 0 (.ren ωa 26) (.done (p2,p2.length))) (.chk 5003 (decide (0≤p0)&&decide (p0≤(p2.length:Int))) (.chk 5006 (decide (0≤p1)&&decide (p1≤(p2.length:Int))) (.opr 5007 (Rule.appSame (ty:=Q5) (t:=33) (t2:=33) (e:=101) (e2:=101) (z:=6) (.tmp 22) (.tmp 25) 26 ωa p0.toNat p1.toNat (p2.length - p1.toNat) p2 (by kernel_rfl) (by kernel_rfl) (by kernel_rfl) (fun _=>rfl)) fun _=>.opr 6005 (Rule.cap2 (ty:=Q5) (t:=33) (e:=101) (z:=6) (.tmp 27) (.tmp 29) (.tmp 30) 31 ωa (p0.toNat+(p2.length - p1.toNat)) (over p2 p0.toNat ((p2.drop p1.toNat).take (p2.length - p1.toNat))) .i64 .i64 (((p0.toNat+(p2.length - p1.toNat)):Nat):Int) (p2.length:Int) (by kernel_rfl) (by kernel_rfl)) fun _=>.opr 6006 (Rule.clear (ty:=Q5) (t:=33) (e:=101) (z:=6) (.tmp 31) ωa ((((p0.toNat+(p2.length - p1.toNat)):Nat):Int)).toNat ((p2.length:Int).toNat - ((((p0.toNat+(p2.length - p1.toNat)):Nat):Int)).toNat) (over p2 p0.toNat ((p2.drop p1.toNat).take (p2.length - p1.toNat))) (Q8.mk 0 0 0 0 false false) (by kernel_rfl) (by kernel_rfl) (by kernel_rfl) (by rfl) (fun _=>rfl)) fun _=>.gh 0 (.ren ωa 26) (.done ((over (over p2 p0.toNat ((p2.drop p1.toNat).take (p2.length - p1.toNat))) ((((p0.toNat+(p2.length - p1.toNat)):Nat):Int)).toNat (List.replicate ((p2.length:Int).toNat - ((((p0.toNat+(p2.length - p1.toNat)):Nat):Int)).toNat) (Q8.mk 0 0 0 0 false false))),(p0.toNat+(p2.length - p1.toNat)))))))
theorem k96(p0 p1:Int)(p2:List Q8):FnB Tryz.prog GG [0,1,2,6,7,16] Tryz.f96 [.ref 1000000 0 p2.length,.i p0,.i p1] (Ext.of .normal (U6 [.ref 1000000 0 p2.length,.i p0,.i p1]) [] [BT.of 1000000 Q5 6 p2 true] (by rfl)) (g96 p0 p1 p2) (fun(r:(List Q8)×Nat)=>.ref 26 0 r.2) (fun(r:(List Q8)×Nat)=>Ext.of .normal [] [] [BT.of 26 Q5 6 r.1 true] (by rfl)):=by unfold FnB;kernel_rfl
def s96(p0 p1:Int)(p2:List Q8):Sp ((List Q8)):=Spec.trim (.ofFnB 96 [26] Z0 Tryz.func96 rfl (fun _=>rfl) (k96 p0 p1 p2)) Q5 26 6 (by decide) (fun _=>rfl) (fun _=>rfl) (fun _=>rfl)
def s110(p0:Y6)(p1:Bool)(p2 p3 p4 p5 p6:Int)(p7 p8:List Q2)(p9:List Q6)(p10:List Int)(p11:List Bool)(p12:List Q8):Sp ((List Q8)×Bool×Int×Int×Int×Int×Bool×Bool):=.ofFnB 110 [ωh,ωb,ωc,ωd,ωe,ωf] Z0 Tryz.func110 rfl (fun _=>rfl) (show FnB Pg GG [0,1,2,3,4,5,6,7,16] Tryz.f110 [.ptr ωa 0 0,.agg (Z8.c p0)] (Ext.of .normal (U6 [.ptr ωa 0 0,.agg (Z8.c p0)]) [(ωa,⟨13,true,[[.bool p1,Rf ωb p7,Rf ωc p8,Rf ωd p9,.i p2,.i p3,.i p4,.i p5,.i p6,Rf ωe p10,Rf ωf p11,Rf ωg p12,.nilsl]]⟩)] [Bt ωb Q0 8 p7,Bt ωc Q0 8 p8,Bt ωd Q3 4 p9,Bt ωe Z2 1 p10,Bt ωf Z1 1 p11,Bt ωg Q5 6 p12] (by rfl)) (.view 1007 (s168 p12 p1 p7 p8 p9 p2 p3 p4 p5 p6 p10 p11 p12 p0) [(VwW.o ωg Q5 p12),(VwW.o ωb Q0 p7),(VwW.o ωc Q0 p8),(VwW.o ωd Q3 p9),(VwW.o ωe Z2 p10),(VwW.o ωf Z1 p11),(VwW.o ωg Q5 p12)] fun r820=>.br 0 (decide (r820 < 0)) (.fail) (.chk 4007 (bD r820 p12.length) (.row 4008 Q5 p12 (0+r820.toNat) true fun x821=>.call 5010 (s96 r820 (Q4 (r820+1)) p12) [(ωa,ωg)] [(26,500100)] fun r822=>.gh 0 (.ren 500100 ωh) (.done (r822,true,x821.fp,x821.fE,x821.gd,x821.fU,x821.fF,x821.fo)))):TT ((List Q8)×Bool×Int×Int×Int×Int×Bool×Bool)) (fun(r:(List Q8)×Bool×Int×Int×Int×Int×Bool×Bool)=>.tup [.agg [.i r.2.2.1,.i r.2.2.2.1,.i r.q.1,.i r.q.2.1,.bool r.q.2.2.1,.bool r.q.2.2.2],.bool r.2.1]) (fun(r:(List Q8)×Bool×Int×Int×Int×Int×Bool×Bool)=>Ext.of .normal [] [(ωa,⟨13,true,[[.bool p1,Rf ωb p7,Rf ωc p8,Rf ωd p9,.i p2,.i p3,.i p4,.i p5,.i p6,Rf ωe p10,Rf ωf p11,Rf ωh r.1,.nilsl]]⟩)] [Bt ωh Q5 6 r.1,Bt ωb Q0 8 p7,Bt ωc Q0 8 p8,Bt ωd Q3 4 p9,Bt ωe Z2 1 p10,Bt ωf Z1 1 p11] (by rfl)) by unfold FnB;kernel_rfl)
def s162_1(p0:Bool)(p1 p2:List Q2)(p3:List Q6):Sp (Unit):=.ofFnB 162 [500102,ωa,ωb] Z0 Tryz.func162 rfl (fun _=>rfl) (show FnB Pg GG [0,1,2,3,4,10] Tryz.f162 [.agg [.bool p0,Rf ωa p1,Rf ωb p2,Rf ωc p3]] (Ext.of .normal (U6 [.agg [.bool p0,Rf ωa p1,Rf ωb p2,Rf ωc p3]]) [] [Bt ωa Q0 8 p1,Bt ωb Q0 8 p2,Bt ωc Q3 4 p3] (by rfl)) (.view 2002 (s160 (U0.mk (Y3.mk p0 p1 p2 p3))) [(VwW.o ωa Q0 p1),(VwW.o ωb Q0 p2),(VwW.o ωc Q3 p3)] fun r824=>.br 0 (!r824) (.fail) (.gh 6 (.share (VwW.o ωc Q3 p3) 2) (.call 4004 (s89 p3) [] [(7,500102)] fun r825=>.done ())):TT (Unit)) (fun(r:Unit)=>.tup [.ptr 7 0 0,.i 0]) (fun(r:Unit)=>Ext.of .normal [] [(7,⟨4,true,[[.bool p0,Rf ωa p1,Rf ωb p2,Rf 500102 p3]]⟩)] [Bt 500102 Q3 4 p3,Bt ωa Q0 8 p1,Bt ωb Q0 8 p2] (by rfl)) by unfold FnB;kernel_rfl)
def s111_1(p0:Bool)(p1 p2:Int)(p3 p4:List Q2)(p5:List Q6):Sp ((List Q6)):=.ofFnB 111 [500104,ωa,ωb] Z0 Tryz.func111 rfl (fun _=>rfl) (show FnB Pg GG [0,1,2,3,6,7,8,9,10,11,18,40,55,56,57,58,84] Tryz.f111 [.agg [.bool p0,Rf ωa p3,Rf ωb p4,Rf ωc p5],.i p1,.i p2] (Ext.of .normal (U6 [.agg [.bool p0,Rf ωa p3,Rf ωb p4,Rf ωc p5],.i p1,.i p2]) [] [Bt ωa Q0 8 p3,Bt ωb Q0 8 p4,Bt ωc Q3 4 p5] (by rfl)) (.call 1002 (s162_1 p0 p3 p4 p5) [(ωa,ωa),(ωb,ωb),(ωc,ωc)] [(7,500103),(500102,500104)] fun r826=>.ff (.cnd 4 [40] (.br 4004 (decide (p1 < 0)) (.fail) (.br 4014 (decide ((p5.length:Int)≤p1)) (.fail) (.br 4018 (decide (p2 < 0)) (.fail) (.done (decide ((4:Int) < p2)))))) (fun(c827:Bool)=>[.bool c827]) fun c827=>.br 0 c827 (.fail) (.chk 6008 (bD p1 p5.length) (.row 6010 Q3 p5 (0+p1.toNat) true fun x828=>.re 6010 (ReW.put 500104 4 Q3 p5 (0+p1.toNat) (Q6.mk x828.fH x828.fJ x828.ft p2)) (.gh 9 (.len 500104 ((p5.set (0+p1.toNat) (Q6.mk x828.fH x828.fJ x828.ft p2)).length) [p5.length] (by simp)) (.bind 1 (.lp (fun(l836:(List Q6)×Int)=>Ext.of .normal [(1,.i p1),(2,.i p2),(6,.ptr 6 0 0),(7,.i 0),(8,.ptr 500103 0 0),(55,Rf 500104 l836.1),(56,.i ((p5.set (0+p1.toNat) (Q6.mk x828.fH x828.fJ x828.ft p2)).length:Int)),(57,.i l836.2)] [(6,⟨4,true,[[.bool false,.nilsl,.nilsl,.nilsl]]⟩),(500103,⟨4,true,[[.bool p0,Rf ωa p3,Rf ωb p4,Rf 500104 l836.1]]⟩)] [Bt 500104 Q3 4 l836.1,Bt ωa Q0 8 p3,Bt ωb Q0 8 p4] (by rfl)) (fun l836=>.br 0 (decide (l836.2 < ((p5.set (0+p1.toNat) (Q6.mk x828.fH x828.fJ x828.ft p2)).length:Int))) (.chk 9002 (bD l836.2 l836.1.length) (.row 9003 Q3 l836.1 (0+l836.2.toNat) true fun x837=>.cnd 10 [84] (.br 10004 (p2==3) (.br 10009 (x837.fD==0) (.fail) (.done false)) (.fail)) (fun(c841:Bool)=>[.bool c841]) fun c841=>.br 0 c841 (.fail) (.done (.inl (l836.1,(Q4 (l836.2+1))))))) (.done (.inr l836.1))) ((p5.set (0+p1.toNat) (Q6.mk x828.fH x828.fJ x828.ft p2)),0)) (fun(e843:(List Q6))=>Ext.of (.exit 0) [(6,.ptr 6 0 0),(7,.i 0),(8,.ptr 500103 0 0)] [(6,⟨4,true,[[.bool false,.nilsl,.nilsl,.nilsl]]⟩),(500103,⟨4,true,[[.bool p0,Rf ωa p3,Rf ωb p4,Rf 500104 e843]]⟩)] [Bt 500104 Q3 4 e843,Bt ωa Q0 8 p3,Bt ωb Q0 8 p4] (by rfl)) (fun e843=>.done e843)))))):TT ((List Q6))) (fun(r:(List Q6))=>.tup [.agg [.bool p0,Rf ωa p3,Rf ωb p4,Rf 500104 r],.i 0]) (fun(r:(List Q6))=>Ext.of .normal [] [] [Bt 500104 Q3 4 r,Bt ωa Q0 8 p3,Bt ωb Q0 8 p4] (by rfl)) by unfold FnB;kernel_rfl)
def s112(p0:Q2)(p1:Z7):Sp (Bool):=.ofFn 112 Z0 Tryz.func112 (show FnD Pg GG [0,1,2,3] Tryz.f112 [.agg (Q0.c p0),.snap [.str p1.fe,.i p1.fh]] (.done ((decide (p0.fG.fe=p1.fe))&&((p0.fG.fh==p1.fh)&&true)):TT (Bool)) (fun r=>.bool r) by unfold FnD;kernel_rfl)
def s102_5(p0:List Q2)(p1:Z7):Sp (Int):=.ofFn 102 Z0 Tryz.func102 (show FnD Pg GG [0,1,4,5,7,8,9,16] Tryz.f102 [Sl 8 Q0 p0,.fn 112 [] [.snap [.str p1.fe,.i p1.fh]]] (.bind2 1 (.lp (fun(l849:Int)=>Ext.l .normal [(0,Sl 8 Q0 p0),(1,.fn 112 [] [.snap [.str p1.fe,.i p1.fh]]),(4,.i 0),(7,.i (Y9 Q0 p0)),(8,.i l849)] []) (fun l849=>.br 0 (decide (l849 < (Y9 Q0 p0))) (.row 4004 Q0 p0 l849.toNat (decide (0≤l849)) fun x850=>.call 4006 (s112 x850 p1) [] [] fun r851=>.br 0 r851 (.done (.inr (.inl l849))) (.fail)) (.fail)) 0) (fun(e852:Int)=>Ext.l .ret [(4,.i e852)] []) (fun(e853:Unit)=>Ext.l (.exit 0) [(4,.i 0)] []) (fun e852=>.done e852) (fun _=>.fail):TT (Int)) (fun r=>.int .i64 r) by unfold FnD;kernel_rfl)
def s50_4(p0:List Q2)(p1:Z7):Sp (Int):=.ofFn 50 Z0 Tryz.func50 (show FnD Pg GG [0,1,4] Tryz.f50 [Sl 8 Q0 p0,.fn 112 [] [.snap [.str p1.fe,.i p1.fh]]] (.call 1003 (s102_5 p0 p1) [] [] fun r854=>.done r854:TT (Int)) (fun r=>.int .i64 r) by unfold FnD;kernel_rfl)
def g185 :TT (Int×Int):=.cnd 1 [21] (.call 1002 (s231 2 1 4) [] [] fun r857=>.br 1005 (!r857) (.done true) (.call 1006 (s231 0 0 65535) [] [] fun r858=>.br 1010 (!r858) (.done true) (.call 1011 (s231 1 1 256) [] [] fun r859=>.done (!r859)))) (fun(c860:Bool)=>[.bool c860]) fun c860=>.br 0 c860 (.done (0,2)) (.ff (.done (1845494015,0)))
def s185 :Sp (Int×Int):=.ofFn 185 Z0 Tryz.func185 (show FnD Pg GG [0,1,2,6,7,8,21,33] Tryz.f185 [.i 2,.i 0,.i 1] (g185) (fun r=>.tup [.i r.1,.i r.2]) by unfold FnD;kernel_rfl)
def s53(p0:Y6)(p1:Bool)(p2 p3 p4 p5 p6:Int)(p7 p8:List Q2)(p9:List Q6)(p10:List Int)(p11:List Bool)(p12:List Q8):Sp ((List Q6)×Int×(List Q8)):=.ofFnB 53 [500101,ωh,ωb,ωc,ωe,ωf] Z0 Tryz.func53 rfl (fun _=>rfl) (show FnB Pg GG [0,1,3,4,5,6,7,16,69,119] Tryz.f53 [.ptr ωa 0 0,.agg (Z8.c p0)] (Ext.of .normal (U6 [.ptr ωa 0 0,.agg (Z8.c p0)]) [(ωa,⟨13,true,[[.bool p1,Rf ωb p7,Rf ωc p8,Rf ωd p9,.i p2,.i p3,.i p4,.i p5,.i p6,Rf ωe p10,Rf ωf p11,Rf ωg p12,.nilsl]]⟩)] [Bt ωb Q0 8 p7,Bt ωc Q0 8 p8,Bt ωd Q3 4 p9,Bt ωe Z2 1 p10,Bt ωf Z1 1 p11,Bt ωg Q5 6 p12] (by rfl)) (.call 1003 (s110 (Y6.mk (Z7.mk p0.gb.fe p0.gb.fh) (Z7.mk p0.gc.fe p0.gc.fh) (U7.mk p0.fj.fy p0.fj.fp p0.fj.ft p0.fj.fo p0.fj.fC p0.fj.fF (Z7.mk p0.fj.fO.fe p0.fj.fO.fh))) p1 p2 p3 p4 p5 p6 p7 p8 p9 p10 p11 p12) [(ωa,ωa),(ωb,ωb),(ωc,ωc),(ωd,ωd),(ωe,ωe),(ωf,ωf),(ωg,ωg)] [(ωh,500101)] fun r823=>.br 0 (!r823.2.1) (.fail) (.call 3009 (s111_1 p1 r823.2.2.2.1 3 p7 p8 p9) [(ωa,ωb),(ωb,ωc),(ωc,ωd)] [(500104,500105)] fun r844=>.view 5004 (s75 p1 p7 p8 r844 p2 p3 p4 p5 p6 p10 p11 r823.1 r823.2.2.2.1) [(VwW.o ωb Q0 p7),(VwW.o ωc Q0 p8),(VwW.o 500105 Q3 r844),(VwW.o ωe Z2 p10),(VwW.o ωf Z1 p11),(VwW.o 500101 Q5 r823.1)] fun r845=>.cnd 6 [69] (.view 6008 (s50_4 p7 (Z7.mk p0.fj.fO.fe p0.fj.fO.fh)) [(VwW.o ωb Q0 p7)] fun r855=>.br 6011 (decide (r855 < 0)) (.fail) (.done false)) (fun(c856:Bool)=>[.bool c856]) fun c856=>.br 0 c856 (.fail) (.cnd 8 [119] (.br 8008 (decide (p6 < 0)) (.br 8011 r823.q.2.2.1 (.fail) (.br 8019 (!p1) (.fail) (.done false))) (.fail)) (fun(c859:Bool)=>[.bool c859]) fun c859=>.br 0 c859 (.fail) (.gh 0 (.ren 500105 ωh) (.done (r844,p6,r823.1))))):TT ((List Q6)×Int×(List Q8))) (fun(r:(List Q6)×Int×(List Q8))=>.tup []) (fun(r:(List Q6)×Int×(List Q8))=>Ext.of .normal [] [(ωa,⟨13,true,[[.bool p1,Rf ωb p7,Rf ωc p8,Rf ωh r.1,.i p2,.i p3,.i p4,.i p5,.i r.2.1,Rf ωe p10,Rf ωf p11,Rf 500101 r.2.2,.nilsl]]⟩)] [Bt 500101 Q5 6 r.2.2,Bt ωh Q3 4 r.1,Bt ωb Q0 8 p7,Bt ωc Q0 8 p8,Bt ωe Z2 1 p10,Bt ωf Z1 1 p11] (by rfl)) by unfold FnB;kernel_rfl)
def s115_1(p0:Q6)(p1:Bool)(p2 p3:List Q2)(p4:List Q6)(p5 p6 p7 p8 p9:Int)(p10:List Int)(p11:List Bool)(p12:List Q8)(p13:Int):Sp (Bool):=.ofFn 115 Z0 Tryz.func115 (show FnD Pg GG [0,1,2,3,4] Tryz.f115 [.agg (Q3.c p0),.snap [.snap [.bool p1,Sl 8 Q0 p2,Sl 8 Q0 p3,Sl 4 Q3 p4,.i p5,.i p6,.i p7,.i p8,.i p9,Sl 1 Z2 p10,Sl 1 Z1 p11,Sl 6 Q5 p12,.nilsl]],.snap [.i p13]] (.cnd 1 [4] (.br 1005 (decide (p0.fD < 3)) (.fail) (.done false)) (fun(c874:Bool)=>[.bool c874]) fun c874=>.done c874:TT (Bool)) (fun r=>.bool r) by unfold FnD;kernel_rfl)
def s98_4(p0:List Q6)(p1:Bool)(p2 p3:List Q2)(p4:List Q6)(p5 p6 p7 p8 p9:Int)(p10:List Int)(p11:List Bool)(p12:List Q8)(p13:Int):Sp (Int):=.ofFn 98 Z0 Tryz.func98 (show FnD Pg GG [0,1,4,5,7,8,9,16] Tryz.f98 [Sl 4 Q3 p0,.fn 115 [] [.snap [.snap [.bool p1,Sl 8 Q0 p2,Sl 8 Q0 p3,Sl 4 Q3 p4,.i p5,.i p6,.i p7,.i p8,.i p9,Sl 1 Z2 p10,Sl 1 Z1 p11,Sl 6 Q5 p12,.nilsl]],.snap [.i p13]]] (.bind2 1 (.lp (fun(l874:Int)=>Ext.l .normal [(0,Sl 4 Q3 p0),(1,.fn 115 [] [.snap [.snap [.bool p1,Sl 8 Q0 p2,Sl 8 Q0 p3,Sl 4 Q3 p4,.i p5,.i p6,.i p7,.i p8,.i p9,Sl 1 Z2 p10,Sl 1 Z1 p11,Sl 6 Q5 p12,.nilsl]],.snap [.i p13]]),(4,.i 0),(7,.i (Y9 Q3 p0)),(8,.i l874)] []) (fun l874=>.br 0 (decide (l874 < (Y9 Q3 p0))) (.row 4004 Q3 p0 l874.toNat (decide (0≤l874)) fun x875=>.call 4006 (s115_1 x875 p1 p2 p3 p4 p5 p6 p7 p8 p9 p10 p11 p12 p13) [] [] fun r876=>.br 0 r876 (.fail) (.done (.inl (Q4 (l874+1))))) (.done (.inr (.inr ())))) 0) (fun(e877:Int)=>Ext.l .ret [(4,.i e877)] []) (fun(e878:Unit)=>Ext.l (.exit 0) [(4,.i 0)] []) (fun _=>.fail) (fun e878=>.done (-1)):TT (Int)) (fun r=>.int .i64 r) by unfold FnD;kernel_rfl)
def s41_4(p0:List Q6)(p1:Bool)(p2 p3:List Q2)(p4:List Q6)(p5 p6 p7 p8 p9:Int)(p10:List Int)(p11:List Bool)(p12:List Q8)(p13:Int):Sp (Int):=.ofFn 41 Z0 Tryz.func41 (show FnD Pg GG [0,1,4] Tryz.f41 [Sl 4 Q3 p0,.fn 115 [] [.snap [.snap [.bool p1,Sl 8 Q0 p2,Sl 8 Q0 p3,Sl 4 Q3 p4,.i p5,.i p6,.i p7,.i p8,.i p9,Sl 1 Z2 p10,Sl 1 Z1 p11,Sl 6 Q5 p12,.nilsl]],.snap [.i p13]]] (.call 1003 (s98_4 p0 p1 p2 p3 p4 p5 p6 p7 p8 p9 p10 p11 p12 p13) [] [] fun r879=>.done r879:TT (Int)) (fun r=>.int .i64 r) by unfold FnD;kernel_rfl)
def s109_1(p0:Int)(p1:Bool)(p2 p3 p4 p5 p6:Int)(p7 p8:List Q2)(p9:List Q6)(p10:List Int)(p11:List Bool)(p12:List Q8):Sp ((List Int)):=.ofFnB 109 [ωh,ωb,ωc,ωd,ωf,ωg] Z0 Tryz.func109 rfl (fun _=>rfl) (show FnB Pg GG [0,1,11] Tryz.f109 [.ptr ωa 0 0,.i p0] (Ext.of .normal (U6 [.ptr ωa 0 0,.i p0]) [(ωa,⟨13,true,[[.bool p1,Rf ωb p7,Rf ωc p8,Rf ωd p9,.i p2,.i p3,.i p4,.i p5,.i p6,Rf ωe p10,Rf ωf p11,Rf ωg p12,.nilsl]]⟩)] [Bt ωb Q0 8 p7,Bt ωc Q0 8 p8,Bt ωd Q3 4 p9,Bt ωe Z2 1 p10,Bt ωf Z1 1 p11,Bt ωg Q5 6 p12] (by rfl)) (.view 7 (s87 p10 p0) [(VwW.o ωe Z2 p10)] fun r897=>.br 0 (!r897) (.app 1009 Z2 p10 [p0] 8 false (by intro h;cases h) (.gh 0 (.ren 20 ωh) (.done (p10++[p0])))) (.fail):TT ((List Int))) (fun(r:(List Int))=>.tup []) (fun(r:(List Int))=>Ext.of .normal [] [(ωa,⟨13,true,[[.bool p1,Rf ωb p7,Rf ωc p8,Rf ωd p9,.i p2,.i p3,.i p4,.i p5,.i p6,Rf ωh r,Rf ωf p11,Rf ωg p12,.nilsl]]⟩)] [Bt ωh Z2 1 r,Bt ωb Q0 8 p7,Bt ωc Q0 8 p8,Bt ωd Q3 4 p9,Bt ωf Z1 1 p11,Bt ωg Q5 6 p12] (by rfl)) by unfold FnB;kernel_rfl)
def s55_1(p0:Bool)(p1 p2 p3 p4 p5:Int)(p6 p7:List Q2)(p8:List Q6)(p9:List Int)(p10:List Bool)(p11:List Q8):Sp ((List Int)×(List Bool)):=.ofFnB 55 [ωh,ωb,ωc,ωd,ωf,ωg] Z0 Tryz.func55 rfl (fun _=>rfl) (show FnB Pg GG [0,1,2,3,4,27,33,34,35,36,61,76] Tryz.f55 [.ptr ωa 0 0] (Ext.of .normal (U6 [.ptr ωa 0 0]) [(ωa,⟨13,true,[[.bool p0,Rf ωb p6,Rf ωc p7,Rf ωd p8,.i p1,.i p2,.i p3,.i p4,.i p5,Rf ωe p9,Rf ωf p10,Rf ωg p11,.nilsl]]⟩)] [Bt ωb Q0 8 p6,Bt ωc Q0 8 p7,Bt ωd Q3 4 p8,Bt ωe Z2 1 p9,Bt ωf Z1 1 p10,Bt ωg Q5 6 p11] (by rfl)) (.cnd 1 [27] (.br 1009 (!p0) (.fail) (.br 1017 (decide ((0:Int)≤p5)) (.fail) (.view 1022 (s114 p10 true) [(VwW.o ωf Z1 p10)] fun r883=>.done r883))) (fun(c884:Bool)=>[.bool c884]) fun c884=>.br 0 c884 (.fail) (.bind 1 (.lp (fun(l888:Int×Int)=>Ext.of .normal [(1,.ptr 1 0 0),(2,.ptr 2 0 0),(33,Rf ωd p8),(34,.i (p8.length:Int)),(35,.i l888.2)] [(1,⟨1,true,[[.ptr ωa 0 0]]⟩),(2,⟨1,true,[[.i l888.1]]⟩),(ωa,⟨13,true,[[.bool p0,Rf ωb p6,Rf ωc p7,Rf ωd p8,.i p1,.i p2,.i p3,.i p4,.i p5,Rf ωe p9,Rf ωf p10,Rf ωg p11,.nilsl]]⟩)] [Bt ωb Q0 8 p6,Bt ωc Q0 8 p7,Bt ωd Q3 4 p8,Bt ωe Z2 1 p9,Bt ωf Z1 1 p10,Bt ωg Q5 6 p11] (by rfl)) (fun l888=>.br 0 (decide (l888.2 < (p8.length:Int))) (.chk 5002 (bD l888.2 p8.length) (.row 5003 Q3 p8 (0+l888.2.toNat) true fun x889=>.cnd 6 [61] (.br 6005 (x889.fD==3) (.br 6008 (decide (l888.1 < 0)) (.done true) (.fail)) (.fail)) (fun(c891:Bool)=>[.bool c891]) fun c891=>.br 0 c891 (.done (.inl (l888.2,(Q4 (l888.2+1))))) (.fail))) (.done (.inr l888.1))) ((-1),0)) (fun(e892:Int)=>Ext.of (.exit 0) [(1,.ptr 1 0 0),(2,.ptr 2 0 0)] [(1,⟨1,true,[[.ptr ωa 0 0]]⟩),(2,⟨1,true,[[.i e892]]⟩),(ωa,⟨13,true,[[.bool p0,Rf ωb p6,Rf ωc p7,Rf ωd p8,.i p1,.i p2,.i p3,.i p4,.i p5,Rf ωe p9,Rf ωf p10,Rf ωg p11,.nilsl]]⟩)] [Bt ωb Q0 8 p6,Bt ωc Q0 8 p7,Bt ωd Q3 4 p8,Bt ωe Z2 1 p9,Bt ωf Z1 1 p10,Bt ωg Q5 6 p11] (by rfl)) (fun e892=>.cnd 9 [76] (.br 9004 (decide (e892 < 0)) (.fail) (.view 9011 (s41_4 p8 p0 p6 p7 p8 p1 p2 p3 p4 p5 p9 p10 p11 e892) [(VwW.o ωd Q3 p8),(VwW.o ωb Q0 p6),(VwW.o ωc Q0 p7),(VwW.o ωd Q3 p8),(VwW.o ωe Z2 p9),(VwW.o ωf Z1 p10),(VwW.o ωg Q5 p11)] fun r893=>.done (decide ((0:Int)≤r893)))) (fun(c894:Bool)=>[.bool c894]) fun c894=>.br 0 c894 (.fail) (.chk 10007 (bD e892 p10.length) (.row 10008 Z1 p10 (0+e892.toNat) true fun x895=>.re 10008 (ReW.put ωf 1 Z1 p10 (0+e892.toNat) true) (.gh 13 (.len ωf ((p10.set (0+e892.toNat) true).length) [p10.length] (by simp)) (.call 11003 (s109_1 e892 p0 p1 p2 p3 p4 p5 p6 p7 p8 p9 (p10.set (0+e892.toNat) true) p11) [(ωa,ωa),(ωb,ωb),(ωc,ωc),(ωd,ωd),(ωe,ωe),(ωf,ωf),(ωg,ωg)] [(ωh,500108)] fun r898=>.gh 0 (.ren 500108 ωh) (.done (r898,(p10.set (0+e892.toNat) true))))))))):TT ((List Int)×(List Bool))) (fun(r:(List Int)×(List Bool))=>.tup []) (fun(r:(List Int)×(List Bool))=>Ext.of .normal [] [(ωa,⟨13,true,[[.bool p0,Rf ωb p6,Rf ωc p7,Rf ωd p8,.i p1,.i p2,.i p3,.i p4,.i p5,Rf ωh r.1,Rf ωf r.2,Rf ωg p11,.nilsl]]⟩)] [Bt ωh Z2 1 r.1,Bt ωb Q0 8 p6,Bt ωc Q0 8 p7,Bt ωd Q3 4 p8,Bt ωf Z1 1 r.2,Bt ωg Q5 6 p11] (by rfl)) by unfold FnB;kernel_rfl)
def s17(p0:Y0)(p1:Int)(p2:Y6):Sp (Y0×(List Y6)×Int):=.ofFn 17 Z0 Tryz.func17 (show FnD Pg GG [0,1,2,3,5,6,7,8,9,10,16,21,28,34] Tryz.f17 [.agg [.bool p0.fc.fo,Sl 8 Q0 p0.fc.fu,Sl 8 Q0 p0.fc.fw,Sl 4 Q3 p0.fc.fm,.i p0.fC,.i p0.fP,.i p0.fK,.i p0.fI,.i p0.fV,Sl 1 Z2 p0.fN,Sl 1 Z1 p0.fQ,Sl 6 Q5 p0.fA],.i p1,.agg (Z8.c p2)] (.call2 1002 (s36 p0) [] [(7,500078),(500053,500079),(500054,500080),(500055,500081),(500056,500082),(500057,500083),(500058,500084)] (fun _=>.fail) (fun r695=>.ff (.call 4004 (s39 p1 p0.fP 1099511627776) [] [] fun r696=>.br 0 (!r696) (.fail) (.call 6003 (s48 p2.fj) [] [] fun r697=>.br 0 (!r697) (.fail) (.cnd 8 [34] (.call 8003 (s49 p2.gb) [] [] fun r698=>.br 8006 (!r698) (.fail) (.call 8008 (s49 p2.gc) [] [] fun r699=>.br 8012 (!r699) (.fail) (.br 8023 ((p2.gb.fe.size:Int) != (p2.gc.fe.size:Int)) (.fail) (.view 8030 (s50_1 p0.fc.fu p2) [(VwW.o 500079 Q0 p0.fc.fu)] fun r700=>.done (decide (r700 < 0)))))) (fun(c701:Bool)=>[.bool c701]) fun c701=>.br 0 c701 (.fail) (.ceq 11011 p2.fj.fy [0,1,2,3] (fun v=>bif v==0 then .fail else bif v==1 then .call 11013 (s52 (Y6.mk (Z7.mk p2.gb.fe p2.gb.fh) (Z7.mk p2.gc.fe p2.gc.fh) (U7.mk p2.fj.fy p2.fj.fp p2.fj.ft p2.fj.fo p2.fj.fC p2.fj.fF (Z7.mk p2.fj.fO.fe p2.fj.fO.fh))) p0.fc.fo p0.fC p1 p0.fK p0.fI p0.fV p0.fc.fu p0.fc.fw p0.fc.fm p0.fN p0.fQ p0.fA) [(ωa,500078),(ωb,500079),(ωc,500080),(ωd,500081),(ωe,500082),(ωf,500083),(ωg,500084)] [(ωh,500094),(ωj,500095),(ωn,500096),(660003,500097)] fun r761=>.call 12002 (s55 p0.fc.fo p0.fC p1 p0.fK p0.fI r761.q p0.fc.fu p0.fc.fw r761.1 r761.2.1 r761.2.2.1 p0.fA r761.2.2.2.1) [(ωa,500078),(ωb,500079),(ωc,500080),(ωd,500094),(ωe,500095),(ωf,500096),(ωg,500084),(ωi,500097)] [(ωh,500099)] fun r806=>.gh 0 (.share (VwW.o 500079 Q0 p0.fc.fu) 1) (.gh 0 (.share (VwW.o 500080 Q0 p0.fc.fw) 1) (.gh 0 (.share (VwW.o 500084 Q5 p0.fA) 1) (.gh 0 (.share (VwW.o 500094 Q3 r761.1) 1) (.gh 0 (.share (VwW.o 500096 Z1 r806.2) 1) (.gh 0 (.share (VwW.o 500097 Z8 r761.2.2.2.1) 1) (.gh 0 (.share (VwW.o 500099 Z2 r806.1) 1) (.done ((Y0.mk (Y3.mk p0.fc.fo p0.fc.fu p0.fc.fw r761.1) p0.fC p1 p0.fK p0.fI r761.q r806.1 r806.2 p0.fA),r761.2.2.2.1,0)))))))) else bif v==2 then .call 11013 (s53 (Y6.mk (Z7.mk p2.gb.fe p2.gb.fh) (Z7.mk p2.gc.fe p2.gc.fh) (U7.mk p2.fj.fy p2.fj.fp p2.fj.ft p2.fj.fo p2.fj.fC p2.fj.fF (Z7.mk p2.fj.fO.fe p2.fj.fO.fh))) p0.fc.fo p0.fC p1 p0.fK p0.fI p0.fV p0.fc.fu p0.fc.fw p0.fc.fm p0.fN p0.fQ p0.fA) [(ωa,500078),(ωb,500079),(ωc,500080),(ωd,500081),(ωe,500082),(ωf,500083),(ωg,500084)] [(500101,500106),(ωh,500107)] fun r860=>.call 12002 (s55_1 p0.fc.fo p0.fC p1 p0.fK p0.fI r860.2.1 p0.fc.fu p0.fc.fw r860.1 p0.fN p0.fQ r860.2.2) [(ωa,500078),(ωb,500079),(ωc,500080),(ωd,500107),(ωe,500082),(ωf,500083),(ωg,500106)] [(ωh,500109)] fun r899=>.gh 0 (.share (VwW.o 500079 Q0 p0.fc.fu) 1) (.gh 0 (.share (VwW.o 500080 Q0 p0.fc.fw) 1) (.gh 0 (.share (VwW.o 500083 Z1 r899.2) 1) (.gh 0 (.share (VwW.o 500106 Q5 r860.2.2) 1) (.gh 0 (.share (VwW.o 500107 Q3 r860.1) 1) (.gh 0 (.share (VwW.o 500109 Z2 r899.1) 1) (.done ((Y0.mk (Y3.mk p0.fc.fo p0.fc.fu p0.fc.fw r860.1) p0.fC p1 p0.fK p0.fI r860.2.1 r899.1 r899.2 r860.2.2),[],0))))))) else bif v==3 then .fail else .fail)))))):TT (Y0×(List Y6)×Int)) (fun r=>.tup [.agg [.bool r.1.fc.fo,Sl 8 Q0 r.1.fc.fu,Sl 8 Q0 r.1.fc.fw,Sl 4 Q3 r.1.fc.fm,.int .i64 r.1.fC,.int .i64 r.1.fP,.int .i64 r.1.fK,.int .i64 r.1.fI,.int .i64 r.1.fV,Sl 1 Z2 r.1.fN,Sl 1 Z1 r.1.fQ,Sl 6 Q5 r.1.fA],Sl 12 Z8 r.2.1,.int .i64 r.2.2]) by unfold FnD;kernel_rfl)
def duRn:Code:=cB (cR (cL (cR (Tryz.f40.body.getD .skip))))
def g75_1(p0:M5)(p1:Int):TT (Z7×Z7):=.row 1008 Q3 p0.fB.fc.fm p1.toNat (decide (0≤p1)) fun x906=>.row 2009 Q0 p0.fB.fc.fu x906.fH.toNat (decide (0≤x906.fH)) fun x907=>.row 2020 Q0 p0.fB.fc.fw x906.fJ.toNat (decide (0≤x906.fJ)) fun x908=>.done (x907.fT,x908.fG)
def s75_1(p0:M5)(p1:Int):Sp (Z7×Z7):=.ofFn 75 Z0 Tryz.func75 (show FnD Pg GG [0,1,4,5,6] Tryz.f75 [.snap [.bool p0.fB.fc.fo,Sl 8 Q0 p0.fB.fc.fu,Sl 8 Q0 p0.fB.fc.fw,Sl 4 Q3 p0.fB.fc.fm,.i p0.fB.fC,.i p0.fB.fP,.i p0.fB.fK,.i p0.fB.fI,.i p0.fB.fV,Sl 1 Z2 p0.fB.fN,Sl 1 Z1 p0.fB.fQ,Sl 6 Q5 p0.fB.fA,Sl 12 Z8 p0.gv],.i p1] (g75_1 p0 p1) (fun r=>.tup [.agg [.str r.1.fe,.i r.1.fh],.agg [.str r.2.fe,.i r.2.fh]]) by unfold FnD;kernel_rfl)
def g113_1(p0:M5)(p1:Int):TT (Int):=.call 1001 s185 [] [] fun r910=>.row 2017 Q3 p0.fB.fc.fm p1.toNat (decide (0≤p1)) fun x911=>.row 2020 Q0 p0.fB.fc.fu x911.fH.toNat (decide (0≤x911.fH)) fun x912=>.done (Q4 ((Q4 ((Q4 (Int.tdiv r910.1 16777216)) * 16777216))+(Int.tmod x912.ft 16777216)))
def s113_1(p0:M5)(p1:Int):Sp (Int):=.ofFn 113 Z0 Tryz.func113 (show FnD Pg GG [0,1,4,5] Tryz.f113 [.snap [.bool p0.fB.fc.fo,Sl 8 Q0 p0.fB.fc.fu,Sl 8 Q0 p0.fB.fc.fw,Sl 4 Q3 p0.fB.fc.fm,.i p0.fB.fC,.i p0.fB.fP,.i p0.fB.fK,.i p0.fB.fI,.i p0.fB.fV,Sl 1 Z2 p0.fB.fN,Sl 1 Z1 p0.fB.fQ,Sl 6 Q5 p0.fB.fA,Sl 12 Z8 p0.gv],.i p1] (g113_1 p0 p1) (fun r=>.int .i64 r) by unfold FnD;kernel_rfl)
def g95(p0:Q8)(p1:Bool)(p2 p3 p4 p5 p6:Int)(p7:Nat)(p8 p9:List Q2)(p10:List Q6)(p11:List Int)(p12:List Bool)(p13:List Q8)(p14:List Y6):TT ((List Y6)×Nat):=.view 1004 (s75_1 (M5.mk (Y0.mk (Y3.mk p1 p8 p9 p10) p2 p3 p4 p5 p6 p11 p12 (p13.take p7)) p14) p0.fE) [(VwW.o ωb Q0 p8),(VwW.o ωc Q0 p9),(VwW.o ωd Q3 p10),(VwW.o ωe Z2 p11),(VwW.o ωf Z1 p12),(VwW.part ωg Q5 p13 p7),(VwW.o ωi Z8 p14)] fun r914=>.view 2013 (s113_1 (M5.mk (Y0.mk (Y3.mk p1 p8 p9 p10) p2 p3 p4 p5 p6 p11 p12 (p13.take p7)) p14) p0.fE) [(VwW.o ωb Q0 p8),(VwW.o ωc Q0 p9),(VwW.o ωd Q3 p10),(VwW.o ωe Z2 p11),(VwW.o ωf Z1 p12),(VwW.part ωg Q5 p13 p7),(VwW.o ωi Z8 p14)] fun r915=>.app 2026 Z8 p14 [(Y6.mk r914.1 r914.2 (U7.mk 1 p0.fp r915 p0.fo p2 p0.fF (Z7.mk ByteArray.empty 0)))] 120 false (by intro h;cases h) (.done ((p14++[(Y6.mk r914.1 r914.2 (U7.mk 1 p0.fp r915 p0.fo p2 p0.fF (Z7.mk ByteArray.empty 0)))]),p7))
def s95(p0:Q8)(p1:Bool)(p2 p3 p4 p5 p6:Int)(p7:Nat)(p8 p9:List Q2)(p10:List Q6)(p11:List Int)(p12:List Bool)(p13:List Q8)(p14:List Y6):Sp ((List Y6)×Nat):=.ofFnB 95 [38,ωb,ωc,ωd,ωe,ωf,ωg] Z0 Tryz.func95 rfl (fun _=>rfl) (show FnB Pg GG [0,1,3,4,5] Tryz.f95 [.ptr ωa 0 0,.agg (Q5.c p0)] (Ext.of .normal (U6 [.ptr ωa 0 0,.agg (Q5.c p0)]) [(ωa,⟨13,true,[[.bool p1,Rf ωb p8,Rf ωc p9,Rf ωd p10,.i p2,.i p3,.i p4,.i p5,.i p6,Rf ωe p11,Rf ωf p12,.ref ωg 0 p7,Rf ωi p14]]⟩)] [Bt ωb Q0 8 p8,Bt ωc Q0 8 p9,Bt ωd Q3 4 p10,Bt ωe Z2 1 p11,Bt ωf Z1 1 p12,Bt ωg Q5 6 p13,Bt ωi Z8 12 p14] (by rfl)) (g95 p0 p1 p2 p3 p4 p5 p6 p7 p8 p9 p10 p11 p12 p13 p14) (fun(r:(List Y6)×Nat)=>.tup []) (fun(r:(List Y6)×Nat)=>Ext.of .normal [] [(ωa,⟨13,true,[[.bool p1,Rf ωb p8,Rf ωc p9,Rf ωd p10,.i p2,.i p3,.i p4,.i p5,.i p6,Rf ωe p11,Rf ωf p12,.ref ωg 0 r.2,Rf 38 r.1]]⟩)] [Bt 38 Z8 12 r.1,Bt ωb Q0 8 p8,Bt ωc Q0 8 p9,Bt ωd Q3 4 p10,Bt ωe Z2 1 p11,Bt ωf Z1 1 p12,Bt ωg Q5 6 p13] (by rfl)) by unfold FnB;kernel_rfl)
def g96_1(p0:Nat)(p1 p2:Int)(p3:List Q8):TT (((List Q8)×Nat)):=.opr 1006 (Rule.cap3u (ty:=Q5) (t:=33) (e:=101) (z:=6) (.tmp 8) (.tmp 9) (.tmp 10) (.tmp 12) 13 ωa p0 p3 .i64 .i64 .i64 p1 p2 (p0:Int) (by kernel_rfl) (by kernel_rfl)) fun _=>.br 0 (p1==p2) (.done (p3,p0)) (.chk 5003 (decide (0≤p1)&&decide (p1≤(p0:Int))) (.chk 5006 (decide (0≤p2)&&decide (p2≤(p0:Int))) (.opr 5007 (Rule.appSame (ty:=Q5) (t:=33) (t2:=33) (e:=101) (e2:=101) (z:=6) (.tmp 22) (.tmp 25) 26 ωa p1.toNat p2.toNat (p0 - p2.toNat) p3 (by kernel_rfl) (by kernel_rfl) (by kernel_rfl) (fun _=>rfl)) fun _=>.opr 6005 (Rule.cap2 (ty:=Q5) (t:=33) (e:=101) (z:=6) (.tmp 27) (.tmp 29) (.tmp 30) 31 ωa (p1.toNat+(p0 - p2.toNat)) (over p3 p1.toNat ((p3.drop p2.toNat).take (p0 - p2.toNat))) .i64 .i64 (((p1.toNat+(p0 - p2.toNat)):Nat):Int) (p0:Int) (by kernel_rfl) (by kernel_rfl)) fun _=>.opr 6006 (Rule.clear (ty:=Q5) (t:=33) (e:=101) (z:=6) (.tmp 31) ωa ((((p1.toNat+(p0 - p2.toNat)):Nat):Int)).toNat ((p0:Int).toNat - ((((p1.toNat+(p0 - p2.toNat)):Nat):Int)).toNat) (over p3 p1.toNat ((p3.drop p2.toNat).take (p0 - p2.toNat))) (Q8.mk 0 0 0 0 false false) (by kernel_rfl) (by kernel_rfl) (by kernel_rfl) (by rfl) (fun _=>rfl)) fun _=>.done ((over (over p3 p1.toNat ((p3.drop p2.toNat).take (p0 - p2.toNat))) ((((p1.toNat+(p0 - p2.toNat)):Nat):Int)).toNat (List.replicate ((p0:Int).toNat - ((((p1.toNat+(p0 - p2.toNat)):Nat):Int)).toNat) (Q8.mk 0 0 0 0 false false))),(p1.toNat+(p0 - p2.toNat))))))
def s96_1(p0:Nat)(p1 p2:Int)(p3:List Q8):Sp (((List Q8)×Nat)):=.ofFnB 96 [ωa] Z0 Tryz.func96 rfl (fun _=>rfl) (show FnB Pg GG [0,1,2,6,7,16] Tryz.f96 [.ref ωa 0 p0,.i p1,.i p2] (Ext.of .normal (U6 [.ref ωa 0 p0,.i p1,.i p2]) [] [Bt ωa Q5 6 p3] (by rfl)) (g96_1 p0 p1 p2 p3) (fun(r:((List Q8)×Nat))=>.ref ωa 0 r.2) (fun(r:((List Q8)×Nat))=>Ext.of .normal [] [] [Bt ωa Q5 6 r.1] (by rfl)) by unfold FnB;kernel_rfl)
def gDuA(c:Bool)(tie:Int)(now:Int)(next:Int)(ser:Int)(cho:Int)(ls:List Q2)(rs:List Q2)(ps:List Q6)(q:List Int)(nm:List Bool)(ck:List Q8)(m:Nat)(out:List Y6)(i:Int):TT ((List Y6)×(List Q8)×Nat):=
 .chk 3007 (decide (0≤i)&&decide (i < (m:Int))) (.row 4004 Q5 ck (0+i.toNat) true fun x900=>
 .br 0 (decide (x900.fU < 4))
 (.row 5004 Q5 ck (0+i.toNat) true fun x901=>
  .row 5008 Q5 ck (0+i.toNat) true fun x902=>
  .re 5008 (ReW.put 2000006 6 Q5 ck (0+i.toNat) (Q8.mk x902.fp x902.fE x902.gd (Q4 (x901.fU+1)) x902.fF x902.fo)) (.row 6010 Q5 (ck.set (0+i.toNat) (Q8.mk x902.fp x902.fE x902.gd (Q4 (x901.fU+1)) x902.fF x902.fo)) (0+i.toNat) true fun x903=>
  .chk 6012 (decide ((0:Int)≤(Q4 (x903.fU - 1)))) (.row 6016 Q5 (ck.set (0+i.toNat) (Q8.mk x902.fp x902.fE x902.gd (Q4 (x901.fU+1)) x902.fF x902.fo)) (0+i.toNat) true fun x904=>
  .re 6016 (ReW.put 2000006 6 Q5 (ck.set (0+i.toNat) (Q8.mk x902.fp x902.fE x902.gd (Q4 (x901.fU+1)) x902.fF x902.fo)) (0+i.toNat) (Q8.mk x904.fp x904.fE (Q4 (now+(V9 .i64 200 (Q4 (x903.fU - 1))))) x904.fU x904.fF x904.fo)) (.row 7004 Q5 ((ck.set (0+i.toNat) (Q8.mk x902.fp x902.fE x902.gd (Q4 (x901.fU+1)) x902.fF x902.fo)).set (0+i.toNat) (Q8.mk x904.fp x904.fE (Q4 (now+(V9 .i64 200 (Q4 (x903.fU - 1))))) x904.fU x904.fF x904.fo)) (0+i.toNat) true fun x905=>
  .call 7005 (s95 x905 c tie now next ser cho m ls rs ps q nm ((ck.set (0+i.toNat) (Q8.mk x902.fp x902.fE x902.gd (Q4 (x901.fU+1)) x902.fF x902.fo)).set (0+i.toNat) (Q8.mk x904.fp x904.fE (Q4 (now+(V9 .i64 200 (Q4 (x903.fU - 1))))) x904.fU x904.fF x904.fo)) out) [(1000000,2000000),(1000001,2000001),(1000002,2000002),(1000003,2000003),(1000004,2000004),(1000005,2000005),(1000006,2000006),(1000007,1900070)] [(38,500113)] fun r908=>
  .done (r908.1,((ck.set (0+i.toNat) (Q8.mk x902.fp x902.fE x902.gd (Q4 (x901.fU+1)) x902.fF x902.fo)).set (0+i.toNat) (Q8.mk x904.fp x904.fE (Q4 (now+(V9 .i64 200 (Q4 (x903.fU - 1))))) x904.fU x904.fF x904.fo)),r908.2)))))
 (.fail))
def xsDuA(c:Bool)(tie:Int)(now:Int)(next:Int)(ser:Int)(cho:Int)(ls:List Q2)(rs:List Q2)(ps:List Q6)(q:List Int)(nm:List Bool)(ck:List Q8)(m:Nat)(out:List Y6)(i:Int):Ext:=Ext.of .normal [(1,.ptr 1000001 0 0),(2,.i i)] [(1000001,⟨1,true,[[.ptr 2000000 0 0]]⟩),(1700070,⟨1,true,[[.ptr 2000000 0 0]]⟩),(2000000,⟨13,true,[[.bool c,.ref 2000001 0 ls.length,.ref 2000002 0 rs.length,.ref 2000003 0 ps.length,.i tie,.i now,.i next,.i ser,.i cho,.ref 2000004 0 q.length,.ref 2000005 0 nm.length,.ref 2000006 0 m,.ref 1900070 0 out.length]]⟩)] [BT.of 1900070 Z8 12 out true,BT.of 2000001 Q0 8 ls true,BT.of 2000002 Q0 8 rs true,BT.of 2000003 Q3 4 ps true,BT.of 2000004 Z2 1 q true,BT.of 2000005 Z1 1 nm true,BT.of 2000006 Q5 6 ck true] (by rfl)
def xeDuA(c:Bool)(tie:Int)(now:Int)(next:Int)(ser:Int)(cho:Int)(ls:List Q2)(rs:List Q2)(ps:List Q6)(q:List Int)(nm:List Bool)(ck:List Q8)(m:Nat)(out:List Y6)(i:Int):((List Y6)×(List Q8)×Nat)→Ext:=fun(r:(List Y6)×(List Q8)×Nat)=>Ext.of .normal [] [(1000001,⟨1,true,[[.ptr 2000000 0 0]]⟩),(1700070,⟨1,true,[[.ptr 2000000 0 0]]⟩),(2000000,⟨13,true,[[.bool c,.ref 2000001 0 ls.length,.ref 2000002 0 rs.length,.ref 2000003 0 ps.length,.i tie,.i now,.i next,.i ser,.i cho,.ref 2000004 0 q.length,.ref 2000005 0 nm.length,.ref 2000006 0 r.2.2,.ref 500113 0 r.1.length]]⟩)] [BT.of 500113 Z8 12 r.1 true,BT.of 2000001 Q0 8 ls true,BT.of 2000002 Q0 8 rs true,BT.of 2000003 Q3 4 ps true,BT.of 2000004 Z2 1 q true,BT.of 2000005 Z1 1 nm true,BT.of 2000006 Q5 6 r.2.1 true] (by rfl)
theorem kDuA(c:Bool)(tie:Int)(now:Int)(next:Int)(ser:Int)(cho:Int)(ls:List Q2)(rs:List Q2)(ps:List Q6)(q:List Int)(nm:List Bool)(ck:List Q8)(m:Nat)(out:List Y6)(i:Int):Z9 Tryz.prog GG [1,2,3,4,22,60] 158 (rBody duRn) (xsDuA c tie now next ser cho ls rs ps q nm ck m out i) (gDuA c tie now next ser cho ls rs ps q nm ck m out i) (xeDuA c tie now next ser cho ls rs ps q nm ck m out i):=by unfold Z9;kernel_rfl
abbrev duNew:Nat:=500113
def gDuB(c:Bool)(tie:Int)(now:Int)(next:Int)(ser:Int)(cho:Int)(ls:List Q2)(rs:List Q2)(ps:List Q6)(q:List Int)(nm:List Bool)(ck:List Q8)(m:Nat)(out:List Y6)(i:Int):TT ((List Q6)×(List Bool)×(List Q8)×Nat):=
 .chk 3007 (decide (0≤i)&&decide (i < (m:Int))) (.row 4004 Q5 ck (0+i.toNat) true fun x914=>
 .br 0 (decide (x914.fU < 4))
 (.fail)
 (.row 8004 Q5 ck (0+i.toNat) true fun x923=>
  .bind 0
  (.br 0 (x923.fE != cho)
   (.chk 10014 (decide (0≤x923.fE)&&decide (x923.fE < (ps.length:Int))) (.row 10016 Q3 ps (0+x923.fE.toNat) true fun x924=>
    .re 10016 (ReW.put 2000003 4 Q3 ps (0+x923.fE.toNat) (Q6.mk x924.fH x924.fJ x924.ft 4)) (.chk 10017 (decide (0≤x923.fE)&&decide (x923.fE < (nm.length:Int))) (.row 10018 Z1 nm (0+x923.fE.toNat) true fun x925=>
    .re 10018 (ReW.put 2000005 1 Z1 nm (0+x923.fE.toNat) false) (.gh 0 (.len 2000003 ((ps.set (0+x923.fE.toNat) (Q6.mk x924.fH x924.fJ x924.ft 4)).length) [ps.length] (by simp)) (.gh 0 (.len 2000005 ((nm.set (0+x923.fE.toNat) false).length) [nm.length] (by simp)) (.done ((ps.set (0+x923.fE.toNat) (Q6.mk x924.fH x924.fJ x924.ft 4)),(nm.set (0+x923.fE.toNat) false)))))))))
   (.done (ps,nm)))
  (fun(e926:(List Q6)×(List Bool))=>Ext.of .normal [(1,.ptr 1000001 0 0),(2,.i i)] [(1000001,⟨1,true,[[.ptr 2000000 0 0]]⟩),(1700070,⟨1,true,[[.ptr 2000000 0 0]]⟩),(2000000,⟨13,true,[[.bool c,.ref 2000001 0 ls.length,.ref 2000002 0 rs.length,.ref 2000003 0 e926.1.length,.i tie,.i now,.i next,.i ser,.i cho,.ref 2000004 0 q.length,.ref 2000005 0 e926.2.length,.ref 2000006 0 m,.ref 1900070 0 out.length]]⟩)] [BT.of 1900070 Z8 12 out true,BT.of 2000001 Q0 8 ls true,BT.of 2000002 Q0 8 rs true,BT.of 2000003 Q3 4 e926.1 true,BT.of 2000004 Z2 1 q true,BT.of 2000005 Z1 1 e926.2 true,BT.of 2000006 Q5 6 ck true] (by rfl))
  (fun e926=>
   .call 11010 (s96_1 m i (Q4 (i+1)) ck) [(1000000,2000006)] [] fun r927=>
   .done (e926.1,e926.2,r927.1,r927.2))))
def xsDuB(c:Bool)(tie:Int)(now:Int)(next:Int)(ser:Int)(cho:Int)(ls:List Q2)(rs:List Q2)(ps:List Q6)(q:List Int)(nm:List Bool)(ck:List Q8)(m:Nat)(out:List Y6)(i:Int):Ext:=Ext.of .normal [(1,.ptr 1000001 0 0),(2,.i i)] [(1000001,⟨1,true,[[.ptr 2000000 0 0]]⟩),(1700070,⟨1,true,[[.ptr 2000000 0 0]]⟩),(2000000,⟨13,true,[[.bool c,.ref 2000001 0 ls.length,.ref 2000002 0 rs.length,.ref 2000003 0 ps.length,.i tie,.i now,.i next,.i ser,.i cho,.ref 2000004 0 q.length,.ref 2000005 0 nm.length,.ref 2000006 0 m,.ref 1900070 0 out.length]]⟩)] [BT.of 1900070 Z8 12 out true,BT.of 2000001 Q0 8 ls true,BT.of 2000002 Q0 8 rs true,BT.of 2000003 Q3 4 ps true,BT.of 2000004 Z2 1 q true,BT.of 2000005 Z1 1 nm true,BT.of 2000006 Q5 6 ck true] (by rfl)
def xeDuB(c:Bool)(tie:Int)(now:Int)(next:Int)(ser:Int)(cho:Int)(ls:List Q2)(rs:List Q2)(ps:List Q6)(q:List Int)(nm:List Bool)(ck:List Q8)(m:Nat)(out:List Y6)(i:Int):((List Q6)×(List Bool)×(List Q8)×Nat)→Ext:=fun(r:(List Q6)×(List Bool)×(List Q8)×Nat)=>Ext.of .normal [] [(1000001,⟨1,true,[[.ptr 2000000 0 0]]⟩),(1700070,⟨1,true,[[.ptr 2000000 0 0]]⟩),(2000000,⟨13,true,[[.bool c,.ref 2000001 0 ls.length,.ref 2000002 0 rs.length,.ref 2000003 0 r.1.length,.i tie,.i now,.i next,.i ser,.i cho,.ref 2000004 0 q.length,.ref 2000005 0 r.2.1.length,.ref 2000006 0 r.2.2.2,.ref 1900070 0 out.length]]⟩)] [BT.of 1900070 Z8 12 out true,BT.of 2000001 Q0 8 ls true,BT.of 2000002 Q0 8 rs true,BT.of 2000003 Q3 4 r.1 true,BT.of 2000004 Z2 1 q true,BT.of 2000005 Z1 1 r.2.1 true,BT.of 2000006 Q5 6 r.2.2.1 true] (by rfl)
theorem kDuB(c:Bool)(tie:Int)(now:Int)(next:Int)(ser:Int)(cho:Int)(ls:List Q2)(rs:List Q2)(ps:List Q6)(q:List Int)(nm:List Bool)(ck:List Q8)(m:Nat)(out:List Y6)(i:Int):Z9 Tryz.prog GG [1,2,3,4,22,60] 158 (rBody duRn) (xsDuB c tie now next ser cho ls rs ps q nm ck m out i) (gDuB c tie now next ser cho ls rs ps q nm ck m out i) (xeDuB c tie now next ser cho ls rs ps q nm ck m out i):=by unfold Z9;kernel_rfl
structure DuS where
 c:Bool
 tie:Int
 now:Int
 next:Int
 ser:Int
 cho:Int
 ls:List Q2
 rs:List Q2
 ps:List Q6
 q:List Int
 nm:List Bool
 ck:List Q8
 m:Nat
 out:List Y6
def duRow(b o:Nat)(s:DuS):List V:=[.bool s.c,.ref (b+1) 0 s.ls.length,.ref (b+2) 0 s.rs.length,.ref (b+3) 0 s.ps.length,.int .i64 s.tie,.int .i64 s.now,.int .i64 s.next,.int .i64 s.ser,.int .i64 s.cho,
 .ref (b+4) 0 s.q.length,.ref (b+5) 0 s.nm.length,.ref (b+6) 0 s.m,.ref o 0 s.out.length]
def duT1(b:Nat)(s:DuS):List BT:=[BT.of (b+1) Q0 8 s.ls true,BT.of (b+2) Q0 8 s.rs true,BT.of (b+3) Q3 4 s.ps true,BT.of (b+4) Z2 1 s.q true,BT.of (b+5) Z1 1 s.nm true,BT.of (b+6) Q5 6 s.ck true]
def duT(b o:Nat)(s:DuS):List BT:=BT.of o Z8 12 s.out true :: duT1 b s
def duTs:List (Nat×V):=[(1,.ptr 1000001 0 0),(9,.fn 167 [] [.ptr 1700070 0 0])]
def duL(o:Nat)(s:DuS):List (Nat×Blk):=[(1000001,⟨1,true,[[.ptr 2000000 0 0]]⟩),(1700070,⟨1,true,[[.ptr 2000000 0 0]]⟩),(2000000,⟨13,true,[duRow 2000000 o s]⟩)]
def duX(ts:List (Nat×V))(s:DuS):Ext:=Ext.of .normal ts (duL 1900070 s) (duT 2000000 1900070 s) (by rfl)
def duB(s:DuS):List (Nat×Blk):=(duX [] s).bs
def cT:Code→Code
 | .cond _ x _=>x
 | _=>.skip
def duAs:Code:=rAssign duRn
def cDu:Code:=Tryz.f167.body.getD .skip
def dR0:Code:=cL cDu
def dBL:Code:=cB (cB (cR cDu))
def dR1:Code:=cL (cL dBL)
def dBk:Code:=cB (cR dBL)
def dR2:Code:=cL dBk
def dR3:Code:=cL (cL (cR dBk))
def dOps:Array Oper:=rOps dR3
def dR4:Code:=cL (cR (cR dBk))
def dR5:Code:=cT (cR (cR (cR dBk)))
theorem eDu:cDu=.seq dR0 (.block 0 (.loop dBL)):=by kernel_rfl
theorem eDB:dBL=.seq (.seq dR1 (.cond (.tmp 12) .skip (.exit 0))) (.block 1 dBk):=by kernel_rfl
theorem eDk:dBk=.seq dR2 (.seq (.seq dR3 (.cond (.tmp 39) .ret .skip)) (.seq dR4 (.cond (.tmp 47) dR5 .skip))):=by kernel_rfl
theorem eD3:dR3=.region 3 dOps true:=by kernel_rfl
section
variable (s:DuS) (i:Int)
theorem kDuR:Z9 Tryz.prog GG [1,2] 158 duAs (duX ((10,.int .i64 i) :: duTs) s) (.done ():TT Unit) (fun _=>duX [(1,.ptr 1000001 0 0),(2,.int .i64 i)] s):=by unfold Z9;kernel_rfl
def duBody:Option DuS:=
 match (gDuA s.c s.tie s.now s.next s.ser s.cho s.ls s.rs s.ps s.q s.nm s.ck s.m s.out i).run with
 | some r=>some { s with out:=r.1,ck:=r.2.1,m:=r.2.2 }
 | none=>match (gDuB s.c s.tie s.now s.next s.ser s.cho s.ls s.rs s.ps s.q s.nm s.ck s.m s.out i).run with
  | some r=>some { s with ps:=r.1,nm:=r.2.1,ck:=r.2.2.1,m:=r.2.2.2 }
  | none=>none
end
theorem mobDu{s:DuS}{g:St}(h:Gst GG g ((Ext.of .normal [] (duL duNew s) (duT 2000000 duNew s) (by rfl)).D 158).st):Gst GG g (M7 158 (fun _=>.undef) (ofL (duB s))):=
 Gst.trans h (Gst.mob (lits:=duL duNew s) (rest:=(duT1 2000000 s).map fun x=>(x.id,x.k)) (kd:=(BT.of duNew Z8 12 s.out true).k) (d:=duNew) (m:=1900070) (n:=158)
  (by decide) (by decide) (by decide) (by show ([1000001,1700070,2000000,duNew,2000001,2000002,2000003,2000004,2000005,2000006]:List Nat).Nodup;decide) (Z8.data _) (fun p hp=>bts_dat _ hp) (by rfl) (by rfl))
theorem roundDu(s:DuS)(i:Int){s':DuS}(h:duBody s i=some s') :
  RoundT Tryz.prog GG 158 (tOf duTs) [10] duAs (rBody duRn) (ofL (duB s)) [.int .i64 i] (fun e b'=>e=.normal∧b'=ofL (duB s')):=by
 refine⟨((duX [(1,.ptr 1000001 0 0),(2,.int .i64 i)] s).D 158).st,?_,?_⟩
 ·have h:=(kDuR s i).tv Z0 (r:=()) rfl (by rfl)
  have e:((duX ((10,.int .i64 i) :: duTs) s).D 158).st=setP (M7 158 (tOf duTs) (ofL (duB s))) ([10].zip [.int .i64 i]):=by
   rw[D9 (by rfl)]
   exact(setP_susp 158 duTs _ 10 (.int .i64 i)).symm
  rw[e] at h
  exact h
 ·unfold duBody at h
  cases hA:(gDuA s.c s.tie s.now s.next s.ser s.cho s.ls s.rs s.ps s.q s.nm s.ck s.m s.out i).run with
  | some r=>
   rw[hA] at h
   obtain rfl:=ζR h
   refine((kDuA s.c s.tie s.now s.next s.ser s.cho s.ls s.rs s.ps s.q s.nm s.ck s.m s.out i).tv Z0 hA (by rfl)).mono fun e s' hg=>?_
   obtain⟨rfl,g⟩:=hg
   exact⟨_,158,⟨rfl,rfl⟩,mobDu g⟩
  | none=>
   rw[hA] at h
   cases hB:(gDuB s.c s.tie s.now s.next s.ser s.cho s.ls s.rs s.ps s.q s.nm s.ck s.m s.out i).run with
   | none=>rw[hB] at h;cases h
   | some r=>
    rw[hB] at h
    obtain rfl:=ζR h
    refine((kDuB s.c s.tie s.now s.next s.ser s.cho s.ls s.rs s.ps s.q s.nm s.ck s.m s.out i).tv Z0 hB (by rfl)).mono fun e s' hg=>?_
    obtain⟨rfl,g⟩:=hg
    refine⟨_,158,⟨rfl,rfl⟩,?_⟩
    have e:((xeDuB s.c s.tie s.now s.next s.ser s.cho s.ls s.rs s.ps s.q s.nm s.ck s.m s.out i r).D 158).st=M7 158 (fun _=>.undef) (ofL (duB { s with ps:=r.1,nm:=r.2.1,ck:=r.2.2.1,m:=r.2.2.2 })):=by
     rw[D9 (by rfl)];rfl
    rw[e] at g
    exact g
def duArgs(l:Nat):List V:=[.yld l,.ptr 1700070 0 0]
def tDu(l:Nat):List (Nat×V):=[(0,.yld l),(1,.ptr 1700070 0 0)]
section
variable (l:Nat) (s:DuS) (i n:Int)
def xDu0:Ext:=duX (tDu l) s
def xDu1:Ext:=duX (tDu l++[(3,.int .i64 i)]) s
def xDu2:Ext:=duX (tDu l++[(3,.int .i64 i),(12,.bool (decide (i < (s.m:Int))))]) s
def xDu3:Ext:=duX (tDu l++[(3,.int .i64 i),(4,.int .i64 n)]) s
def xDu4:Ext:=duX (tDu l++[(3,.int .i64 i),(4,.int .i64 n),(34,.bool true),(35,.yld l),(36,.int .i64 i)]) s
def xDu5:Ext:=duX (tDu l++[(3,.int .i64 i),(4,.int .i64 n),(39,.bool false)]) s
def xDu6:Ext:=duX (tDu l++[(3,.int .i64 i),(47,.bool ((s.m:Int)==n))]) s
def gRt:TT Unit:=.chk 3007 (decide (0≤i)&&decide (i < (s.m:Int))) (.row 3009 Q5 s.ck (0+i.toNat) true fun x=>.br 3017 (decide (x.gd≤s.now)) (.done ()) .fail)
def gRf:TT Unit:=.chk 3007 (decide (0≤i)&&decide (i < (s.m:Int))) (.row 3009 Q5 s.ck (0+i.toNat) true fun x=>.br 3017 (decide (x.gd≤s.now)) .fail (.done ()))
theorem kDu0:Z9 Tryz.prog GG [0,1,3] 50 dR0 (xDu0 l s) (.done ():TT Unit) (fun _=>xDu1 l s 0):=by unfold Z9;kernel_rfl
theorem kDu1:Z9 Tryz.prog GG [0,1,3,12] 50 dR1 (xDu1 l s i) (.done ():TT Unit) (fun _=>xDu2 l s i):=by unfold Z9;kernel_rfl
theorem kDu2:Z9 Tryz.prog GG [0,1,3,4] 50 dR2 (xDu1 l s i) (.done ():TT Unit) (fun _=>xDu3 l s i (s.m:Int)):=by unfold Z9;kernel_rfl
theorem kDu3:PieceDr Tryz.prog GG [0,1,3,4,34,35,36] 50 3 dOps 18 (xDu3 l s i n) (gRt s i) (fun _=>xDu4 l s i n):=by unfold PieceDr;kernel_rfl
theorem kDu4:Z9 Tryz.prog GG [0,1,3,4,39] 50 dR3 (xDu3 l s i n) (gRf s i) (fun _=>xDu5 l s i n):=by unfold Z9;kernel_rfl
theorem kDu5:Z9 Tryz.prog GG [0,1,3,47] 50 dR4 (xDu3 l s i n) (.done ():TT Unit) (fun _=>xDu6 l s i n):=by unfold Z9;kernel_rfl
theorem kDu6:Z9 Tryz.prog GG [0,1,3] 50 dR5 (xDu1 l s i) (.done ():TT Unit) (fun _=>xDu1 l s (Q4 (i+1))):=by unfold Z9;kernel_rfl
end
def A7(x:DuS×Int):Option ((DuS×Int)⊕DuS):=
 bif decide (x.2 < (x.1.m:Int)) then
  (match (gRt x.1 x.2).run with
  | some _=>(match duBody x.1 x.2 with
   | some s'=>some (.inl (s',bif (s'.m:Int)==(x.1.m:Int) then Q4 (x.2+1) else x.2))
   | none=>none)
  | none=>(match (gRf x.1 x.2).run with
   | some _=>some (.inl (x.1,bif (x.1.m:Int)==(x.1.m:Int) then Q4 (x.2+1) else x.2))
   | none=>none))
 else some (.inr x.1)
def dueM(s:DuS):Option DuS:=I8 A7 FUEL (s,0)
def duYL:YL:=⟨158,tOf duTs,#[10],duAs,rBody duRn⟩
theorem tailDu{L:YL}(l:Nat)(s:DuS)(i n:Int){Q:Exit→YS→Prop}(h:∀st,Gst GG st ((xDu1 l s (bif (s.m:Int)==n then Q4 (i+1) else i)).D 50).st→Q .normal ⟨.normal,st⟩) :
  YT Tryz.prog GG L l (.seq dR4 (.cond (.tmp 47) dR5 .skip)) ⟨.normal,((xDu3 l s i n).D 50).st⟩ Q:=by
 refine YT.seq (YT.piece (kDu5 l s i n) Z0 rfl (by rfl) fun st g=>?_)
 show YT _ _ _ _ _ _ _
 refine YT.gst g ?_
 cases hc:((s.m:Int)==n) with
 | true=>
  rw[hc] at h
  refine YT.cond (b:=true) (by show some (V.bool ((s.m:Int)==n))=_;rw[hc]) ?_
  show YT _ _ _ _ _ _ _
  refine YT.gst (st':=((xDu1 l s i).D 50).st) (M3 (xDu1 l s i) (by rfl) rfl ⟨by rfl,by rfl⟩) ?_
  exact YT.piece (kDu6 l s i) Z0 rfl (by rfl) fun st g=>h st g
 | false=>
  rw[hc] at h
  refine YT.cond (b:=false) (by show some (V.bool ((s.m:Int)==n))=_;rw[hc]) (YT.skip (h _ ?_))
  exact M3 (xDu1 l s i) (by rfl) rfl ⟨by rfl,by rfl⟩
theorem iterDu(s0:DuS){r:DuS}(h:dueM s0=some r):IterT Tryz.prog GG cDu 50 duArgs (ofL (duB s0)) duYL (fun e b=>e=.normal∧b=ofL (duB r)):=by
 refine IterT.of fun l=>?_
 have e0:entry 50 (duArgs l) (ofL (duB s0))=((duX (U6 (duArgs l)) s0).D 50).st:=(entry_ext (x:=duX (U6 (duArgs l)) s0) (by rfl) (by rfl) 50).symm
 rw[e0,eDu]
 show YT _ _ _ _ _ ⟨.normal,((xDu0 l s0).D 50).st⟩ _
 refine YT.seq (YT.piece (kDu0 l s0) Z0 rfl (by rfl) fun st g=>?_)
 show YT _ _ _ _ _ _ _
 refine YT.block ?_
 refine YT.loop (fun m st=>st.x=.normal∧∃y:DuS×Int,Gst GG st.st ((xDu1 l y.1 y.2).D 50).st∧I8 A7 m y=some r) (fun m st hI=>?_) (n:=FUEL) ⟨rfl,(s0,0),g,h⟩
 obtain⟨x,st⟩:=st
 obtain⟨rfl,⟨s,i⟩,g,hit⟩:=hI
 refine YT.gst g ?_
 cases m with
 | zero=>simp[I8] at hit
 | succ m=>
  rw[T6] at hit
  rw[eDB]
  refine YT.seq (YT.seq (YT.piece (kDu1 l s i) Z0 rfl (by rfl) fun st g=>?_))
  show YT _ _ _ _ _ _ _
  refine YT.gst g ?_
  cases hc:decide (i < (s.m:Int)) with
  | false=>
   have hs0:A7 (s,i)=some (.inr s):=by unfold A7;simp only[hc];rfl
   rw[hs0] at hit
   obtain rfl:s=r:=ζR hit
   refine YT.cond (b:=false) (by show some (V.bool (decide (i < (s.m:Int))))=_;rw[hc]) (YT.exit ?_)
   refine⟨.inl rfl,50,tOf (xDu2 l s i).ts,ofL (duB s),?_,rfl,rfl⟩
   show Gst GG ((xDu2 l s i).D 50).st _
   rw[D9 (by rfl) 50]
   exact Gst.same _
  | true=>
   refine YT.cond (b:=true) (by show some (V.bool (decide (i < (s.m:Int))))=_;rw[hc]) (YT.skip ?_)
   show YT _ _ _ _ _ _ _
   refine YT.gst (st':=((xDu1 l s i).D 50).st) (M3 (xDu1 l s i) (by rfl) rfl ⟨by rfl,by rfl⟩) ?_
   rw[eDk]
   refine YT.block (YT.seq (YT.piece (kDu2 l s i) Z0 rfl (by rfl) fun st g=>?_))
   show YT _ _ _ _ _ _ _
   refine YT.gst g ?_
   cases h1:(gRt s i).run with
   | some un=>
    cases h2:duBody s i with
    | none=>
     have hs0:A7 (s,i)=none:=by unfold A7;simp only[hc,h1,h2];rfl
     rw[hs0] at hit;simp at hit
    | some s'=>
     have hs0:A7 (s,i)=some (.inl (s',bif (s'.m:Int)==(s.m:Int) then Q4 (i+1) else i)):=by unfold A7;simp only[hc,h1,h2];rfl
     rw[hs0] at hit
     rw[eD3]
     refine YT.seq (YT.seq (PieceDr.yt (kDu3 l s i (s.m:Int)) Z0 h1 (by rfl) rfl ?_))
     show H1 _ _ _ _ _ [18,19,20] _ _
     rw[D9 (x:=xDu4 l s i (s.m:Int)) (by rfl) 50]
     refine H1.yieldG (hi:=rfl) rfl rfl rfl rfl rfl rfl rfl ?_ ?_ ?_ rfl (roundDu s i h2) ?_ ?_
     ·exact fun i=>S6 (by rfl) i
     ·exact fun i=>S6 (by rfl) i
     ·intro p hp
      have:p∈[10]:=hp
      simp at this
      subst this
      exact(by decide:10 < 158)
     ·exact fun e b' h=>.inl h.1
     ·intro e b' h
      obtain⟨rfl,rfl⟩:=h
      refine H1.step rfl (H1.step rfl (H1.nil ?_))
      show YT _ _ _ _ _ _ _
      refine YT.cond (b:=false) rfl (YT.skip ?_)
      show YT _ _ _ _ _ _ _
      refine YT.gst (st':=((xDu3 l s' i (s.m:Int)).D 50).st) (M3 (xDu3 l s' i (s.m:Int)) (by rfl) rfl ⟨by rfl,by rfl⟩) ?_
      exact tailDu l s' i (s.m:Int) fun st g=>⟨m,Nat.lt_succ_self m,rfl,(s',_),g,hit⟩
   | none=>
    cases h3:(gRf s i).run with
    | none=>
     have hs0:A7 (s,i)=none:=by unfold A7;simp only[hc,h1,h3];rfl
     rw[hs0] at hit;simp at hit
    | some un=>
     have hs0:A7 (s,i)=some (.inl (s,bif (s.m:Int)==(s.m:Int) then Q4 (i+1) else i)):=by unfold A7;simp only[hc,h1,h3];rfl
     rw[hs0] at hit
     refine YT.seq (YT.seq (YT.piece (kDu4 l s i (s.m:Int)) Z0 h3 (by rfl) fun st g=>?_))
     show YT _ _ _ _ _ _ _
     refine YT.gst g ?_
     refine YT.cond (b:=false) rfl (YT.skip ?_)
     show YT _ _ _ _ _ _ _
     refine YT.gst (st':=((xDu3 l s i (s.m:Int)).D 50).st) (M3 (xDu3 l s i (s.m:Int)) (by rfl) rfl ⟨by rfl,by rfl⟩) ?_
     exact tailDu l s i (s.m:Int) fun st g=>⟨m,Nat.lt_succ_self m,rfl,(s,_),g,hit⟩
def dfTs:List (Nat×V):=[(1,.ptr 1 0 0)]
def dfL(s:DuS):List (Nat×Blk):=[(1,⟨1,true,[[.ptr 1000000 0 0]]⟩),(1000000,⟨13,true,[duRow 1000000 900070 s]⟩)]
def dfL2(s:DuS):List (Nat×Blk):=[(1,⟨1,true,[[.ptr 1000000 0 0]]⟩),(700070,⟨1,true,[[.ptr 1000000 0 0]]⟩),(1000000,⟨13,true,[duRow 1000000 900070 s]⟩)]
def xDf(s:DuS):Ext:=Ext.of .normal (dfTs++[(9,.fn 167 [] [.ptr 700070 0 0])]) (dfL2 s) (duT 1000000 900070 s) (by rfl)
def eDf(s:DuS):Ext:=Ext.of .normal dfTs (dfL s) (duT 1000000 900070 s) (by rfl)
theorem bsDu(s:DuS):shB (ofL (xDf s).bs)=ofL (duB s):=by
 rw[shB_ofL]
 have:((xDf s).bs.map fun p=>(sh p.1,p.2.ren sh))=duB s:=by
  simp only[xDf,Ext.of,dfL2,duT,duT1,List.cons_append,List.nil_append,ξf,List.map_nil,BT.of,Blk.ren,sh_rows]
  kernel_rfl
 rw[this]
theorem loopDu(s:DuS){r:DuS}(h:dueM s=some r):TV Tryz.prog GG (.rangeFunc (.tmp 9) #[10] duAs (rBody duRn)) ((xDf s).D 158).st (fun e st=>e=.normal∧Gst GG st ((eDf r).D 158).st):=by
 have ht:(fun i=>W5 sh (((xDf s).D 158).st.t i))=tOf duTs:=by
  have:((xDf s).D 158).st.t=tOf (xDf s).ts:=rfl
  rw[this,tOf_shift]
  have:((xDf s).ts.map fun p=>(p.1,W5 sh p.2))=duTs:=by kernel_rfl
  rw[this]
 have hb:Tryz.f167.body=some cDu:=by kernel_rfl
 refine TV.rangeF (f:=167) (fi:=Tryz.f167) (c:=cDu) (first:=[]) (caps:=[.ptr 1700070 0 0]) (R:=fun e b=>e=.normal∧b=ofL (duB r)) ?_ Tryz.func167 hb (by kernel_rfl) (by kernel_rfl) ?_ (fun i=>?_) ?_ ?_
 ·show some ((fun i=>W5 sh (((xDf s).D 158).st.t i)) 9)=_
  rw[ht];rfl
 ·intro b k hk
  obtain⟨q,h1,rfl,_⟩:=find_b (show ofL (xDf s).bs b=some k from hk)
  show (((xDf s).us).contains q.1 || uTop q.1)=true
  simp only[Ext.us,ζX,ζD,ζF]
  exact .inl (ζt.2 ⟨q,h1,rfl⟩)
 ·have:=congrFun ht i
  rw[show W5 sh (((xDf s).D 158).st.t i)=tOf duTs i from this]
  exact S6 (by rfl) i
 ·have hbb:shB ((xDf s).D 158).st.b=ofL (duB s):=bsDu s
  rw[ht,hbb]
  have e:max Tryz.f167.ntmps (([]:List V).length+1+[V.ptr 1700070 0 0].length)=50:=by kernel_rfl
  rw[e]
  exact iterDu s h
 ·intro e b' ho
  obtain⟨rfl,rfl⟩:=ho
  refine⟨.inl rfl,ofL (xDf r).bs,(bsDu r).symm,?_,rfl,?_⟩
  ·show (G0 158 (xDf s).ts (xDf r).bs (xDf s).us).known
   refine⟨fun i b hm=>?_,fun i k hk=>?_⟩
   ·have hm':b∈U2 (tOf (xDf s).ts i):=hm
    unfold tOf at hm'
    cases hf:(xDf s).ts.find? (fun p=>p.1==i) with
    | none=>rw[hf] at hm';simp[U2] at hm'
    | some p=>
     rw[hf] at hm'
     have all:((xDf s).ts.all fun p=>(U2 p.2).all fun b=>(xDf s).us.contains b)=true:=by rfl
     have:=ζE.1 (ζE.1 all p (ξh hf)) b hm'
     show ((xDf s).us.contains b || uTop b)=true
     rw[this];rfl
   ·obtain⟨q,h1,rfl,rfl⟩:=find_b (show ofL (xDf r).bs i=some k from hk)
    have husl:(xDf r).us=(xDf s).us:=rfl
    refine⟨?_,fun b hm=>?_⟩
    ·show ((xDf s).us.contains q.1 || uTop q.1)=true
     rw[←husl]
     simp only[Ext.us,ζX,ζD,ζF]
     exact .inl (ζt.2 ⟨q,h1,rfl⟩)
    ·have:q∈dfL2 r++(duT 1000000 900070 r).map fun x=>(x.id,x.k):=h1
     rcases ζr.1 this with h2|h2
     ·have all:((dfL2 r).all fun q=>(H7 q.2.rows.flatten).all fun b=>(xDf s).us.contains b)=true:=by rfl
      have:=ζE.1 (ζE.1 all q h2) b hm
      show ((xDf s).us.contains b || uTop b)=true
      rw[this];rfl
     ·have hdat:=bts_dat _ h2
      rw[hdat.refs] at hm;simp at hm
  ·show Gst GG (G0 158 (xDf s).ts (xDf r).bs (xDf s).us) _
   exact M3 (eDf r) (by rfl) rfl ⟨by rfl,by rfl⟩
def subDue(s:DuS):Sub Tryz.prog GG DuS:=
 ⟨.rangeFunc (.tmp 9) #[10] duAs (rBody duRn),158,xDf s,dueM s,eDf,fun _ h=>loopDu s h⟩
end Go.Proofs.YtjpahkpfkohfkaaGreatDoor
