/- Guides and contracts, printed by a program. When a candidate is valid: the program and its reference hold one condition. No conditions. When a checkl ..; no conditions. -/
import Derived.Test.YtjpahkpfkohfkaaGreatDoorF10
import Derived.Test.YtjpahkpfkohfkaaGreatDoorF6
import Derived.Test.YtjpahkpfkohfkaaGreatDoorF8
import Derived.KernelRfl
set_option linter.unusedVariables false
set_option linter.unusedSimpArgs false
set_option maxRecDepth 100000
noncomputable section
namespace Go.Proofs.YtjpahkpfkohfkaaGreatDoor
open Go Go.EV
structure SCheck where
 gq:Int
 gt:Bool
structure C7 where
 fk:SCheck
 fv:Bool
structure Q8 where
 fp:Int
 fE:Int
 gd:Int
 fU:Int
 fF:Bool
 fo:Bool
structure Y0 where
 fc:Y3
 fC:Int
 fP:Int
 fK:Int
 fI:Int
 fV:Int
 fN:(List Int)
 fQ:(List Bool)
 fA:(List Q8)
structure Y6 where
 gb:Z7
 gc:Z7
 fj:U7
def Z1:Ty Bool:=⟨fun x=>[.bool x],fun x=>[.bool x],fun _=>rfl,fun _=>rfl,fun _ _=>rfl,fun _=>rfl⟩
def tySEnt230:Ty C7:=⟨fun x=>[.i x.fk.gq,.bool x.fk.gt,.bool x.fv],fun x=>[.i x.fk.gq,.bool x.fk.gt,.bool x.fv],fun _=>rfl,fun _=>rfl,fun _ _=>rfl,fun _=>rfl⟩
def Z2:Ty Int:=⟨fun x=>[.i x],fun x=>[.i x],fun _=>rfl,fun _=>rfl,fun _ _=>rfl,fun _=>rfl⟩
def Q5:Ty Q8:=⟨fun x=>[.i x.fp,.i x.fE,.i x.gd,.i x.fU,.bool x.fF,.bool x.fo],fun x=>[.i x.fp,.i x.fE,.i x.gd,.i x.fU,.bool x.fF,.bool x.fo],fun _=>rfl,fun _=>rfl,fun _ _=>rfl,fun _=>rfl⟩
def Z8:Ty Y6:=⟨fun x=>[.str x.gb.fe,.i x.gb.fh,.str x.gc.fe,.i x.gc.fh,.i x.fj.fy,.i x.fj.fp,.i x.fj.ft,.bool x.fj.fo,.i x.fj.fC,.bool x.fj.fF,.str x.fj.fO.fe,.i x.fj.fO.fh],fun x=>[.str x.gb.fe,.i x.gb.fh,.str x.gc.fe,.i x.gc.fh,.i x.fj.fy,.i x.fj.fp,.i x.fj.ft,.bool x.fj.fo,.i x.fj.fC,.bool x.fj.fF,.str x.fj.fO.fe,.i x.fj.fO.fh],fun _=>rfl,fun _=>rfl,fun _ _=>rfl,fun _=>rfl⟩
def s85(p0:Q2):Sp (Bool):=.ofFn 85 Z0 Tryz.func85 (show FnD Pg GG [0,1,2] Tryz.f85 [.agg (Q0.c p0)] (.done (p0.fX != 1):TT (Bool)) (fun r=>.bool r) by unfold FnD;kernel_rfl)
def g102_1(p0:List Q2):TT (Int):=.bind2 1 (.lp (fun(l543:Int)=>Ext.l .normal [(0,Sl 8 Q0 p0),(1,.fn 85 [] []),(4,.i 0),(7,.i (Y9 Q0 p0)),(8,.i l543)] []) (fun l543=>.br 0 (decide (l543 < (Y9 Q0 p0))) (.row 4004 Q0 p0 l543.toNat (decide (0≤l543)) fun x544=>.call 4006 (s85 x544) [] [] fun r545=>.br 0 r545 (.done (.inr (.inl l543))) (.done (.inl (Q4 (l543+1))))) (.done (.inr (.inr ())))) 0) (fun(e546:Int)=>Ext.l .ret [(4,.i e546)] []) (fun(e547:Unit)=>Ext.l (.exit 0) [(4,.i 0)] []) (fun e546=>.done e546) (fun e547=>.done (-1))
def s102_1(p0:List Q2):Sp (Int):=.ofFn 102 Z0 Tryz.func102 (show FnD Pg GG [0,1,4,5,7,8,9,16] Tryz.f102 [Sl 8 Q0 p0,.fn 85 [] []] (g102_1 p0) (fun r=>.int .i64 r) by unfold FnD;kernel_rfl)
def g50(p0:List Q2):TT (Int):=.call 1003 (s102_1 p0) [] [] fun r548=>.done r548
def s50(p0:List Q2):Sp (Int):=.ofFn 50 Z0 Tryz.func50 (show FnD Pg GG [0,1,4] Tryz.f50 [Sl 8 Q0 p0,.fn 85 [] []] (g50 p0) (fun r=>.int .i64 r) by unfold FnD;kernel_rfl)
def s88(p0:Bool)(p1 p2:List Q2)(p3:List Q6)(p4 p5 p6 p7 p8:Int)(p9:List Bool):Sp (Bool):=.ofFn 88 Z0 Tryz.func88 (show FnD Pg GG [0,2,3,4,6,12,13,14,15,75] Tryz.f88 [.snap [.bool p0,Sl 8 Q0 p1,Sl 8 Q0 p2,Sl 4 Q3 p3,.i p4,.i p5,.i p6,.i p7,.i p8,.nilsl,Sl 1 Z1 p9,.nilsl,.nilsl]] (.opr 1001 (Rule.makeMap 230 7 ωl (by decide)) fun _=>.ff (.done true):TT (Bool)) (fun r=>.bool r) by unfold FnD;kernel_rfl)
def g34(p0:Bool)(p1 p2:List Q2)(p3:List Q6)(p4 p5 p6 p7 p8:Int)(p9:List Bool):TT (Bool):=.cnd 2 [35] (.call 2006 (s86 (Y3.mk p0 p1 p2 p3)) [] [] fun r539=>.br 2009 (r539 != 0) (.done true) (.call 2016 (s50 p1) [] [] fun r549=>.br 2020 (decide ((0:Int)≤r549)) (.done true) (.call 2027 (s50 p2) [] [] fun r550=>.done (decide ((0:Int)≤r550))))) (fun(c551:Bool)=>[.bool c551]) fun c551=>.br 0 c551 (.done false) (.cnd 5 [97] (.call 5006 (s39 p4 0 281474976710655) [] [] fun r552=>.br 5009 (!r552) (.done true) (.call 5014 (s39 p5 0 1099511627776) [] [] fun r553=>.br 5018 (!r553) (.done true) (.call 5023 (s39 p6 0 1099511627826) [] [] fun r554=>.br 5027 (!r554) (.done true) (.call 5032 (s39 p7 0 1099511627776) [] [] fun r555=>.br 5036 (!r555) (.done true) (.br 5046 ((Y9 Z1 p9) != (Y9 Q3 p3)) (.done true) (.call 5053 (s39 p8 (-1) (Q4 ((Y9 Q3 p3) - 1))) [] [] fun r556=>.done (!r556))))))) (fun(c557:Bool)=>[.bool c557]) fun c557=>.br 0 c557 (.done false) (.cnd 7 [120] (.br 7008 (decide ((0:Int)≤p8)) (.row 7019 Q3 p3 p8.toNat (decide (0≤p8)) fun x558=>.done (x558.fD != 3)) (.done false)) (fun(c559:Bool)=>[.bool c559]) fun c559=>.br 0 c559 (.done false) (.ff (.call 15002 (s88 p0 p1 p2 p3 p4 p5 p6 p7 p8 p9) [] [] fun r560=>.done r560))))
def s34(p0:Bool)(p1 p2:List Q2)(p3:List Q6)(p4 p5 p6 p7 p8:Int)(p9:List Bool):Sp (Bool):=.ofFn 34 Z0 Tryz.func34 (show FnD Pg GG [0,2,3,4,5,6,35,97,120,125,126,127,128,147] Tryz.f34 [.snap [.bool p0,Sl 8 Q0 p1,Sl 8 Q0 p2,Sl 4 Q3 p3,.i p4,.i p5,.i p6,.i p7,.i p8,.nilsl,Sl 1 Z1 p9,.nilsl,.nilsl]] (g34 p0 p1 p2 p3 p4 p5 p6 p7 p8 p9) (fun r=>.bool r) by unfold FnD;kernel_rfl)
def g9(p0 p1:List Q2)(p2:Bool)(p3 p4:Int):TT (Y0×Int):=.call 1004 (s33 p0 p1 p2) [] [] fun r538=>.br 0 (r538.2 != 0) (.done ((Y0.mk (Y3.mk false [] [] []) 0 0 0 0 0 [] [] []),r538.2)) (.opr 4008 (Rule.makeD (ty:=Z1) (t:=32) (e:=4) (zv:=.bool false) (zc:=.bool false) false (.tmp 33) (.tmp 33) 34 (Y9 Q3 r538.1.fm) (Y9 Q3 r538.1.fm) 1 (by kernel_rfl) (by kernel_rfl) (by kernel_rfl) rfl ⟨rfl,rfl,rfl⟩ (fun _ _=>by constructor)) fun _=>.gh 7 (.len 34 ((List.replicate (Y9 Q3 r538.1.fm).toNat false).length) [(Y9 Q3 r538.1.fm).toNat] (by simp)) (.view 6002 (s34 r538.1.fo r538.1.fu r538.1.fw r538.1.fm p3 p4 p4 0 (-1) (List.replicate (Y9 Q3 r538.1.fm).toNat false)) [(VwW.o 34 Z1 (List.replicate (Y9 Q3 r538.1.fm).toNat false))] fun r561=>.br 0 (!r561) (.done ((Y0.mk (Y3.mk false [] [] []) 0 0 0 0 0 [] [] []),2)) (.gh 0 (.share (VwW.o 34 Z1 (List.replicate (Y9 Q3 r538.1.fm).toNat false)) 2) (.done ((Y0.mk r538.1 p3 p4 p4 0 (-1) [] (List.replicate (Y9 Q3 r538.1.fm).toNat false) []),0)))))
theorem k9(p0 p1:List Q2)(p2:Bool)(p3 p4:Int):FnD Tryz.prog GG [0,1,2,3,4,10,11,12,13,14,15,24,41] Tryz.f9 [.sl false 8 (List.map Q0.c p0),.sl false 8 (List.map Q0.c p1),.bool p2,.int .i64 p3,.int .i64 p4] (g9 p0 p1 p2 p3 p4) (fun r=>.tup [.agg [.bool r.1.fc.fo,.sl false 8 (List.map Q0.c r.1.fc.fu),.sl false 8 (List.map Q0.c r.1.fc.fw),.sl false 4 (List.map Q3.c r.1.fc.fm),.int .i64 r.1.fC,.int .i64 r.1.fP,.int .i64 r.1.fK,.int .i64 r.1.fI,.int .i64 r.1.fV,.sl false 1 (List.map Z2.c r.1.fN),.sl false 1 (List.map Z1.c r.1.fQ),.sl false 6 (List.map Q5.c r.1.fA)],.int .i64 r.2]):=by unfold FnD;kernel_rfl
def s9(p0 p1:List Q2)(p2:Bool)(p3 p4:Int):Sp (Y0×Int):=.ofFn 9 Z0 Tryz.func9 (k9 p0 p1 p2 p3 p4)
def s161(p0:List Int)(p1:Int):Sp (Int):=.ofFn 161 Z0 Tryz.func161 (show FnD Pg GG [0,1,4,5,7,8,9,16] Tryz.f161 [Sl 1 Z2 p0,.i p1] (.bind2 1 (.lp (fun(l579:Int)=>Ext.l .normal [(0,Sl 1 Z2 p0),(1,.i p1),(4,.i 0),(7,.i (Y9 Z2 p0)),(8,.i l579)] []) (fun l579=>.br 0 (decide (l579 < (Y9 Z2 p0))) (.row 4004 Z2 p0 l579.toNat (decide (0≤l579)) fun x580=>.br 0 (p1==x580) (.done (.inr (.inl l579))) (.done (.inl (Q4 (l579+1))))) (.done (.inr (.inr ())))) 0) (fun(e581:Int)=>Ext.l .ret [(4,.i e581)] []) (fun(e582:Unit)=>Ext.l (.exit 0) [(4,.i 0)] []) (fun e581=>.done e581) (fun e582=>.done (-1)):TT (Int)) (fun r=>.int .i64 r) by unfold FnD;kernel_rfl)
def s87(p0:List Int)(p1:Int):Sp (Bool):=.ofFn 87 Z0 Tryz.func87 (show FnD Pg GG [0,1,4] Tryz.f87 [Sl 1 Z2 p0,.i p1] (.call 1003 (s161 p0 p1) [] [] fun r583=>.done (decide ((0:Int)≤r583)):TT (Bool)) (fun r=>.bool r) by unfold FnD;kernel_rfl)
def g88_1(p0:Bool)(p1 p2:List Q2)(p3:List Q6)(p4 p5 p6 p7 p8:Int)(p9:List Int)(p10:List Bool)(p11:List Q8):TT (Bool):=.opr 1001 (Rule.makeMap 230 7 ωl (by decide)) fun _=>.bind2 1 (.lp (fun(l592:(List C7)×Int×Int)=>Ext.of .normal [(0,.snap [.bool p0,Sl 8 Q0 p1,Sl 8 Q0 p2,Sl 4 Q3 p3,.i p4,.i p5,.i p6,.i p7,.i p8,Sl 1 Z2 p9,Sl 1 Z1 p10,Sl 6 Q5 p11,.nilsl]),(2,.bool false),(3,.mp 7),(4,.i l592.2.1),(12,Sl 6 Q5 p11),(13,.i (Y9 Q5 p11)),(14,.i l592.2.2)] [] [Bt 7 tySEnt230 ωl l592.1] (by rfl)) (fun l592=>.br 0 (decide (l592.2.2 < (Y9 Q5 p11))) (.row 5001 Q5 p11 l592.2.2.toNat (decide (0≤l592.2.2)) fun x593=>.cnd 6 [75] (.br 6006 (decide (x593.fp≤l592.2.1)) (.done true) (.br 6016 (decide (p7≤x593.fp)) (.done true) (.call 6026 (s39 x593.fE 0 (Q4 ((Y9 Q3 p3) - 1))) [] [] fun r594=>.br 6030 (!r594) (.done true) (.call 6032 (s39 x593.gd 0 1099511629376) [] [] fun r595=>.br 6036 (!r595) (.done true) (.call 6038 (s39 x593.fU 1 4) [] [] fun r596=>.br 6042 (!r596) (.done true) (.br 6045 x593.fF (.br 6051 (!x593.fo) (.done true) (.opr 6057 (Rule.look (mt:=230) (kt:=232) (et:=4) (z:=ωl) (ty:=tySEnt230) (p:=(fun x=>((x593.fE==x.fk.gq)&&((x593.fF==x.fk.gt)&&true)))) (kc:=[.int .i64 x593.fE,.bool x593.fF]) (.tmp 68) (.tmp 73) 74 7 true l592.1 (.bool false) (.bool (K8 l592.1 (fun x=>((x593.fE==x.fk.gq)&&((x593.fF==x.fk.gt)&&true))) (fun x=>x.fv) false)) ⟨by kernel_rfl,by kernel_rfl,by kernel_rfl,fun _=>by kernel_rfl⟩ (by kernel_rfl) (R8 _ _ (fun x:C7=>x.fv) false V.bool)) fun _=>.done (K8 l592.1 (fun x=>((x593.fE==x.fk.gq)&&((x593.fF==x.fk.gt)&&true))) (fun x=>x.fv) false))) (.opr 6057 (Rule.look (mt:=230) (kt:=232) (et:=4) (z:=ωl) (ty:=tySEnt230) (p:=(fun x=>((x593.fE==x.fk.gq)&&((x593.fF==x.fk.gt)&&true)))) (kc:=[.int .i64 x593.fE,.bool x593.fF]) (.tmp 68) (.tmp 73) 74 7 true l592.1 (.bool false) (.bool (K8 l592.1 (fun x=>((x593.fE==x.fk.gq)&&((x593.fF==x.fk.gt)&&true))) (fun x=>x.fv) false)) ⟨by kernel_rfl,by kernel_rfl,by kernel_rfl,fun _=>by kernel_rfl⟩ (by kernel_rfl) (R8 _ _ (fun x:C7=>x.fv) false V.bool)) fun _=>.done (K8 l592.1 (fun x=>((x593.fE==x.fk.gq)&&((x593.fF==x.fk.gt)&&true))) (fun x=>x.fv) false)))))))) (fun(c597:Bool)=>[.bool c597]) fun c597=>.br 0 c597 (.done (.inr (.inl ()))) (.opr 8010 (Rule.put (mt:=230) (kt:=232) (et:=4) (z:=ωl) (ty:=tySEnt230) (p:=(fun x=>((x593.fE==x.fk.gq)&&((x593.fF==x.fk.gt)&&true)))) (kc:=[.int .i64 x593.fE,.bool x593.fF]) (.tmp 76) (.tmp 81) (.const (.bool true)) 7 l592.1 (C7.mk (SCheck.mk x593.fE x593.fF) true) [.bool true] ⟨by kernel_rfl,by kernel_rfl,by kernel_rfl,fun _=>by kernel_rfl⟩ (by rfl) (by kernel_rfl) (by kernel_rfl) (by decide) (by decide)) fun _=>.done (.inl ((mput l592.1 (fun x=>((x593.fE==x.fk.gq)&&((x593.fF==x.fk.gt)&&true))) (C7.mk (SCheck.mk x593.fE x593.fF) true)),x593.fp,(Q4 (l592.2.2+1)))))) (.done (.inr (.inr ())))) ([],(-1),0)) (fun(e598:Unit)=>Ext.l .ret [(2,.bool false)] []) (fun(e599:Unit)=>Ext.l (.exit 0) [(2,.bool false)] []) (fun e598=>.done false) (fun e599=>.done true)
def s88_1(p0:Bool)(p1 p2:List Q2)(p3:List Q6)(p4 p5 p6 p7 p8:Int)(p9:List Int)(p10:List Bool)(p11:List Q8):Sp (Bool):=.ofFn 88 Z0 Tryz.func88 (show FnD Pg GG [0,2,3,4,6,12,13,14,15,75] Tryz.f88 [.snap [.bool p0,Sl 8 Q0 p1,Sl 8 Q0 p2,Sl 4 Q3 p3,.i p4,.i p5,.i p6,.i p7,.i p8,Sl 1 Z2 p9,Sl 1 Z1 p10,Sl 6 Q5 p11,.nilsl]] (g88_1 p0 p1 p2 p3 p4 p5 p6 p7 p8 p9 p10 p11) (fun r=>.bool r) by unfold FnD;kernel_rfl)
def g34_1(p0:Bool)(p1 p2:List Q2)(p3:List Q6)(p4 p5 p6 p7 p8:Int)(p9:List Int)(p10:List Bool)(p11:List Q8):TT (Bool):=.cnd 2 [35] (.call 2006 (s86 (Y3.mk p0 p1 p2 p3)) [] [] fun r562=>.br 2009 (r562 != 0) (.done true) (.call 2016 (s50 p1) [] [] fun r563=>.br 2020 (decide ((0:Int)≤r563)) (.done true) (.call 2027 (s50 p2) [] [] fun r564=>.done (decide ((0:Int)≤r564))))) (fun(c565:Bool)=>[.bool c565]) fun c565=>.br 0 c565 (.done false) (.cnd 5 [97] (.call 5006 (s39 p4 0 281474976710655) [] [] fun r566=>.br 5009 (!r566) (.done true) (.call 5014 (s39 p5 0 1099511627776) [] [] fun r567=>.br 5018 (!r567) (.done true) (.call 5023 (s39 p6 0 1099511627826) [] [] fun r568=>.br 5027 (!r568) (.done true) (.call 5032 (s39 p7 0 1099511627776) [] [] fun r569=>.br 5036 (!r569) (.done true) (.br 5046 ((Y9 Z1 p10) != (Y9 Q3 p3)) (.done true) (.call 5053 (s39 p8 (-1) (Q4 ((Y9 Q3 p3) - 1))) [] [] fun r570=>.done (!r570))))))) (fun(c571:Bool)=>[.bool c571]) fun c571=>.br 0 c571 (.done false) (.cnd 7 [120] (.br 7008 (decide ((0:Int)≤p8)) (.row 7019 Q3 p3 p8.toNat (decide (0≤p8)) fun x572=>.done (x572.fD != 3)) (.done false)) (fun(c573:Bool)=>[.bool c573]) fun c573=>.br 0 c573 (.done false) (.bind2 1 (.lp (fun(l579:Int)=>Ext.l .normal [(0,.snap [.bool p0,Sl 8 Q0 p1,Sl 8 Q0 p2,Sl 4 Q3 p3,.i p4,.i p5,.i p6,.i p7,.i p8,Sl 1 Z2 p9,Sl 1 Z1 p10,Sl 6 Q5 p11,.nilsl]),(2,.bool false),(4,.i (Y9 Q3 p3)),(125,Sl 1 Z2 p9),(126,.i (Y9 Z2 p9)),(127,.i l579)] []) (fun l579=>.br 0 (decide (l579 < (Y9 Z2 p9))) (.row 11002 Z2 p9 l579.toNat (decide (0≤l579)) fun x580=>.cnd 12 [147] (.call 12004 (s39 x580 0 (Q4 ((Y9 Q3 p3) - 1))) [] [] fun r581=>.br 12007 (!r581) (.done true) (.chk 12013 (decide (0≤l579)&&decide (l579≤((mlenn Z2 p9):Int))) (.re 12013 (ReW.cutHi 144 1 Z2 p9 l579.toNat) (.call 12015 (s87 (p9.take l579.toNat) x580) [] [] fun r582=>.done r582)))) (fun(c583:Bool)=>[.bool c583]) fun c583=>.br 0 c583 (.done (.inr (.inl ()))) (.done (.inl (Q4 (l579+1))))) (.done (.inr (.inr ())))) 0) (fun(e584:Unit)=>Ext.l .ret [(0,.snap [.bool p0,Sl 8 Q0 p1,Sl 8 Q0 p2,Sl 4 Q3 p3,.i p4,.i p5,.i p6,.i p7,.i p8,Sl 1 Z2 p9,Sl 1 Z1 p10,Sl 6 Q5 p11,.nilsl]),(2,.bool false)] []) (fun(e585:Unit)=>Ext.l (.exit 0) [(0,.snap [.bool p0,Sl 8 Q0 p1,Sl 8 Q0 p2,Sl 4 Q3 p3,.i p4,.i p5,.i p6,.i p7,.i p8,Sl 1 Z2 p9,Sl 1 Z1 p10,Sl 6 Q5 p11,.nilsl]),(2,.bool false)] []) (fun e584=>.done false) (fun e585=>.call 15002 (s88_1 p0 p1 p2 p3 p4 p5 p6 p7 p8 p9 p10 p11) [] [] fun r600=>.done r600))))
def s34_1(p0:Bool)(p1 p2:List Q2)(p3:List Q6)(p4 p5 p6 p7 p8:Int)(p9:List Int)(p10:List Bool)(p11:List Q8):Sp (Bool):=.ofFn 34 Z0 Tryz.func34 (show FnD Pg GG [0,2,3,4,5,6,35,97,120,125,126,127,128,147] Tryz.f34 [.snap [.bool p0,Sl 8 Q0 p1,Sl 8 Q0 p2,Sl 4 Q3 p3,.i p4,.i p5,.i p6,.i p7,.i p8,Sl 1 Z2 p9,Sl 1 Z1 p10,Sl 6 Q5 p11,.nilsl]] (g34_1 p0 p1 p2 p3 p4 p5 p6 p7 p8 p9 p10 p11) (fun r=>.bool r) by unfold FnD;kernel_rfl)
def g90(p0:List Int):TT Unit:=.app 3003 Z2 [] p0 8 true (by intros;rfl) (.done ())
theorem k90y:Z9 Tryz.prog GG [2] 8 (I7 Tryz.f90.body) (Ext.l .normal [(2,.nilsl)] []) (.done ():TT Unit) (fun _=>Ext.l .ret [(2,.nilsl)] []):=by unfold Z9;kernel_rfl
theorem k90r(p0:List Int):Z9 Tryz.prog GG [0,2,5,6,7] 8 (D2 Tryz.f90.body) (Ext.l .normal [(0,.sl false 1 (List.map Z2.c p0)),(2,.nilsl)] []) (g90 p0) (fun _=>Ext.of .ret [(2,.ref 7 0 ([]++p0).length)] [] [BT.of 7 Z2 1 ([]++p0)] (by rfl)):=by unfold Z9;kernel_rfl
theorem k90(p0:(List Int)){r:Unit}(h:(g90 p0).run=some r):CallC Tryz.prog GG 90 [.sl false 1 (List.map Z2.c p0)] (ofL []) (.ref 7 0 p0.length) (ofL [(7,⟨1,true,List.map Z2.c p0⟩)]):=
 clone_ok (ty:=Z2) (ops0:=T9 Tryz.f90.body) (ops1:=T8 Tryz.f90.body) (yes:=I7 Tryz.f90.body) (rest:=D2 Tryz.f90.body) (t:=31) Z0 (by decide) Tryz.func90 (by kernel_rfl) (by kernel_rfl) (by kernel_rfl) (by kernel_rfl) (by kernel_rfl) (by kernel_rfl) (by kernel_rfl) (by kernel_rfl) (by kernel_rfl) k90y (k90r p0) (by rfl) h
def s90(p0:List Int):Sp Unit:=⟨90,[Sl 1 Z2 p0],[],(g90 p0).run,fun _=>Rf 7 p0,fun _=>[(7,⟨1,true,List.map Z2.c p0⟩)],[7],fun _ p hp _=>by rw[ζu.1 hp];exact Z2.data _,fun _ h=>k90 p0 h⟩
def g91(p0:List Bool):TT Unit:=.app 3003 Z1 [] p0 1 true (by intros;rfl) (.done ())
theorem k91y:Z9 Tryz.prog GG [2] 8 (I7 Tryz.f91.body) (Ext.l .normal [(2,.nilsl)] []) (.done ():TT Unit) (fun _=>Ext.l .ret [(2,.nilsl)] []):=by unfold Z9;kernel_rfl
theorem k91r(p0:List Bool):Z9 Tryz.prog GG [0,2,5,6,7] 8 (D2 Tryz.f91.body) (Ext.l .normal [(0,.sl false 1 (List.map Z1.c p0)),(2,.nilsl)] []) (g91 p0) (fun _=>Ext.of .ret [(2,.ref 7 0 ([]++p0).length)] [] [BT.of 7 Z1 1 ([]++p0)] (by rfl)):=by unfold Z9;kernel_rfl
theorem k91(p0:(List Bool)){r:Unit}(h:(g91 p0).run=some r):CallC Tryz.prog GG 91 [.sl false 1 (List.map Z1.c p0)] (ofL []) (.ref 7 0 p0.length) (ofL [(7,⟨1,true,List.map Z1.c p0⟩)]):=
 clone_ok (ty:=Z1) (ops0:=T9 Tryz.f91.body) (ops1:=T8 Tryz.f91.body) (yes:=I7 Tryz.f91.body) (rest:=D2 Tryz.f91.body) (t:=32) Z0 (by decide) Tryz.func91 (by kernel_rfl) (by kernel_rfl) (by kernel_rfl) (by kernel_rfl) (by kernel_rfl) (by kernel_rfl) (by kernel_rfl) (by kernel_rfl) (by kernel_rfl) k91y (k91r p0) (by rfl) h
def s91(p0:List Bool):Sp Unit:=⟨91,[Sl 1 Z1 p0],[],(g91 p0).run,fun _=>Rf 7 p0,fun _=>[(7,⟨1,true,List.map Z1.c p0⟩)],[7],fun _ p hp _=>by rw[ζu.1 hp];exact Z1.data _,fun _ h=>k91 p0 h⟩
def g92(p0:List Q8):TT Unit:=.app 3003 Q5 [] p0 40 true (by intros;rfl) (.done ())
theorem k92y:Z9 Tryz.prog GG [2] 8 (I7 Tryz.f92.body) (Ext.l .normal [(2,.nilsl)] []) (.done ():TT Unit) (fun _=>Ext.l .ret [(2,.nilsl)] []):=by unfold Z9;kernel_rfl
theorem k92r(p0:List Q8):Z9 Tryz.prog GG [0,2,5,6,7] 8 (D2 Tryz.f92.body) (Ext.l .normal [(0,.sl false 6 (List.map Q5.c p0)),(2,.nilsl)] []) (g92 p0) (fun _=>Ext.of .ret [(2,.ref 7 0 ([]++p0).length)] [] [BT.of 7 Q5 6 ([]++p0)] (by rfl)):=by unfold Z9;kernel_rfl
theorem k92(p0:(List Q8)){r:Unit}(h:(g92 p0).run=some r):CallC Tryz.prog GG 92 [.sl false 6 (List.map Q5.c p0)] (ofL []) (.ref 7 0 p0.length) (ofL [(7,⟨6,true,List.map Q5.c p0⟩)]):=
 clone_ok (ty:=Q5) (ops0:=T9 Tryz.f92.body) (ops1:=T8 Tryz.f92.body) (yes:=I7 Tryz.f92.body) (rest:=D2 Tryz.f92.body) (t:=33) Z0 (by decide) Tryz.func92 (by kernel_rfl) (by kernel_rfl) (by kernel_rfl) (by kernel_rfl) (by kernel_rfl) (by kernel_rfl) (by kernel_rfl) (by kernel_rfl) (by kernel_rfl) k92y (k92r p0) (by rfl) h
def s92(p0:List Q8):Sp Unit:=⟨92,[Sl 6 Q5 p0],[],(g92 p0).run,fun _=>Rf 7 p0,fun _=>[(7,⟨6,true,List.map Q5.c p0⟩)],[7],fun _ p hp _=>by rw[ζu.1 hp];exact Q5.data _,fun _ h=>k92 p0 h⟩
def g36(p0:Y0):TT ((Unit)⊕(Unit)):=.view 2002 (s34_1 p0.fc.fo p0.fc.fu p0.fc.fw p0.fc.fm p0.fC p0.fP p0.fK p0.fI p0.fV p0.fN p0.fQ p0.fA) [] fun r601=>.br 0 (!r601) (.done (.inl ())) (.call 4007 (s77 p0.fc.fu) [] [(7,500053)] fun r602=>.call 4011 (s77 p0.fc.fw) [] [(7,500054)] fun r603=>.call 4015 (s89 p0.fc.fm) [] [(7,500055)] fun r604=>.call 5006 (s90 p0.fN) [] [(7,500056)] fun r605=>.call 5009 (s91 p0.fQ) [] [(7,500057)] fun r606=>.call 5012 (s92 p0.fA) [] [(7,500058)] fun r607=>.done (.inr ()))
def s36(p0:Y0):Sp ((Unit)⊕(Unit)):=.ofFnB 36 [500053,500054,500055,500056,500057,500058] Z0 Tryz.func36 rfl (fun r=>by cases r<;>rfl) (show FnB Pg GG [0,1,2,3,4,10] Tryz.f36 [.agg [.bool p0.fc.fo,Sl 8 Q0 p0.fc.fu,Sl 8 Q0 p0.fc.fw,Sl 4 Q3 p0.fc.fm,.i p0.fC,.i p0.fP,.i p0.fK,.i p0.fI,.i p0.fV,Sl 1 Z2 p0.fN,Sl 1 Z1 p0.fQ,Sl 6 Q5 p0.fA]] (Ext.of .normal (U6 [.agg [.bool p0.fc.fo,Sl 8 Q0 p0.fc.fu,Sl 8 Q0 p0.fc.fw,Sl 4 Q3 p0.fc.fm,.i p0.fC,.i p0.fP,.i p0.fK,.i p0.fI,.i p0.fV,Sl 1 Z2 p0.fN,Sl 1 Z1 p0.fQ,Sl 6 Q5 p0.fA]]) [] [] (by rfl)) (g36 p0) (Sum.elim (fun(r:Unit)=>.tup [.nilp,.i 111]) (fun(r:Unit)=>.tup [.ptr 7 0 0,.i 0])) (Sum.elim (fun(r:Unit)=>Ext.of .normal [] [] [] (by rfl)) (fun(r:Unit)=>Ext.of .normal [] [(7,⟨13,true,[[.bool p0.fc.fo,Rf 500053 p0.fc.fu,Rf 500054 p0.fc.fw,Rf 500055 p0.fc.fm,.i p0.fC,.i p0.fP,.i p0.fK,.i p0.fI,.i p0.fV,Rf 500056 p0.fN,Rf 500057 p0.fQ,Rf 500058 p0.fA,.nilsl]]⟩)] [Bt 500053 Q0 8 p0.fc.fu,Bt 500054 Q0 8 p0.fc.fw,Bt 500055 Q3 4 p0.fc.fm,Bt 500056 Z2 1 p0.fN,Bt 500057 Z1 1 p0.fQ,Bt 500058 Q5 6 p0.fA] (by rfl))) by unfold FnB;kernel_rfl)
def g37(p0:Bool)(p1 p2:List Q2)(p3:List Q6)(p4 p5 p6 p7 p8:Int)(p9:List Int)(p10:List Bool)(p11:List Q8):TT (Bool):=.cnd 1 [18] (.br 1008 (decide ((0:Int)≤p8)) (.done true) (.done (p7==1099511627776))) (fun(c615:Bool)=>[.bool c615]) fun c615=>.br 0 c615 (.done false) (.call 3006 (s93 (Y3.mk p0 p1 p2 p3)) [] [] fun r616=>.cnd 4 [2] (.br 4009 (decide ((0:Int) < (Y9 Z2 p9))) (.done true) (.done (r616.2==0))) (fun(c617:Bool)=>[.bool c617]) fun c617=>.done c617)
def s37(p0:Bool)(p1 p2:List Q2)(p3:List Q6)(p4 p5 p6 p7 p8:Int)(p9:List Int)(p10:List Bool)(p11:List Q8):Sp (Bool):=.ofFn 37 Z0 Tryz.func37 (show FnD Pg GG [0,2,4,18] Tryz.f37 [.snap [.bool p0,Sl 8 Q0 p1,Sl 8 Q0 p2,Sl 4 Q3 p3,.i p4,.i p5,.i p6,.i p7,.i p8,Sl 1 Z2 p9,Sl 1 Z1 p10,Sl 6 Q5 p11,.nilsl]] (g37 p0 p1 p2 p3 p4 p5 p6 p7 p8 p9 p10 p11) (fun r=>.bool r) by unfold FnD;kernel_rfl)
def g38(p0:List Int):TT (Int):=.br 0 (decide ((Y9 Z2 p0) < 1)) (.fail) (.row 3002 Z2 p0 0 true fun x620=>.bind 1 (.lp (fun(l623:Int×Int)=>Ext.l .normal [(0,Sl 1 Z2 p0),(2,.i 0),(3,.i l623.1),(4,.i l623.2)] []) (fun l623=>.br 0 (decide (l623.2 < (Y9 Z2 p0))) (.row 7004 Z2 p0 l623.2.toNat (decide (0≤l623.2)) fun x624=>.done (.inl ((if x624 < l623.1 then x624 else l623.1),(Q4 (l623.2+1))))) (.done (.inr l623.1))) (x620,1)) (fun(e625:Int)=>Ext.l (.exit 0) [(2,.i 0),(3,.i e625)] []) (fun e625=>.done e625))
def s38(p0:List Int):Sp (Int):=.ofFn 38 Z0 Tryz.func38 (show FnD Pg GG [0,2,3,4,7,15] Tryz.f38 [Sl 1 Z2 p0] (g38 p0) (fun r=>.int .i64 r) by unfold FnD;kernel_rfl)
def g11(p0:Y0):TT (Int×Int):=.call2 1002 (s36 p0) [] [(7,500059),(500053,500060),(500054,500061),(500055,500062),(500056,500063),(500057,500064),(500058,500065)] (fun r608=>.tt (.done (0,111))) (fun r609=>.ff (.gh 1 (.virt 600067 6 1) (.bind 0 (.lp (fun(l612:(List Int)×Int)=>Ext.of .normal [(2,.i 0),(3,.i 0),(4,.ptr 500059 0 0),(6,Rf 600067 l612.1),(21,Rf 500065 p0.fA),(22,.i (p0.fA.length:Int)),(23,.i l612.2)] [(500059,⟨13,true,[[.bool p0.fc.fo,Rf 500060 p0.fc.fu,Rf 500061 p0.fc.fw,Rf 500062 p0.fc.fm,.i p0.fC,.i p0.fP,.i p0.fK,.i p0.fI,.i p0.fV,Rf 500063 p0.fN,Rf 500064 p0.fQ,Rf 500065 p0.fA,.nilsl]]⟩)] [Bt 500060 Q0 8 p0.fc.fu,Bt 500061 Q0 8 p0.fc.fw,Bt 500062 Q3 4 p0.fc.fm,Bt 500063 Z2 1 p0.fN,Bt 500064 Z1 1 p0.fQ,Bt 500065 Q5 6 p0.fA,Bt 600067 Z2 1 l612.1] (by rfl)) (fun l612=>.br 0 (decide (l612.2 < (p0.fA.length:Int))) (.chk 7001 (bD l612.2 p0.fA.length) (.row 7002 Q5 p0.fA (0+l612.2.toNat) true fun x613=>.app 8005 Z2 l612.1 [x613.gd] 8 false (by intro h;cases h) (.gh 0 (.drop [600067]) (.gh 0 (.ren 31 600067) (.done (.inl ((l612.1++[x613.gd]),(Q4 (l612.2+1))))))))) (.done (.inr l612.1))) ([],0)) (fun(e614:(List Int))=>Ext.of (.exit 0) [(2,.i 0),(3,.i 0),(4,.ptr 500059 0 0),(6,Rf 600067 e614)] [(500059,⟨13,true,[[.bool p0.fc.fo,Rf 500060 p0.fc.fu,Rf 500061 p0.fc.fw,Rf 500062 p0.fc.fm,.i p0.fC,.i p0.fP,.i p0.fK,.i p0.fI,.i p0.fV,Rf 500063 p0.fN,Rf 500064 p0.fQ,Rf 500065 p0.fA,.nilsl]]⟩)] [Bt 500060 Q0 8 p0.fc.fu,Bt 500061 Q0 8 p0.fc.fw,Bt 500062 Q3 4 p0.fc.fm,Bt 500063 Z2 1 p0.fN,Bt 500064 Z1 1 p0.fQ,Bt 500065 Q5 6 p0.fA,Bt 600067 Z2 1 e614] (by rfl)) (fun e614=>.view 10002 (s37 p0.fc.fo p0.fc.fu p0.fc.fw p0.fc.fm p0.fC p0.fP p0.fK p0.fI p0.fV p0.fN p0.fQ p0.fA) [(VwW.o 500060 Q0 p0.fc.fu),(VwW.o 500061 Q0 p0.fc.fw),(VwW.o 500062 Q3 p0.fc.fm),(VwW.o 500063 Z2 p0.fN),(VwW.o 500064 Z1 p0.fQ),(VwW.o 500065 Q5 p0.fA)] fun r618=>.bind 0 (.br 0 r618 (.app 11008 Z2 e614 [p0.fK] 8 false (by intro h;cases h) (.gh 0 (.ren 42 600068) (.done (e614++[p0.fK])))) (.gh 0 (.ren 600067 600068) (.done e614))) (fun(e619:(List Int))=>Ext.of .normal [(2,.i 0),(3,.i 0),(4,.ptr 500059 0 0),(6,Rf 600068 e619)] [(500059,⟨13,true,[[.bool p0.fc.fo,Rf 500060 p0.fc.fu,Rf 500061 p0.fc.fw,Rf 500062 p0.fc.fm,.i p0.fC,.i p0.fP,.i p0.fK,.i p0.fI,.i p0.fV,Rf 500063 p0.fN,Rf 500064 p0.fQ,Rf 500065 p0.fA,.nilsl]]⟩)] [Bt 500060 Q0 8 p0.fc.fu,Bt 500061 Q0 8 p0.fc.fw,Bt 500062 Q3 4 p0.fc.fm,Bt 500063 Z2 1 p0.fN,Bt 500064 Z1 1 p0.fQ,Bt 500065 Q5 6 p0.fA,Bt 600068 Z2 1 e619] (by rfl)) (fun e619=>.br 0 ((e619.length:Int)==0) (.done (0,4)) (.view 14002 (s38 e619) [(VwW.o 600068 Z2 e619)] fun r626=>.done ((if p0.fP > r626 then p0.fP else r626),0)))))))
def s11(p0:Y0):Sp (Int×Int):=.ofFn 11 Z0 Tryz.func11 (show FnD Pg GG [0,1,2,3,4,5,6,8,15,21,22,23,24,34,45] Tryz.f11 [.agg [.bool p0.fc.fo,Sl 8 Q0 p0.fc.fu,Sl 8 Q0 p0.fc.fw,Sl 4 Q3 p0.fc.fm,.i p0.fC,.i p0.fP,.i p0.fK,.i p0.fI,.i p0.fV,Sl 1 Z2 p0.fN,Sl 1 Z1 p0.fQ,Sl 6 Q5 p0.fA]] (g11 p0) (fun r=>.tup [.i r.1,.i r.2]) by unfold FnD;kernel_rfl)
def g13(p0:Y0):TT (Int):=.view 2002 (s34_1 p0.fc.fo p0.fc.fu p0.fc.fw p0.fc.fm p0.fC p0.fP p0.fK p0.fI p0.fV p0.fN p0.fQ p0.fA) [] fun r627=>.br 0 (!r627) (.done 111) (.done 0)
def s13(p0:Y0):Sp (Int):=.ofFn 13 Z0 Tryz.func13 (show FnD Pg GG [0,1,2,3,9] Tryz.f13 [.agg [.bool p0.fc.fo,Sl 8 Q0 p0.fc.fu,Sl 8 Q0 p0.fc.fw,Sl 4 Q3 p0.fc.fm,.i p0.fC,.i p0.fP,.i p0.fK,.i p0.fI,.i p0.fV,Sl 1 Z2 p0.fN,Sl 1 Z1 p0.fQ,Sl 6 Q5 p0.fA]] (g13 p0) (fun r=>.int .i64 r) by unfold FnD;kernel_rfl)
def s42(p0:Q6):Sp (Bool):=.ofFn 42 Z0 Tryz.func42 (show FnD Pg GG [0,1,2] Tryz.f42 [.agg (Q3.c p0)] (.done (p0.fD==3):TT (Bool)) (fun r=>.bool r) by unfold FnD;kernel_rfl)
def g98(p0:List Q6):TT (Int):=.bind2 1 (.lp (fun(l633:Int)=>Ext.l .normal [(0,Sl 4 Q3 p0),(1,.fn 42 [] []),(4,.i 0),(7,.i (Y9 Q3 p0)),(8,.i l633)] []) (fun l633=>.br 0 (decide (l633 < (Y9 Q3 p0))) (.row 4004 Q3 p0 l633.toNat (decide (0≤l633)) fun x634=>.call 4006 (s42 x634) [] [] fun r635=>.br 0 r635 (.done (.inr (.inl l633))) (.done (.inl (Q4 (l633+1))))) (.done (.inr (.inr ())))) 0) (fun(e636:Int)=>Ext.l .ret [(4,.i e636)] []) (fun(e637:Unit)=>Ext.l (.exit 0) [(4,.i 0)] []) (fun e636=>.done e636) (fun e637=>.done (-1))
def s98(p0:List Q6):Sp (Int):=.ofFn 98 Z0 Tryz.func98 (show FnD Pg GG [0,1,4,5,7,8,9,16] Tryz.f98 [Sl 4 Q3 p0,.fn 42 [] []] (g98 p0) (fun r=>.int .i64 r) by unfold FnD;kernel_rfl)
def g41(p0:List Q6):TT (Int):=.call 1003 (s98 p0) [] [] fun r638=>.done r638
def s41(p0:List Q6):Sp (Int):=.ofFn 41 Z0 Tryz.func41 (show FnD Pg GG [0,1,4] Tryz.f41 [Sl 4 Q3 p0,.fn 42 [] []] (g41 p0) (fun r=>.int .i64 r) by unfold FnD;kernel_rfl)
def s43(p0:Q6):Sp (Bool):=.ofFn 43 Z0 Tryz.func43 (show FnD Pg GG [0,1,2] Tryz.f43 [.agg (Q3.c p0)] (.done (p0.fD != 4):TT (Bool)) (fun r=>.bool r) by unfold FnD;kernel_rfl)
def g98_1(p0:List Q6):TT (Int):=.bind2 1 (.lp (fun(l643:Int)=>Ext.l .normal [(0,Sl 4 Q3 p0),(1,.fn 43 [] []),(4,.i 0),(7,.i (Y9 Q3 p0)),(8,.i l643)] []) (fun l643=>.br 0 (decide (l643 < (Y9 Q3 p0))) (.row 4004 Q3 p0 l643.toNat (decide (0≤l643)) fun x644=>.call 4006 (s43 x644) [] [] fun r645=>.br 0 r645 (.done (.inr (.inl l643))) (.done (.inl (Q4 (l643+1))))) (.done (.inr (.inr ())))) 0) (fun(e646:Int)=>Ext.l .ret [(4,.i e646)] []) (fun(e647:Unit)=>Ext.l (.exit 0) [(4,.i 0)] []) (fun e646=>.done e646) (fun e647=>.done (-1))
def s98_1(p0:List Q6):Sp (Int):=.ofFn 98 Z0 Tryz.func98 (show FnD Pg GG [0,1,4,5,7,8,9,16] Tryz.f98 [Sl 4 Q3 p0,.fn 43 [] []] (g98_1 p0) (fun r=>.int .i64 r) by unfold FnD;kernel_rfl)
def g41_1(p0:List Q6):TT (Int):=.call 1003 (s98_1 p0) [] [] fun r648=>.done r648
def s41_1(p0:List Q6):Sp (Int):=.ofFn 41 Z0 Tryz.func41 (show FnD Pg GG [0,1,4] Tryz.f41 [Sl 4 Q3 p0,.fn 43 [] []] (g41_1 p0) (fun r=>.int .i64 r) by unfold FnD;kernel_rfl)
def g14(p0:Y0):TT (Int×Int):=.call2 1002 (s36 p0) [] [(7,500069),(500053,500070),(500054,500071),(500055,500072),(500056,500073),(500057,500074),(500058,500075)] (fun r628=>.tt (.done (0,111))) (fun r629=>.ff (.br 0 (decide ((0:Int)≤p0.fV)) (.done (3,0)) (.view 6007 (s41 p0.fc.fm) [(VwW.o 500072 Q3 p0.fc.fm)] fun r630=>.br 0 (decide ((0:Int)≤r630)) (.done (2,0)) (.cnd 8 [30] (.view 8007 (s41_1 p0.fc.fm) [(VwW.o 500072 Q3 p0.fc.fm)] fun r631=>.br 8010 (decide (r631 < 0)) (.done ((Q4 ((p0.fN.length:Int)+(p0.fA.length:Int)))==0)) (.done false)) (fun(c632:Bool)=>[.bool c632]) fun c632=>.br 0 c632 (.done (4,0)) (.done (1,0))))))
def s14(p0:Y0):Sp (Int×Int):=.ofFn 14 Z0 Tryz.func14 (show FnD Pg GG [0,1,2,3,4,5,12,14,21,30] Tryz.f14 [.agg [.bool p0.fc.fo,Sl 8 Q0 p0.fc.fu,Sl 8 Q0 p0.fc.fw,Sl 4 Q3 p0.fc.fm,.i p0.fC,.i p0.fP,.i p0.fK,.i p0.fI,.i p0.fV,Sl 1 Z2 p0.fN,Sl 1 Z1 p0.fQ,Sl 6 Q5 p0.fA]] (g14 p0) (fun r=>.tup [.i r.1,.i r.2]) by unfold FnD;kernel_rfl)
def g250(p0:ByteArray):TT (Bool):=.cnd 1 [2] (.br 1005 ((p0.size:Int)==4) (.done true) (.done ((p0.size:Int)==16))) (fun(c633:Bool)=>[.bool c633]) fun c633=>.done c633
def s250(p0:ByteArray):Sp (Bool):=.ofFn 250 Z0 Tryz.func250 (show FnD Pg GG [0,2] Tryz.f250 [.str p0] (g250 p0) (fun r=>.bool r) by unfold FnD;kernel_rfl)
def g213(p0:Z7):TT (Bool):=.cnd 1 [2] (.call 1003 (s250 p0.fe) [] [] fun r634=>.br 1005 r634 (.br 1010 (decide ((0:Int)≤p0.fh)) (.done (decide (p0.fh≤65535))) (.done false)) (.done false)) (fun(c635:Bool)=>[.bool c635]) fun c635=>.done c635
def s213(p0:Z7):Sp (Bool):=.ofFn 213 Z0 Tryz.func213 (show FnD Pg GG [0,1,2] Tryz.f213 [.agg [.str p0.fe,.i p0.fh]] (g213 p0) (fun r=>.bool r) by unfold FnD;kernel_rfl)
def g137(p0:Z7):TT (Bool):=.cnd 1 [2] (.call 1002 (s213 p0) [] [] fun r636=>.br 1004 r636 (.done (decide ((1:Int)≤p0.fh))) (.done false)) (fun(c637:Bool)=>[.bool c637]) fun c637=>.done c637
def s137(p0:Z7):Sp (Bool):=.ofFn 137 Z0 Tryz.func137 (show FnD Pg GG [0,1,2] Tryz.f137 [.agg [.str p0.fe,.i p0.fh]] (g137 p0) (fun r=>.bool r) by unfold FnD;kernel_rfl)
def g286(p0:Int):TT (ByteArray):=.br 0 (decide (p0 < 10)) (.chk 2004 ((decide (0≤(Q4 (p0+1)))&&decide ((Q4 (p0+1))≤(36:Int)))&&(decide (0≤p0)&&decide (p0≤((Q4 (p0+1)).toNat:Int)))) (.done ((bs [48,49,50,51,52,53,54,55,56,57,97,98,99,100,101,102,103,104,105,106,107,108,109,110,111,112,113,114,115,116,117,118,119,120,121,122]).extract p0.toNat ((Q4 (p0+1)).toNat)))) (.chk 3006 ((decide (0≤(Q4 ((Q4 (p0 * 2))+2)))&&decide ((Q4 ((Q4 (p0 * 2))+2))≤(200:Int)))&&(decide (0≤(Q4 (p0 * 2)))&&decide ((Q4 (p0 * 2))≤((Q4 ((Q4 (p0 * 2))+2)).toNat:Int)))) (.done ((bs [48,48,48,49,48,50,48,51,48,52,48,53,48,54,48,55,48,56,48,57,49,48,49,49,49,50,49,51,49,52,49,53,49,54,49,55,49,56,49,57,50,48,50,49,50,50,50,51,50,52,50,53,50,54,50,55,50,56,50,57,51,48,51,49,51,50,51,51,51,52,51,53,51,54,51,55,51,56,51,57,52,48,52,49,52,50,52,51,52,52,52,53,52,54,52,55,52,56,52,57,53,48,53,49,53,50,53,51,53,52,53,53,53,54,53,55,53,56,53,57,54,48,54,49,54,50,54,51,54,52,54,53,54,54,54,55,54,56,54,57,55,48,55,49,55,50,55,51,55,52,55,53,55,54,55,55,55,56,55,57,56,48,56,49,56,50,56,51,56,52,56,53,56,54,56,55,56,56,56,57,57,48,57,49,57,50,57,51,57,52,57,53,57,54,57,55,57,56,57,57]).extract ((Q4 (p0 * 2)).toNat) ((Q4 ((Q4 (p0 * 2))+2)).toNat))))
def s286(p0:Int):Sp (ByteArray):=.ofFn 286 Z0 Tryz.func286 (show FnD Pg GG [0,2,4] Tryz.f286 [.i p0] (g286 p0) (fun r=>.str r) by unfold FnD;kernel_rfl)
def g273(p0 p1:Int):TT (ByteArray):=.br 0 (p1==10) (.cnd 2 [17] (.br 2004 (decide ((0:Int)≤p0)) (.done (decide (p0 < 100))) (.done false)) (fun(c641:Bool)=>[.bool c641]) fun c641=>.br 0 c641 (.call 3002 (s286 p0) [] [] fun r642=>.done r642) (.bind 0 (.br 0 (decide (p0 < 0)) (.done (Z4 (0 - (Z4 p0)))) (.done (Z4 p0))) (fun(e643:Int)=>Ext.l .normal [(0,.i p0),(1,.i p1),(4,.str ByteArray.empty),(5,.ptr 5 0 0),(6,.int .u64 e643)] [(5,⟨24,true,[[.int .u8 0,.int .u8 0,.int .u8 0,.int .u8 0,.int .u8 0,.int .u8 0,.int .u8 0,.int .u8 0,.int .u8 0,.int .u8 0,.int .u8 0,.int .u8 0,.int .u8 0,.int .u8 0,.int .u8 0,.int .u8 0,.int .u8 0,.int .u8 0,.int .u8 0,.int .u8 0,.int .u8 0,.int .u8 0,.int .u8 0,.int .u8 0]]⟩)]) (fun e643=>.fail))) (.fail)
def s273(p0 p1:Int):Sp (ByteArray):=.ofFn 273 Z0 Tryz.func273 (show FnD Pg GG [0,1,4,5,6,7,9,11,17,23,34] Tryz.f273 [.i p0,.i p1] (g273 p0 p1) (fun r=>.str r) by unfold FnD;kernel_rfl)
def g256(p0:Int):TT (ByteArray):=.call 1002 (s273 p0 10) [] [] fun r644=>.done r644
def s256(p0:Int):Sp (ByteArray):=.ofFn 256 Z0 Tryz.func256 (show FnD Pg GG [0,2] Tryz.f256 [.i p0] (g256 p0) (fun r=>.str r) by unfold FnD;kernel_rfl)
def g218(p0:Int):TT (ByteArray):=.call 1002 (s256 p0) [] [] fun r645=>.done r645
def s218(p0:Int):Sp (ByteArray):=.ofFn 218 Z0 Tryz.func218 (show FnD Pg GG [0,2] Tryz.f218 [.i p0] (g218 p0) (fun r=>.str r) by unfold FnD;kernel_rfl)
def g219(p0:ByteArray):TT (ByteArray):=.opr 1004 (Rule.makeD (ty:=W0) (t:=73) (e:=5) (zv:=.int .u8 0) (zc:=.int .u8 0) (0:Int) (.const (.int .i64 0)) (.tmp 7) 8 0 (Q4 ((2:Int) * (p0.size:Int))) 1 (by kernel_rfl) (by kernel_rfl) (by kernel_rfl) rfl ⟨rfl,rfl,rfl⟩ (fun _ _=>by constructor)) fun _=>.gh 1 (.ren 8 600077) (.bind 0 (.lp (fun(l648:(List Int)×Int)=>Ext.of .normal [(0,.str p0),(2,.str ByteArray.empty),(3,Rf 600077 l648.1),(4,.i l648.2)] [] [Bt 600077 W0 1 l648.1] (by rfl)) (fun l648=>.br 0 (decide (l648.2 < (p0.size:Int))) (.chk 5004 (decide (0≤l648.2∧l648.2 < (p0.size:Int))) (.chk 5006 (decide (0≤(wu8 (Int.tdiv (bAt p0 l648.2) 16))∧(wu8 (Int.tdiv (bAt p0 l648.2) 16)) < ((bs [48,49,50,51,52,53,54,55,56,57,97,98,99,100,101,102]).size:Int))) (.chk 5009 (decide (0≤l648.2∧l648.2 < (p0.size:Int))) (.chk 5011 (decide (0≤(Int.tmod (bAt p0 l648.2) 16)∧(Int.tmod (bAt p0 l648.2) 16) < ((bs [48,49,50,51,52,53,54,55,56,57,97,98,99,100,101,102]).size:Int))) (.app 5013 W0 l648.1 [(bAt (bs [48,49,50,51,52,53,54,55,56,57,97,98,99,100,101,102]) (wu8 (Int.tdiv (bAt p0 l648.2) 16))),(bAt (bs [48,49,50,51,52,53,54,55,56,57,97,98,99,100,101,102]) (Int.tmod (bAt p0 l648.2) 16))] 1 false (by intro h;cases h) (.gh 0 (.drop [600077]) (.gh 0 (.ren 27 600077) (.done (.inl ((l648.1++[(bAt (bs [48,49,50,51,52,53,54,55,56,57,97,98,99,100,101,102]) (wu8 (Int.tdiv (bAt p0 l648.2) 16))),(bAt (bs [48,49,50,51,52,53,54,55,56,57,97,98,99,100,101,102]) (Int.tmod (bAt p0 l648.2) 16))]),(Q4 (l648.2+1)))))))))))) (.done (.inr l648.1))) ([],0)) (fun(e649:(List Int))=>Ext.of (.exit 0) [(2,.str ByteArray.empty),(3,Rf 600077 e649)] [] [Bt 600077 W0 1 e649] (by rfl)) (fun e649=>.opr 6002 (Rule.textOf (ty:=W0) (s:=73) (t:=9) (e:=5) (.tmp 28) 29 600077 e649 e649.length (by kernel_rfl) (by kernel_rfl) (by kernel_rfl) (by simp) (fun _=>rfl)) fun _=>.done (strOfNums e649)))
def s219(p0:ByteArray):Sp (ByteArray):=.ofFn 219 Z0 Tryz.func219 (show FnD Pg GG [0,2,3,4,12] Tryz.f219 [.str p0] (g219 p0) (fun r=>.str r) by unfold FnD;kernel_rfl)
def g150(p0:Int)(p1 p2:Z7):TT (ByteArray×Int):=.cnd 1 [28] (.br 1004 (decide (p0 < 1)) (.done true) (.br 1008 (decide ((4:Int) < p0)) (.done true) (.call 1009 (s137 p1) [] [] fun r638=>.br 1013 (!r638) (.done true) (.br 1017 (!((decide (p2.fe=ByteArray.empty))&&((p2.fh==0)&&true))) (.call 1018 (s137 p2) [] [] fun r639=>.done (!r639)) (.done false))))) (fun(c640:Bool)=>[.bool c640]) fun c640=>.br 0 c640 (.done (ByteArray.empty,2)) (.call 3002 (s218 p0) [] [] fun r646=>.chk 3003 (decide (r646.size+(bs [45]).size≤9223372036854775807)) (.call 3006 (s219 p1.fe) [] [] fun r650=>.chk 3007 (decide ((r646++(bs [45])).size+r650.size≤9223372036854775807)) (.chk 3008 (decide (((r646++(bs [45]))++r650).size+(bs [45]).size≤9223372036854775807)) (.call 3011 (s219 p2.fe) [] [] fun r651=>.chk 3012 (decide ((((r646++(bs [45]))++r650)++(bs [45])).size+r651.size≤9223372036854775807)) (.done (((((r646++(bs [45]))++r650)++(bs [45]))++r651),0))))))
def s150(p0:Int)(p1 p2:Z7):Sp (ByteArray×Int):=.ofFn 150 Z0 Tryz.func150 (show FnD Pg GG [0,1,2,4,5,6,7,28] Tryz.f150 [.i p0,.agg [.str p1.fe,.i p1.fh],.agg [.str p2.fe,.i p2.fh]] (g150 p0 p1 p2) (fun r=>.tup [.str r.1,.i r.2]) by unfold FnD;kernel_rfl)
def g151(p0 p1 p2:Int):TT (Int×Int):=.cnd 1 [30] (.br 1004 (decide (p0 < 1)) (.done true) (.br 1008 (decide ((4:Int) < p0)) (.done true) (.br 1012 (decide (p1 < 0)) (.done true) (.br 1016 (decide ((65535:Int) < p1)) (.done true) (.br 1020 (decide (p2 < 1)) (.done true) (.done (decide ((256:Int) < p2)))))))) (fun(c653:Bool)=>[.bool c653]) fun c653=>.br 0 c653 (.done (0,2)) (.ceq 3003 p0 [0,1,2,3,4] (fun v=>bif v==0 then .br 0 ((Q4 ((Q4 ((Q4 ((0:Int)+(Q4 ((256:Int) * p1))))+256)) - p2))==0) (.done (0,2)) (.done ((Q4 ((Q4 ((Q4 ((0:Int)+(Q4 ((256:Int) * p1))))+256)) - p2)),0)) else bif v==1 then .br 0 ((Q4 ((Q4 ((Q4 ((2113929216:Int)+(Q4 ((256:Int) * p1))))+256)) - p2))==0) (.done (0,2)) (.done ((Q4 ((Q4 ((Q4 ((2113929216:Int)+(Q4 ((256:Int) * p1))))+256)) - p2)),0)) else bif v==2 then .br 0 ((Q4 ((Q4 ((Q4 ((1845493760:Int)+(Q4 ((256:Int) * p1))))+256)) - p2))==0) (.done (0,2)) (.done ((Q4 ((Q4 ((Q4 ((1845493760:Int)+(Q4 ((256:Int) * p1))))+256)) - p2)),0)) else bif v==3 then .br 0 ((Q4 ((Q4 ((Q4 ((1677721600:Int)+(Q4 ((256:Int) * p1))))+256)) - p2))==0) (.done (0,2)) (.done ((Q4 ((Q4 ((Q4 ((1677721600:Int)+(Q4 ((256:Int) * p1))))+256)) - p2)),0)) else bif v==4 then .br 0 ((Q4 ((Q4 ((Q4 ((0:Int)+(Q4 ((256:Int) * p1))))+256)) - p2))==0) (.done (0,2)) (.done ((Q4 ((Q4 ((Q4 ((0:Int)+(Q4 ((256:Int) * p1))))+256)) - p2)),0)) else .fail))
def s151(p0 p1 p2:Int):Sp (Int×Int):=.ofFn 151 Z0 Tryz.func151 (show FnD Pg GG [0,1,2,6,7,8,30,42] Tryz.f151 [.i p0,.i p1,.i p2] (g151 p0 p1 p2) (fun r=>.tup [.i r.1,.i r.2]) by unfold FnD;kernel_rfl)
def g152(p0:Q2):TT (Bool):=.cnd 1 [44] (.br 1005 (decide (p0.fy < 1)) (.done true) (.br 1010 (decide ((4:Int) < p0.fy)) (.done true) (.br 1015 (decide (p0.fX < 1)) (.done true) (.br 1020 (decide ((256:Int) < p0.fX)) (.done true) (.br 1025 (decide (p0.ft < 1)) (.done true) (.br 1030 (decide ((2147483647:Int) < p0.ft)) (.done true) (.br 1036 (decide ((p0.fY.size:Int) < 1)) (.done true) (.done (decide ((80:Int) < (p0.fY.size:Int))))))))))) (fun(c655:Bool)=>[.bool c655]) fun c655=>.br 0 c655 (.done false) (.bind2 1 (.lp (fun(l658:Int)=>Ext.l .normal [(1,.ptr 1 0 0),(2,.bool false),(3,.i l658)] [(1,⟨8,true,[(Q0.c p0)]⟩)]) (fun l658=>.br 0 (decide (l658 < (p0.fY.size:Int))) (.chk 6004 (decide (0≤l658∧l658 < (p0.fY.size:Int))) (.cnd 7 [75] (.br 7004 (decide ((48:Int)≤(bAt p0.fY l658))) (.br 7009 (!(decide ((bAt p0.fY l658)≤57))) (.br 7012 (decide ((97:Int)≤(bAt p0.fY l658))) (.br 7018 (!(decide ((bAt p0.fY l658)≤102))) (.done ((bAt p0.fY l658) != 45)) (.done false)) (.done ((bAt p0.fY l658) != 45))) (.done false)) (.br 7012 (decide ((97:Int)≤(bAt p0.fY l658))) (.br 7018 (!(decide ((bAt p0.fY l658)≤102))) (.done ((bAt p0.fY l658) != 45)) (.done false)) (.done ((bAt p0.fY l658) != 45)))) (fun(c659:Bool)=>[.bool c659]) fun c659=>.br 0 c659 (.done (.inr (.inl ()))) (.done (.inl (Q4 (l658+1)))))) (.done (.inr (.inr ())))) 0) (fun(e660:Unit)=>Ext.l .ret [(1,.ptr 1 0 0),(2,.bool false)] [(1,⟨8,true,[(Q0.c p0)]⟩)]) (fun(e661:Unit)=>Ext.l (.exit 0) [(1,.ptr 1 0 0),(2,.bool false)] [(1,⟨8,true,[(Q0.c p0)]⟩)]) (fun e660=>.done false) (fun e661=>.cnd 9 [96] (.call 9003 (s137 p0.fG) [] [] fun r662=>.br 9006 (!r662) (.done true) (.call 9008 (s137 p0.fT) [] [] fun r663=>.br 9012 (!r663) (.done true) (.done ((p0.fG.fe.size:Int) != (p0.fT.fe.size:Int))))) (fun(c664:Bool)=>[.bool c664]) fun c664=>.br 0 c664 (.done false) (.cnd 11 [2] (.br 11007 ((decide (p0.fG.fe=p0.fT.fe))&&((p0.fG.fh==p0.fT.fh)&&true)) (.done true) (.br 11011 (p0.fy != 1) (.done (p0.fy != 4)) (.done false))) (fun(c665:Bool)=>[.bool c665]) fun c665=>.done c665)))
def s152(p0:Q2):Sp (Bool):=.ofFn 152 Z0 Tryz.func152 (show FnD Pg GG [0,1,2,3,4,44,49,75,96] Tryz.f152 [.agg (Q0.c p0)] (g152 p0) (fun r=>.bool r) by unfold FnD;kernel_rfl)
def g74(p0:Int)(p1 p2 p3:Z7)(p4 p5:Int):TT (Q2×Int):=.call 1004 (s150 p0 p2 p3) [] [] fun r652=>.br 0 (r652.2 != 0) (.done ((Q2.mk 0 0 0 ByteArray.empty (Z7.mk ByteArray.empty 0) (Z7.mk ByteArray.empty 0)),r652.2)) (.call 4004 (s151 p0 p4 p5) [] [] fun r654=>.br 0 (r654.2 != 0) (.done ((Q2.mk 0 0 0 ByteArray.empty (Z7.mk ByteArray.empty 0) (Z7.mk ByteArray.empty 0)),r654.2)) (.call 8002 (s152 (Q2.mk p0 p5 r654.1 r652.1 p1 p2)) [] [] fun r666=>.br 0 (!r666) (.done ((Q2.mk 0 0 0 ByteArray.empty (Z7.mk ByteArray.empty 0) (Z7.mk ByteArray.empty 0)),90)) (.done ((Q2.mk p0 p5 r654.1 r652.1 p1 p2),0))))
def s74(p0:Int)(p1 p2 p3:Z7)(p4 p5:Int):Sp (Q2×Int):=.ofFn 74 Z0 Tryz.func74 (show FnD Pg GG [0,1,2,3,4,5,7,8,9,12,13,14,15,16,17,26,37,49] Tryz.f74 [.i p0,.agg [.str p1.fe,.i p1.fh],.agg [.str p2.fe,.i p2.fh],.agg [.str p3.fe,.i p3.fh],.i p4,.i p5] (g74 p0 p1 p2 p3 p4 p5) (fun r=>.tup [.agg (Q0.c r.1),.i r.2]) by unfold FnD;kernel_rfl)
def s30(p0:Int):Sp (Q2):=.ofFn 30 Z0 Tryz.func30 (show FnD Pg GG [0,2,3,4] Tryz.f30 [.int .u8 p0] (.call 2004 (s74 1 (Z7.mk (strOfNums [10,0,0,p0]) 1) (Z7.mk (strOfNums [10,0,0,p0]) 1) (Z7.mk ByteArray.empty 0) 1 1) [] [] fun r667=>.done r667.1:TT (Q2)) (fun r=>.agg (Q0.c r)) by unfold FnD;kernel_rfl)
def s9_1(p0:Bool)(p1 p2:Int)(p3 p4:List Q2):Sp (Int×Bool×(List Q2)×(List Q2)×(List Q6)×Int×Int×Int×(List Bool)):=.ofFnB 9 [] Z0 Tryz.func9 rfl (fun _=>rfl) (show FnB Pg GG [0,1,2,3,4,10,11,12,13,14,15,24,41] Tryz.f9 [Rf ωa p3,Rf ωb p4,.bool p0,.i p1,.i p2] (Ext.of .normal (U6 [Rf ωa p3,Rf ωb p4,.bool p0,.i p1,.i p2]) [] [Bt ωa Q0 8 p3,Bt ωb Q0 8 p4] (by rfl)) (.gh 3 (.share (VwW.o ωa Q0 p3) 0) (.gh 3 (.share (VwW.o ωb Q0 p4) 0) (.call 1004 (s33 p3 p4 p0) [] [] fun r670=>.br 0 (r670.2 != 0) (.fail) (.opr 4008 (Rule.makeD (ty:=Z1) (t:=32) (e:=4) (zv:=.bool false) (zc:=.bool false) false (.tmp 33) (.tmp 33) 34 (Y9 Q3 r670.1.fm) (Y9 Q3 r670.1.fm) 1 (by kernel_rfl) (by kernel_rfl) (by kernel_rfl) rfl ⟨rfl,rfl,rfl⟩ (fun _ _=>by constructor)) fun _=>.gh 7 (.len 34 ((List.replicate (Y9 Q3 r670.1.fm).toNat false).length) [(Y9 Q3 r670.1.fm).toNat] (by simp)) (.view 6002 (s34 r670.1.fo r670.1.fu r670.1.fw r670.1.fm p1 p2 p2 0 (-1) (List.replicate (Y9 Q3 r670.1.fm).toNat false)) [(VwW.o 34 Z1 (List.replicate (Y9 Q3 r670.1.fm).toNat false))] fun r671=>.br 0 (!r671) (.fail) (.gh 0 (.share (VwW.o 34 Z1 (List.replicate (Y9 Q3 r670.1.fm).toNat false)) 2) (.done (0,r670.1.fo,r670.1.fu,r670.1.fw,r670.1.fm,p1,p2,(-1),(List.replicate (Y9 Q3 r670.1.fm).toNat false)))))))):TT (Int×Bool×(List Q2)×(List Q2)×(List Q6)×Int×Int×Int×(List Bool))) (fun(r:Int×Bool×(List Q2)×(List Q2)×(List Q6)×Int×Int×Int×(List Bool))=>.tup [.agg [.bool r.2.1,Sl 8 Q0 r.2.2.1,Sl 8 Q0 r.2.2.2.1,Sl 4 Q3 r.q.1,.i r.q.2.1,.i r.q.2.2.1,.i r.q.2.2.1,.i 0,.i r.q.2.2.2.1,.nilsl,Sl 1 Z1 r.q.q,.nilsl],.i r.1]) (fun(r:Int×Bool×(List Q2)×(List Q2)×(List Q6)×Int×Int×Int×(List Bool))=>Ext.of .normal [] [] [] (by rfl)) by unfold FnB;kernel_rfl)
def s27 :Sp (Y0×Int):=.ofFn 27 Z0 Tryz.func27 (show FnD Pg GG [0,1] Tryz.f27 [] (.call 1001 (s30 1) [] [] fun r668=>.call 1003 (s30 2) [] [] fun r669=>.call 1005 (s9_1 true 9 0 [r668] [r669]) [(ωa,3),(ωb,5)] [] fun r672=>.done ((Y0.mk (Y3.mk r672.2.1 r672.2.2.1 r672.2.2.2.1 r672.q.1) r672.q.2.1 r672.q.2.2.1 r672.q.2.2.1 0 r672.q.2.2.2.1 [] r672.q.q []),r672.1):TT (Y0×Int)) (fun r=>.tup [.agg [.bool r.1.fc.fo,Sl 8 Q0 r.1.fc.fu,Sl 8 Q0 r.1.fc.fw,Sl 4 Q3 r.1.fc.fm,.int .i64 r.1.fC,.int .i64 r.1.fP,.int .i64 r.1.fK,.int .i64 r.1.fI,.int .i64 r.1.fV,Sl 1 Z2 r.1.fN,Sl 1 Z1 r.1.fQ,Sl 6 Q5 r.1.fA],.int .i64 r.2]) by unfold FnD;kernel_rfl)
def s28 :Sp (Y0×Int):=.ofFn 28 Z0 Tryz.func28 (show FnD Pg GG [0,1] Tryz.f28 [] (.call 1001 (s30 2) [] [] fun r673=>.call 1003 (s30 1) [] [] fun r674=>.call 1005 (s9_1 false 5 0 [r673] [r674]) [(ωa,3),(ωb,5)] [] fun r675=>.done ((Y0.mk (Y3.mk r675.2.1 r675.2.2.1 r675.2.2.2.1 r675.q.1) r675.q.2.1 r675.q.2.2.1 r675.q.2.2.1 0 r675.q.2.2.2.1 [] r675.q.q []),r675.1):TT (Y0×Int)) (fun r=>.tup [.agg [.bool r.1.fc.fo,Sl 8 Q0 r.1.fc.fu,Sl 8 Q0 r.1.fc.fw,Sl 4 Q3 r.1.fc.fm,.int .i64 r.1.fC,.int .i64 r.1.fP,.int .i64 r.1.fK,.int .i64 r.1.fI,.int .i64 r.1.fV,Sl 1 Z2 r.1.fN,Sl 1 Z1 r.1.fQ,Sl 6 Q5 r.1.fA],.int .i64 r.2]) by unfold FnD;kernel_rfl)
def s29 :Sp (Y6):=.ofFn 29 Z0 Tryz.func29 (show FnD Pg GG [0] Tryz.f29 [] (.call 1001 (s30 1) [] [] fun r676=>.call 1003 (s30 2) [] [] fun r677=>.done (Y6.mk r676.fG r677.fG (U7.mk 1 0 1845494271 true 9 false (Z7.mk ByteArray.empty 0))):TT (Y6)) (fun r=>.agg (Z8.c r)) by unfold FnD;kernel_rfl)
def s31(p0 p1:List Y6):Sp (Bool):=.ofFn 31 Z0 Tryz.func31 (show FnD Pg GG [0,1,4,5,10,12,13,14,24] Tryz.f31 [Sl 12 Z8 p0,Sl 12 Z8 p1] (.br 0 ((Y9 Z8 p0) != (Y9 Z8 p1)) (.fail) (.bind2 1 (.lp (fun(l681:Int)=>Ext.l .normal [(0,Sl 12 Z8 p0),(1,Sl 12 Z8 p1),(4,.bool false),(12,.i (Y9 Z8 p0)),(13,.i l681)] []) (fun l681=>.br 0 (decide (l681 < (Y9 Z8 p0))) (.row 6003 Z8 p0 l681.toNat (decide (0≤l681)) fun x682=>.row 6007 Z8 p1 l681.toNat (decide (0≤l681)) fun x683=>.br 0 (!((decide (x682.gb.fe=x683.gb.fe))&&((x682.gb.fh==x683.gb.fh)&&((decide (x682.gc.fe=x683.gc.fe))&&((x682.gc.fh==x683.gc.fh)&&((x682.fj.fy==x683.fj.fy)&&((x682.fj.fp==x683.fj.fp)&&((x682.fj.ft==x683.fj.ft)&&((x682.fj.fo==x683.fj.fo)&&((x682.fj.fC==x683.fj.fC)&&((x682.fj.fF==x683.fj.fF)&&((decide (x682.fj.fO.fe=x683.fj.fO.fe))&&((x682.fj.fO.fh==x683.fj.fO.fh)&&true))))))))))))) (.fail) (.done (.inl (Q4 (l681+1))))) (.done (.inr (.inr ())))) 0) (fun(e684:Unit)=>Ext.l .ret [(4,.bool false)] []) (fun(e685:Unit)=>Ext.l (.exit 0) [(4,.bool false)] []) (fun _=>.fail) (fun e685=>.done true)):TT (Bool)) (fun r=>.bool r) by unfold FnD;kernel_rfl)
def s32(p0 p1:List Int):Sp (Bool):=.ofFn 32 Z0 Tryz.func32 (show FnD Pg GG [0,1,4,5,10,12,13,14,24] Tryz.f32 [Sl 1 Z2 p0,Sl 1 Z2 p1] (.br 0 ((Y9 Z2 p0) != (Y9 Z2 p1)) (.fail) (.bind2 1 (.lp (fun(l689:Int)=>Ext.l .normal [(0,Sl 1 Z2 p0),(1,Sl 1 Z2 p1),(4,.bool false),(12,.i (Y9 Z2 p0)),(13,.i l689)] []) (fun l689=>.br 0 (decide (l689 < (Y9 Z2 p0))) (.row 6003 Z2 p0 l689.toNat (decide (0≤l689)) fun x690=>.row 6007 Z2 p1 l689.toNat (decide (0≤l689)) fun x691=>.br 0 (x690 != x691) (.fail) (.done (.inl (Q4 (l689+1))))) (.done (.inr (.inr ())))) 0) (fun(e692:Unit)=>Ext.l .ret [(4,.bool false)] []) (fun(e693:Unit)=>Ext.l (.exit 0) [(4,.bool false)] []) (fun _=>.fail) (fun e693=>.done true)):TT (Bool)) (fun r=>.bool r) by unfold FnD;kernel_rfl)
theorem eA_iff{a b:Z7}:(decide (a.fe=b.fe)&&((a.fh==b.fh)&&true))=true↔a=b:=by
 cases a;cases b;simp
def W7(a:Z7):Prop:=((a.fe.size:Int)=4∨(a.fe.size:Int)=16)∧1≤a.fh∧a.fh≤65535
theorem okAREAD(h:ByteArray):SOk (s179 h) (fun r=>(r.2=0↔((h.size:Int)=4∨(h.size:Int)=16))):=by
 show Ok (g179 h) _
 unfold g179
 refine Ok.n (R:=fun c=>(c=true↔¬((h.size:Int)=4∨(h.size:Int)=16))) ?_ fun c hc=>?_
 ·refine Ok.e (fun h1=>Ok.d ?_) (fun h1=>Ok.d ?_)
  ·simp at h1 ⊢;omega
  ·simp at h1 ⊢;omega
 ·refine Ok.e (fun h1=>Ok.d ?_) (fun h1=>Ok.d ?_)
  ·simp[hc.1 h1]
  ·subst h1;simp at hc ⊢;omega
theorem okACHECK(a:Z7):SOk (s101 a) (fun r=>(r=0↔((a.fe.size:Int)=4∨(a.fe.size:Int)=16)∧0≤a.fh∧a.fh≤65535)):=by
 show Ok (g101 a) _
 unfold g101
 refine Ok.c (okAREAD _) fun r hr=>?_
 refine Ok.n (R:=fun c=>(c=true↔¬(((a.fe.size:Int)=4∨(a.fe.size:Int)=16)∧0≤a.fh∧a.fh≤65535))) ?_ fun c hc=>?_
 ·refine Ok.e (fun h1=>Ok.d ?_) (fun h1=>Ok.e (fun h2=>Ok.d ?_) (fun h2=>Ok.d ?_))
  ·simp at h1 ⊢;rw[hr] at h1;omega
  ·simp at h2 ⊢;omega
  ·simp at h1 h2 ⊢;rw[hr] at h1;omega
 ·refine Ok.e (fun h1=>Ok.d ?_) (fun h1=>Ok.d ?_)
  ·simp;have:=hc.1 h1;omega
  ·subst h1;simp at hc ⊢;omega
theorem okCUSABLE(a:Z7):SOk (s232 a) (fun b=>(b=true↔W7 a)):=by
 show Ok (g232 a) _
 unfold g232
 refine Ok.n (R:=fun c=>(c=true↔W7 a)) ?_ fun c hc=>Ok.d hc
 refine Ok.c (okACHECK _) fun x hx=>?_
 unfold W7
 refine Ok.e (fun h1=>Ok.d ?_) (fun h1=>Ok.d ?_)
 ·simp at h1 ⊢;rw[hx] at h1;omega
 ·simp at h1 ⊢;rw[hx] at h1;omega
theorem okRUSABLE(a:Z7):SOk (s137 a) (fun b=>(b=true↔W7 a)):=by
 show Ok (g137 a) _
 unfold g137
 refine Ok.n (R:=fun c=>(c=true↔W7 a)) ?_ fun c hc=>Ok.d hc
 refine Ok.c (R:=fun c=>(c=true↔((a.fe.size:Int)=4∨(a.fe.size:Int)=16)∧0≤a.fh∧a.fh≤65535)) ?_ fun c hc=>?_
 ·show Ok (g213 a) _
  unfold g213
  refine Ok.n (R:=fun c=>(c=true↔((a.fe.size:Int)=4∨(a.fe.size:Int)=16)∧0≤a.fh∧a.fh≤65535)) ?_ fun c hc=>Ok.d hc
  refine Ok.c (R:=fun c=>(c=true↔((a.fe.size:Int)=4∨(a.fe.size:Int)=16))) ?_ fun c hc=>?_
  ·show Ok (g250 a.fe) _
   unfold g250
   refine Ok.n (R:=fun c=>(c=true↔((a.fe.size:Int)=4∨(a.fe.size:Int)=16))) ?_ fun c hc=>Ok.d hc
   refine Ok.e (fun h1=>Ok.d ?_) (fun h1=>Ok.d ?_)
   ·simp at h1 ⊢;exact .inl h1
   ·simp at h1 ⊢;omega
  ·refine Ok.e (fun h1=>Ok.e (fun h2=>Ok.d ?_) (fun h2=>Ok.d ?_)) (fun h1=>Ok.d ?_)
   ·rw[hc] at h1;simp at h2 ⊢;omega
   ·simp at h2 ⊢;omega
   ·subst h1;simp at hc ⊢;omega
 ·unfold W7
  refine Ok.e (fun h1=>Ok.d ?_) (fun h1=>Ok.d ?_)
  ·rw[hc] at h1;simp;omega
  ·subst h1;simp at hc ⊢;omega
theorem N6(n a b:Int):SOk (s231 n a b) (fun c=>(c=true↔a≤n∧n≤b)):=by
 show Ok (g231 n a b) _
 unfold g231
 refine Ok.n (R:=fun c=>(c=true↔a≤n∧n≤b)) ?_ fun c hc=>Ok.d hc
 refine Ok.e (fun h1=>Ok.d ?_) (fun h1=>Ok.d ?_)
 ·simp at h1 ⊢;omega
 ·simp at h1 ⊢;omega
def HexD(x:Int):Prop:=(48≤x∧x≤57)∨(97≤x∧x≤102)∨x=45
theorem bAt_lt(s:ByteArray)(i:Int):0≤bAt s i∧bAt s i < 256:=by
 unfold bAt
 refine⟨by omega,?_⟩
 have:=UInt8.toNat_lt (s.data.getD i.toNat 0)
 omega
theorem okCONT(x:Int)(h:0≤x∧x < 256):SOk (s266 x) (fun c=>(c=true↔HexD x)):=by
 show Ok (g266 x) _
 unfold g266
 obtain⟨n,rfl⟩:=Int.eq_ofNat_of_zero_le h.1
 have hn:n < 256:=by omega
 refine Ok.ceq ?_ ?_
 ·have:∀n:Fin 256,([0,1,2,3,4,5,6,7,8,9,10,11,12,13,14,15,16,17,18,19,20,21,22,23,24,25,26,27,28,29,30,31,32,33,34,35,36,37,38,39,40,41,42,43,44,45,46,47,48,49,50,51,52,53,54,55,56,57,58,59,60,61,62,63,64,65,66,67,68,69,70,71,72,73,74,75,76,77,78,79,80,81,82,83,84,85,86,87,88,89,90,91,92,93,94,95,96,97,98,99,100,101,102,103,104,105,106,107,108,109,110,111,112,113,114,115,116,117,118,119,120,121,122,123,124,125,126,127,128,129,130,131,132,133,134,135,136,137,138,139,140,141,142,143,144,145,146,147,148,149,150,151,152,153,154,155,156,157,158,159,160,161,162,163,164,165,166,167,168,169,170,171,172,173,174,175,176,177,178,179,180,181,182,183,184,185,186,187,188,189,190,191,192,193,194,195,196,197,198,199,200,201,202,203,204,205,206,207,208,209,210,211,212,213,214,215,216,217,218,219,220,221,222,223,224,225,226,227,228,229,230,231,232,233,234,235,236,237,238,239,240,241,242,243,244,245,246,247,248,249,250,251,252,253,254,255]:List Int).contains ((n.val:Nat):Int)=true:=by decide
  exact this ⟨n,hn⟩
 ·cases hb:([45,48,49,50,51,52,53,54,55,56,57,97,98,99,100,101,102]:List Int).contains (n:Int) with
  | true=>
   refine Ok.d ⟨fun _=>?_,fun _=>rfl⟩
   rw[List.contains_iff_mem] at hb
   simp only[ζv,ζw,or_false] at hb
   unfold HexD;omega
  | false=>
   refine Ok.d ⟨fun h=>by simp at h,fun h=>?_⟩
   have:¬(n:Int)∈([45,48,49,50,51,52,53,54,55,56,57,97,98,99,100,101,102]:List Int):=fun hm=>by
    rw[←List.contains_iff_mem] at hm;rw[hm] at hb;simp at hb
   simp only[ζv,ζw,or_false] at this
   unfold HexD at h;omega
def AllHex(s:ByteArray):Prop:=∀i:Nat,i < s.size→HexD (bAt s i)
theorem bAt_extract(s:ByteArray)(a b:Nat)(i:Nat)(hb:b≤s.size)(hi:a+i < b):bAt (s.extract a b) (i:Int)=bAt s ((a+i:Nat):Int):=by
 unfold bAt
 simp only[ζz]
 have:(s.extract a b).data[i]?=s.data[a+i]?:=by
  rw[ByteArray.data_extract,Array.getElem?_extract,if_pos (by have:s.data.size=s.size:=rfl;omega)]
 rw[ζW,ζW,this]
theorem size_extract(s:ByteArray)(a b:Nat)(hb:b≤s.size):(s.extract a b).size=b - a:=by
 rw[ByteArray.size_extract];omega
theorem empty_iff(s:ByteArray):s=ByteArray.empty↔s.size=0:=by
 constructor
 ·rintro rfl;rfl
 ·intro h
  exact ByteArray.ext (Array.eq_empty_of_size_eq_zero h)
theorem okTRIMR(s:ByteArray)(hs:s.size≤1000000):SOk (s247 s) (fun r=>∃n,n≤s.size∧r=s.extract 0 n∧(∀i,n≤i→i < s.size→HexD (bAt s i))∧(0 < n→¬HexD (bAt s ((n - 1:Nat):Int)))):=by
 show Ok (g247 s) _
 unfold g247
 refine Ok.b (R:=fun r=>∃n,n≤s.size∧r=s.extract 0 n∧(∀i,n≤i→i < s.size→HexD (bAt s i))∧(0 < n→¬HexD (bAt s ((n - 1:Nat):Int)))) ?_ fun e he=>Ok.d he
 refine Ok.lp (fun y=>∃n,n≤s.size∧y=s.extract 0 n∧∀i,n≤i→i < s.size→HexD (bAt s i)) (fun y=>y.size) ⟨s.size,ζK _,by rw[ByteArray.extract_zero_size],fun i h1 h2=>by omega⟩ (M1 (by omega)) fun y hy=>?_
 obtain⟨n,hn,rfl,hd⟩:=hy
 have hsz:(s.extract 0 n).size=n:=by rw[size_extract s 0 n hn];omega
 rw[hsz]
 refine Ok.e (fun hc=>?_) (fun hc=>Ok.d ?_)
 ·simp only[ζF] at hc
  have e:Q4 ((n:Int) - 1)=((n - 1:Nat):Int):=by rw[Z6 (by omega) (by omega)];omega
  rw[e]
  refine Ok.k (by simp;omega) ?_
  have eb:bAt (s.extract 0 n) ((n - 1:Nat):Int)=bAt s ((n - 1:Nat):Int):=by
   have:=bAt_extract s 0 n (n - 1) hn (by omega)
   rw[this];simp
  rw[eb]
  refine Ok.c (okCONT _ (bAt_lt _ _)) fun c hcc=>?_
  refine Ok.e (fun h1=>Ok.d ?_) (fun h1=>?_)
  ·exact⟨n,hn,rfl,hd,fun _ h=>by rw[hcc.2 h] at h1;simp at h1⟩
  ·refine Ok.k (by simp) (Ok.d ?_)
   have hcx:HexD (bAt s ((n - 1:Nat):Int)):=hcc.1 (by simpa using h1)
   refine⟨⟨n - 1,by omega,?_,fun i h2 h3=>?_⟩,?_⟩
   ·rw[ζz,ByteArray.extract_extract]
    congr 1
    omega
   ·by_cases h4:i=n - 1
    ·rw[h4];exact hcx
    ·exact hd i (by omega) h3
   ·show ((s.extract 0 n).extract 0 ((n - 1:Nat):Int).toNat).size < n
    rw[ζz,size_extract _ _ _ (by rw[hsz];omega)];omega
 ·simp only[ζG] at hc
  exact⟨n,hn,rfl,hd,fun h=>by omega⟩
theorem okTRIML(s:ByteArray)(hs:s.size≤1000000):SOk (s246 s) (fun r=>(r.size=0↔AllHex s)):=by
 show Ok (g246 s) _
 unfold g246
 refine Ok.b (R:=fun r=>(r.size=0↔AllHex s)) ?_ fun e he=>Ok.d he
 refine Ok.lp (fun y=>∃n,n≤s.size∧y=s.extract n s.size∧∀i,i < n→HexD (bAt s i)) (fun y=>y.size) ⟨0,Nat.zero_le _,by rw[ByteArray.extract_zero_size],fun i h=>by omega⟩ (M1 (by omega)) fun y hy=>?_
 obtain⟨n,hn,rfl,hd⟩:=hy
 have hsz:(s.extract n s.size).size=s.size - n:=size_extract s n s.size (ζK _)
 rw[hsz]
 refine Ok.e (fun hc=>?_) (fun hc=>Ok.d ?_)
 ·simp only[ζF] at hc
  refine Ok.k (by simp;omega) ?_
  have eb:bAt (s.extract n s.size) 0=bAt s (n:Int):=by
   have:=bAt_extract s n s.size 0 (ζK _) (by omega)
   simpa using this
  rw[eb]
  refine Ok.c (okCONT _ (bAt_lt _ _)) fun c hcc=>?_
  refine Ok.e (fun h1=>Ok.d ?_) (fun h1=>?_)
  ·show _↔_
   rw[hsz]
   refine⟨fun h=>by omega,fun h=>?_⟩
   have:=hcc.2 (h n (by omega))
   rw[this] at h1;simp at h1
  ·refine Ok.k (by simp;omega) (Ok.d ?_)
   refine⟨⟨n+1,by omega,?_,fun i hi=>?_⟩,?_⟩
   ·rw[ByteArray.extract_extract]
    congr 1<;>omega
   ·by_cases h4:i=n
    ·rw[h4];exact hcc.1 (by simpa using h1)
    ·exact hd i (by omega)
   ·show ((s.extract n s.size).extract 1 (s.size - n)).size < s.size - n
    rw[size_extract _ _ _ (by rw[hsz];omega)];omega
 ·simp only[ζG] at hc
  show _↔_
  rw[hsz]
  exact⟨fun _ i hi=>hd i (by omega),fun _=>by omega⟩
theorem okTRIM(s:ByteArray)(hs:s.size≤1000000):SOk (s212_1 s) (fun r=>(r=ByteArray.empty↔AllHex s)):=by
 show Ok (g212_1 s) _
 unfold g212_1
 refine Ok.n (R:=fun c=>c=decide (s=ByteArray.empty)) (Ok.e (fun h=>Ok.d h.symm) (fun h=>Ok.d h.symm)) fun c hc=>?_
 refine Ok.e (fun h1=>Ok.d ?_) (fun h1=>?_)
 ·rw[hc,ζF] at h1
  exact⟨fun _ i hi=>by rw[h1] at hi;exact absurd hi (by simp[ByteArray.size_empty]),fun _=>h1⟩
 ·refine Ok.ff (Ok.c (R:=fun _=>True) ⟨(),by kernel_rfl,trivial⟩ fun _ _=>Ok.tt (Ok.v (okTRIMR s hs) fun r hr=>?_))
  obtain⟨n,hn,rfl,hd,hl⟩:=hr
  have hsz:(s.extract 0 n).size=n:=by rw[size_extract s 0 n hn];omega
  refine Ok.v (okTRIML _ (by omega)) fun q hq=>Ok.d ?_
  rw[empty_iff,hq]
  have eb:∀i,i < n→bAt (s.extract 0 n) (i:Int)=bAt s (i:Int):=fun i hi=>by
   have:=bAt_extract s 0 n i hn (by omega)
   rw[this];simp
  constructor
  ·intro h i hi
   by_cases hin:i < n
   ·rw[←eb i hin];exact h i (by omega)
   ·exact hd i (by omega) hi
  ·intro h i hi
   rw[hsz] at hi
   rw[eb i hi];exact h i (by omega)
def R3(c:Q2):Prop:=
 (1≤c.fy∧c.fy≤4)∧(1≤c.fX∧c.fX≤256)∧(1≤c.ft∧c.ft≤2147483647)∧(1≤(c.fY.size:Int)∧(c.fY.size:Int)≤80)∧
 AllHex c.fY∧W7 c.fG∧W7 c.fT∧(c.fG.fe.size:Int)=(c.fT.fe.size:Int)∧(c.fG=c.fT∨c.fy=2∨c.fy=3)
theorem okCVALID(c:Q2):SOk (s220 c) (fun b=>(b=true↔R3 c)):=by
 show Ok (g220 c) _
 unfold g220 R3
 refine Ok.n (R:=fun b=>(b=true↔¬((1≤c.fy∧c.fy≤4)∧(1≤c.fX∧c.fX≤256)∧(1≤c.ft∧c.ft≤2147483647)∧(1≤(c.fY.size:Int)∧(c.fY.size:Int)≤80)))) ?_ fun b hb=>?_
 ·refine Ok.c (N6 _ _ _) fun r1 h1=>Ok.e (fun k1=>Ok.d ?_) (fun k1=>Ok.c (N6 _ _ _) fun r2 h2=>Ok.e (fun k2=>Ok.d ?_) (fun k2=>Ok.c (N6 _ _ _) fun r3 h3=>Ok.e (fun k3=>Ok.d ?_) (fun k3=>Ok.c (N6 _ _ _) fun r4 h4=>Ok.d ?_)))
  ·simp only[ζB] at k1;subst k1;simp at h1 ⊢;omega
  ·simp only[ζB] at k2;subst k2;simp at h2 ⊢;omega
  ·simp only[ζB] at k3;subst k3;simp at h3 ⊢;omega
  ·simp only[ζC] at k1 k2 k3
   rw[k1] at h1;rw[k2] at h2;rw[k3] at h3
   simp only[true_iff] at h1 h2 h3
   cases r4<;>simp at h4 ⊢<;>omega
 ·refine Ok.e (fun h1=>Ok.d ?_) (fun h1=>?_)
  ·have:=hb.1 h1
   exact⟨fun h=>by simp at h,fun h=>absurd ⟨h.1,h.2.1,h.2.2.1,h.2.2.2.1⟩ this⟩
  ·have hb':(1≤c.fy∧c.fy≤4)∧(1≤c.fX∧c.fX≤256)∧(1≤c.ft∧c.ft≤2147483647)∧(1≤(c.fY.size:Int)∧(c.fY.size:Int)≤80):=
    ζJ fun hn=>by rw[hb.2 hn] at h1;simp at h1
   refine Ok.n (R:=fun b=>(b=true↔¬(AllHex c.fY∧W7 c.fG∧W7 c.fT∧(c.fG.fe.size:Int)=(c.fT.fe.size:Int)))) ?_ fun b2 hb2=>?_
   ·refine Ok.c (okTRIM _ (by omega)) fun r hr=>Ok.e (fun k1=>Ok.d ?_) (fun k1=>Ok.c (okCUSABLE _) fun r2 h2=>Ok.e (fun k2=>Ok.d ?_) (fun k2=>Ok.c (okCUSABLE _) fun r3 h3=>Ok.e (fun k3=>Ok.d ?_) (fun k3=>Ok.d ?_)))
    ·simp only[ζB,ζG] at k1
     exact⟨fun _ h=>k1 (hr.2 h.1),fun _=>rfl⟩
    ·simp only[ζB] at k2;subst k2
     exact⟨fun _ h=>by have:=h2.2 h.2.1;simp at this,fun _=>rfl⟩
    ·simp only[ζB] at k3;subst k3
     exact⟨fun _ h=>by have:=h3.2 h.2.2.1;simp at this,fun _=>rfl⟩
    ·simp only[ζC,ζF] at k1 k2 k3
     have e1:=hr.1 k1;have e2:=h2.1 k2;have e3:=h3.1 k3
     simp only[bne_iff_ne]
     exact⟨fun h h'=>h h'.2.2.2,fun h h'=>h ⟨e1,e2,e3,h'⟩⟩
   ·refine Ok.e (fun h2=>Ok.d ?_) (fun h2=>?_)
    ·have:=hb2.1 h2
     exact⟨fun h=>by simp at h,fun h=>absurd ⟨h.q.1,h.q.2.1,h.q.2.2.1,h.q.2.2.2.1⟩ this⟩
    ·have hb3:AllHex c.fY∧W7 c.fG∧W7 c.fT∧(c.fG.fe.size:Int)=(c.fT.fe.size:Int):=
      ζJ fun hn=>by rw[hb2.2 hn] at h2;simp at h2
     refine Ok.n (R:=fun b=>(b=true↔(c.fG=c.fT∨c.fy=2∨c.fy=3))) ?_ fun b4 hb4=>Ok.d ?_
     ·refine Ok.e (fun k1=>Ok.d ?_) (fun k1=>Ok.e (fun k2=>Ok.d ?_) (fun k2=>Ok.d ?_))
      ·exact⟨fun _=>.inl (eA_iff.1 k1),fun _=>rfl⟩
      ·simp only[beq_iff_eq] at k2;exact⟨fun _=>.inr (.inl k2),fun _=>rfl⟩
      ·simp only[ζY,beq_iff_eq] at k2 ⊢
       have hne:c.fG≠c.fT:=fun e=>by rw[eA_iff.2 e] at k1;simp at k1
       exact⟨fun h=>.inr (.inr h),fun h=>by rcases h with h|h|h;exact absurd h hne;exact absurd h k2;exact h⟩
     ·rw[hb4]
      exact⟨fun h=>⟨hb'.1,hb'.2.1,hb'.2.2.1,hb'.2.2.2,hb3.1,hb3.2.1,hb3.2.2.1,hb3.2.2.2,h⟩,fun h=>h.q.q⟩
theorem okCCHECK(c:Q2):SOk (s155 c) (fun r=>(r=0↔R3 c)):=by
 show Ok (g155 c) _
 unfold g155
 refine Ok.c (okCVALID c) fun r hr=>Ok.e (fun k1=>Ok.d ?_) (fun k1=>Ok.d ?_)
 ·simp only[ζB] at k1;subst k1;simp at hr ⊢;exact hr
 ·simp only[ζC] at k1;subst k1;simp at hr ⊢;exact hr
theorem okRCAND(c:Q2):SOk (s152 c) (fun b=>(b=true↔R3 c)):=by
 show Ok (g152 c) _
 unfold g152 R3
 refine Ok.n (R:=fun b=>(b=true↔¬((1≤c.fy∧c.fy≤4)∧(1≤c.fX∧c.fX≤256)∧(1≤c.ft∧c.ft≤2147483647)∧(1≤(c.fY.size:Int)∧(c.fY.size:Int)≤80)))) ?_ fun b hb=>?_
 ·refine Ok.e (fun h1=>Ok.d ?_) (fun h1=>Ok.e (fun h2=>Ok.d ?_) (fun h2=>Ok.e (fun h3=>Ok.d ?_) (fun h3=>Ok.e (fun h4=>Ok.d ?_) (fun h4=>Ok.e (fun h5=>Ok.d ?_) (fun h5=>Ok.e (fun h6=>Ok.d ?_) (fun h6=>Ok.e (fun h7=>Ok.d ?_) (fun h7=>Ok.d ?_)))))))
  all_goals (simp at *;omega)
 ·refine Ok.e (fun h1=>Ok.d ?_) (fun h1=>?_)
  ·have:=hb.1 h1
   exact⟨fun h=>by simp at h,fun h=>absurd ⟨h.1,h.2.1,h.2.2.1,h.2.2.2.1⟩ this⟩
  ·have hb':(1≤c.fy∧c.fy≤4)∧(1≤c.fX∧c.fX≤256)∧(1≤c.ft∧c.ft≤2147483647)∧(1≤(c.fY.size:Int)∧(c.fY.size:Int)≤80):=
    ζJ fun hn=>by rw[hb.2 hn] at h1;simp at h1
   refine Ok.p (R:=fun e=>match e with|.inl _=>¬AllHex c.fY|.inr _=>AllHex c.fY) ?_ (fun e he=>Ok.d ?_) (fun e he=>?_)
   ·refine Ok.s c.fY.size (by omega) (fun k y=>y=(k:Int)∧∀i:Nat,i < k→HexD (bAt c.fY i)) ⟨rfl,fun i h=>by omega⟩ (fun k y hy hk=>?_) (fun y hy=>?_)
    ·obtain⟨rfl,hd⟩:=hy
     refine Ok.e (fun hc=>?_) (fun hc=>by simp at hc;omega)
     refine Ok.k (by simp;omega) ?_
     generalize hx:bAt c.fY (k:Int)=x
     refine Ok.n (R:=fun b=>(b=true↔¬HexD x)) ?_ fun b2 hb2=>?_
     ·unfold HexD
      refine Ok.e (fun p1=>Ok.e (fun p2=>Ok.e (fun p3=>Ok.e (fun p4=>Ok.d ?_) (fun p4=>Ok.d ?_)) (fun p3=>Ok.d ?_)) (fun p2=>Ok.d ?_)) (fun p1=>Ok.e (fun p3=>Ok.e (fun p4=>Ok.d ?_) (fun p4=>Ok.d ?_)) (fun p3=>Ok.d ?_))
      all_goals (simp at *;omega)
     ·refine Ok.e (fun p1=>Ok.d ?_) (fun p1=>Ok.d ?_)
      ·show ¬AllHex _
       intro h
       exact hb2.1 p1 (by rw[←hx];exact h k hk)
      ·refine⟨J9 hk (by omega),fun i hi=>?_⟩
       by_cases h4:i=k
       ·rw[h4,hx];exact ζJ fun hn=>by rw[hb2.2 hn] at p1;simp at p1
       ·exact hd i (by omega)
    ·obtain⟨rfl,hd⟩:=hy
     refine Ok.e (fun hc=>by simp at hc) (fun hc=>Ok.d ?_)
     exact fun i hi=>hd i hi
   ·exact⟨fun h=>by simp at h,fun h=>absurd h.q.1 he⟩
   ·have he:AllHex c.fY:=he
    refine Ok.n (R:=fun b=>(b=true↔¬(W7 c.fG∧W7 c.fT∧(c.fG.fe.size:Int)=(c.fT.fe.size:Int)))) ?_ fun b2 hb2=>?_
    ·refine Ok.c (okRUSABLE _) fun r2 h2=>Ok.e (fun k2=>Ok.d ?_) (fun k2=>Ok.c (okRUSABLE _) fun r3 h3=>Ok.e (fun k3=>Ok.d ?_) (fun k3=>Ok.d ?_))
     ·simp only[ζB] at k2;subst k2
      exact⟨fun _ h=>by have:=h2.2 h.1;simp at this,fun _=>rfl⟩
     ·simp only[ζB] at k3;subst k3
      exact⟨fun _ h=>by have:=h3.2 h.2.1;simp at this,fun _=>rfl⟩
     ·simp only[ζC] at k2 k3
      have e2:=h2.1 k2;have e3:=h3.1 k3
      simp only[bne_iff_ne]
      exact⟨fun h h'=>h h'.2.2,fun h h'=>h ⟨e2,e3,h'⟩⟩
    ·refine Ok.e (fun h2=>Ok.d ?_) (fun h2=>?_)
     ·have:=hb2.1 h2
      exact⟨fun h=>by simp at h,fun h=>absurd ⟨h.q.2.1,h.q.2.2.1,h.q.2.2.2.1⟩ this⟩
     ·have hb3:W7 c.fG∧W7 c.fT∧(c.fG.fe.size:Int)=(c.fT.fe.size:Int):=
       ζJ fun hn=>by rw[hb2.2 hn] at h2;simp at h2
      refine Ok.n (R:=fun b=>(b=true↔(c.fG=c.fT∨c.fy=2∨c.fy=3))) ?_ fun b4 hb4=>Ok.d ?_
      ·have hk:=hb'.1
       refine Ok.e (fun k1=>Ok.d ?_) (fun k1=>Ok.e (fun k2=>Ok.d ?_) (fun k2=>Ok.d ?_))
       ·exact⟨fun _=>.inl (eA_iff.1 k1),fun _=>rfl⟩
       ·have hne:c.fG≠c.fT:=fun e=>by rw[eA_iff.2 e] at k1;simp at k1
        simp only[bne_iff_ne] at k2 ⊢
        exact⟨fun h=>.inr (by omega),fun h=>by rcases h with h|h;exact absurd h hne;omega⟩
       ·have hne:c.fG≠c.fT:=fun e=>by rw[eA_iff.2 e] at k1;simp at k1
        simp only[bne_eq_false_iff_eq] at k2
        exact⟨fun h=>by simp at h,fun h=>by rcases h with h|h;exact absurd h hne;omega⟩
      ·rw[hb4]
       exact⟨fun h=>⟨hb'.1,hb'.2.1,hb'.2.2.1,hb'.2.2.2,he,hb3.1,hb3.2.1,hb3.2.2,h⟩,fun h=>h.q.q⟩
def H9(l:List Q2):Prop:=∀c,c∈l→R3 c
theorem okCANDS(l:List Q2)(hl:l.length≤1000000):SOk (s76 l) (fun b=>(b=true↔H9 l)):=by
 show Ok (g76 l) _
 unfold g76
 refine Ok.c (R:=fun b=>(b=true↔¬H9 l)) ?_ fun b hb=>Ok.d ?_
 ·show Ok (g153 l) _
  unfold g153
  refine Ok.c (R:=fun i=>(0≤i↔¬H9 l)) ?_ fun i hi=>Ok.d (by simpa using hi)
  show Ok (g102 l) _
  unfold g102
  refine Ok.p (R:=fun e=>match e with|.inl i=>0≤i∧¬H9 l|.inr _=>H9 l) ?_ (fun e he=>Ok.d ⟨fun _=>he.2,fun _=>he.1⟩) (fun e he=>Ok.d ⟨fun h=>by simp at h,fun h=>absurd he h⟩)
  refine Ok.s l.length hl (fun k y=>y=(k:Int)∧∀j c,j < k→l[j]?=some c→R3 c) ⟨rfl,fun j c h=>by omega⟩ (fun k y hy hk=>?_) (fun y hy=>?_)
  ·obtain⟨rfl,hd⟩:=hy
   rw[E7]
   refine Ok.e (fun hc=>?_) (fun hc=>by simp at hc;omega)
   obtain⟨x,hx1,hx2⟩:=A6 hk
   refine Ok.r (by simp) hx1 ?_
   refine Ok.c (R:=fun b=>(b=true↔¬R3 x)) ?_ fun b hb=>?_
   ·show Ok (g154 x) _
    unfold g154
    exact Ok.c (okCCHECK x) fun r hr=>Ok.d (by rw[bne_iff_ne];exact not_congr hr)
   ·refine Ok.e (fun p1=>Ok.d ?_) (fun p1=>Ok.d ?_)
    ·exact⟨by omega,fun h=>hb.1 p1 (h x (ζi hx2))⟩
    ·exact⟨J9 hk hl,upto2 (p:=R3) hd hx2 (ζJ fun hn=>by rw[hb.2 hn] at p1;simp at p1)⟩
  ·obtain⟨rfl,hd⟩:=hy
   rw[E7]
   refine Ok.e (fun hc=>by simp at hc) (fun hc=>Ok.d ?_)
   intro c hc
   obtain⟨j,hj⟩:=ζh.1 hc
   exact hd j c (ζe.1 hj).1 hj
 ·cases b<;>simp at hb ⊢<;>exact hb
def c0:Q2:=⟨0,0,0,ByteArray.empty,⟨ByteArray.empty,0⟩,⟨ByteArray.empty,0⟩⟩
def V3(l:Y3)(x:Q6):Q2:=(l.fu[x.fH.toNat]?).getD c0
def remC(l:Y3)(x:Q6):Q2:=(l.fw[x.fJ.toNat]?).getD c0
def InB(l:Y3)(x:Q6):Prop:=(0≤x.fH∧x.fH < (l.fu.length:Int))∧(0≤x.fJ∧x.fJ < (l.fw.length:Int))
theorem InB.loc{l:Y3}{x:Q6}(h:InB l x):l.fu[x.fH.toNat]?=some (V3 l x):=by
 obtain⟨y,hy⟩:=at_of h.1.1 h.1.2
 unfold V3;rw[hy];rfl
theorem InB.rem{l:Y3}{x:Q6}(h:InB l x):l.fw[x.fJ.toNat]?=some (remC l x):=by
 obtain⟨y,hy⟩:=at_of h.2.1 h.2.2
 unfold remC;rw[hy];rfl
theorem InB.lc{l:Y3}{x:Q6}(h:InB l x):decide (0≤x.fH)=true:=by simpa using h.1.1
theorem InB.rc{l:Y3}{x:Q6}(h:InB l x):decide (0≤x.fJ)=true:=by simpa using h.2.1
theorem InB.locOk{l:Y3}{x:Q6}(h:InB l x)(hc:H9 l.fu):R3 (V3 l x):=hc _ (ζi h.loc)
theorem InB.remOk{l:Y3}{x:Q6}(h:InB l x)(hc:H9 l.fw):R3 (remC l x):=hc _ (ζi h.rem)
def ppr(a b:Int):Int:=if b < a then b * 4294967296+2 * a+1 else a * 4294967296+2 * b
theorem okPP(a b:Int)(ha:1≤a∧a≤2147483647)(hb:1≤b∧b≤2147483647):SOk (s183 a b) (fun r=>r=(ppr a b,0)):=by
 show Ok (g183 a b) _
 unfold g183
 refine Ok.n (R:=fun c=>c=false) (Ok.c (N6 _ _ _) fun r hr=>Ok.e (fun k=>?_) (fun k=>Ok.c (N6 _ _ _) fun r2 hr2=>Ok.d ?_)) fun c hc=>?_
 ·simp only[ζB] at k;subst k;have:=hr.2 ha;simp at this
 ·cases r2 with
  | true=>rfl
  | false=>have:=hr2.2 hb;simp at this
 ·subst hc
  have sh:∀x:Int,1≤x→x≤2147483647→V9 .i64 x 32=x * 4294967296:=fun x h1 h2=>by
   show IntKind.i64.wrap (x * 2 ^ (min (32:Int).toNat 64))=_
   have e:(2:Int) ^ (min (32:Int).toNat 64)=4294967296:=by decide
   rw[e]
   exact Z6 (by omega) (by omega)
  refine Ok.f rfl (Ok.e (fun h=>Ok.d ?_) (fun h=>Ok.d ?_))
  ·simp only[ζF] at h
   have e1:(if b < a then b else a)=b:=if_pos h
   have e2:(if b > a then b else a)=a:=if_neg (by omega)
   rw[e1,e2,sh b hb.1 hb.2,Z6 (n:=2 * a) (by omega) (by omega),Z6 (n:=b * 4294967296+2 * a) (by omega) (by omega),Z6 (by omega) (by omega)]
   unfold ppr;rw[if_pos h]
  ·simp only[ζG] at h
   have e1:(if b < a then b else a)=a:=if_neg h
   have e2:(if b > a then b else a)=b:=by split<;>omega
   rw[e1,e2,sh a ha.1 ha.2,Z6 (n:=2 * b) (by omega) (by omega),Z6 (by omega) (by omega)]
   unfold ppr;rw[if_neg h]
def prio(l:Y3)(x:Q6):Int:=bif l.fo then ppr (V3 l x).ft (remC l x).ft else ppr (remC l x).ft (V3 l x).ft
theorem okPRIO(l:Y3)(x:Q6)(h:InB l x)(hl:H9 l.fu)(hr:H9 l.fw):SOk (s156 (U0.mk l) x) (fun r=>r=prio l x):=by
 show Ok (g156 (U0.mk l) x) _
 unfold g156 prio
 have h1:=(h.locOk hl).2.2.1
 have h2:=(h.remOk hr).2.2.1
 refine Ok.r h.lc h.loc (Ok.r h.rc h.rem ?_)
 cases l.fo with
 | false=>exact Ok.b (R:=fun e=>e=((remC l x).ft,(V3 l x).ft)) (Ok.t rfl (Ok.d rfl)) fun e he=>by subst he;exact Ok.c (okPP _ _ h2 h1) fun r hr=>Ok.d (by rw[hr];rfl)
 | true=>exact Ok.b (R:=fun e=>e=((V3 l x).ft,(remC l x).ft)) (Ok.f rfl (Ok.d rfl)) fun e he=>by subst he;exact Ok.c (okPP _ _ h1 h2) fun r hr=>Ok.d (by rw[hr];rfl)
def A2(l:Y3)(x:Q6):SLike:=⟨(V3 l x).fT,(remC l x).fG,(V3 l x).fX⟩
def foundK(l:Y3)(x:Q6):R1:=⟨(V3 l x).fY,(remC l x).fY⟩
theorem okLIKE(l:Y3)(x:Q6)(h:InB l x):SOk (s82 (U0.mk l) x) (fun r=>r=A2 l x):=by
 show Ok (g82 (U0.mk l) x) _
 unfold g82
 exact Ok.r h.lc h.loc (Ok.r h.rc h.rem (Ok.d rfl))
theorem okFOUND(l:Y3)(x:Q6)(h:InB l x):SOk (s83 (U0.mk l) x) (fun r=>r=foundK l x):=by
 show Ok (g83 (U0.mk l) x) _
 unfold g83
 exact Ok.r h.lc h.loc (Ok.r h.rc h.rem (Ok.d rfl))
def FitP(a b:Q2):Prop:=a.fX=b.fX∧(a.fG.fe.size:Int)=(b.fG.fe.size:Int)
theorem okFIT(a b:Q2):SOk (s157 a b) (fun c=>(c=true↔FitP a b)):=by
 show Ok (g157 a b) _
 unfold g157 FitP
 refine Ok.n (R:=fun c=>(c=true↔a.fX=b.fX∧(a.fG.fe.size:Int)=(b.fG.fe.size:Int))) ?_ fun c hc=>Ok.d hc
 refine Ok.e (fun h=>Ok.d ?_) (fun h=>Ok.d ?_)
 ·rw[beq_iff_eq] at h ⊢;exact⟨fun k=>⟨h,k⟩,fun k=>k.2⟩
 ·rw[ζY] at h;exact⟨fun k=>by simp at k,fun k=>absurd k.1 h⟩
def PairOk(l:Y3)(x:Q6):Prop:=InB l x∧(0≤x.fD∧x.fD≤4)∧FitP (V3 l x) (remC l x)∧x.ft=prio l x
def HeadOk(l:Y3):Prop:=l.fu.length≤12∧l.fw.length≤12∧l.fm.length≤36∧H9 l.fu∧H9 l.fw
def X6(l:Y3):Prop:=HeadOk l∧(∀x,x∈l.fm→PairOk l x)∧(l.fm.map (A2 l)).Nodup
theorem likeP_iff{a b:SLike}:((decide (a.fL.fe=b.fL.fe))&&((a.fL.fh==b.fL.fh)&&((decide (a.fM.fe=b.fM.fe))&&((a.fM.fh==b.fM.fh)&&((a.gg==b.gg)&&true)))))=true↔a=b:=by
 obtain⟨⟨a1,a2⟩,⟨a3,a4⟩,a5⟩:=a
 obtain⟨⟨b1,b2⟩,⟨b3,b4⟩,b5⟩:=b
 simp only[ζA,ζF,beq_iff_eq,and_true,SLike.mk.injEq,Z7.mk.injEq,and_assoc]
theorem okVALID(l:Y3):SOk (s160 (U0.mk l)) (fun b=>(b=true↔X6 l)):=by
 show Ok (g160 (U0.mk l)) _
 unfold g160 X6
 simp only[E7]
 refine Ok.n (R:=fun b=>(b=true↔¬HeadOk l)) ?_ fun b hb=>?_
 ·unfold HeadOk
  refine Ok.e (fun k1=>Ok.d ?_) (fun k1=>Ok.e (fun k2=>Ok.d ?_) (fun k2=>Ok.e (fun k3=>Ok.d ?_) (fun k3=>?_)))
  ·simp only[ζF] at k1;exact⟨fun _ h=>by omega,fun _=>rfl⟩
  ·simp only[ζF] at k2;exact⟨fun _ h=>by omega,fun _=>rfl⟩
  ·simp only[ζF] at k3;exact⟨fun _ h=>by omega,fun _=>rfl⟩
  ·simp only[ζG] at k1 k2 k3
   refine Ok.c (okCANDS _ (by omega)) fun r1 h1=>Ok.e (fun k4=>Ok.d ?_) (fun k4=>Ok.c (okCANDS _ (by omega)) fun r2 h2=>Ok.d ?_)
   ·simp only[ζB] at k4;subst k4
    exact⟨fun _ h=>by have:=h1.2 h.2.2.2.1;simp at this,fun _=>rfl⟩
   ·simp only[ζC] at k4
    have e1:=h1.1 k4
    cases r2 with
    | true=>exact⟨fun h=>by simp at h,fun h=>absurd ⟨by omega,by omega,by omega,e1,h2.1 rfl⟩ h⟩
    | false=>exact⟨fun _ h=>by have:=h2.2 h.q;simp at this,fun _=>rfl⟩
 ·refine Ok.e (fun h1=>Ok.d ⟨fun h=>by simp at h,fun h=>absurd h.1 (hb.1 h1)⟩) (fun h1=>?_)
  have hH:HeadOk l:=ζJ fun hn=>by rw[hb.2 hn] at h1;simp at h1
  refine Ok.o rfl ?_
  refine Ok.p (R:=fun e=>match e with|.inl _=>¬((∀x,x∈l.fm→PairOk l x)∧(l.fm.map (A2 l)).Nodup)|.inr _=>(∀x,x∈l.fm→PairOk l x)∧(l.fm.map (A2 l)).Nodup) ?_ (fun e he=>Ok.d ⟨fun h=>by simp at h,fun h=>absurd h.2 he⟩) (fun e he=>Ok.d ⟨fun _=>⟨hH,he⟩,fun _=>rfl⟩)
  have hlen:l.fm.length≤36:=hH.2.2.1
  refine Ok.s l.fm.length (by omega) (fun k y=>y.2=(k:Int)∧R0 O2.fk O2.fv y.1 ((l.fm.take k).map (A2 l))∧(∀j x,j < k→l.fm[j]?=some x→PairOk l x)∧((l.fm.take k).map (A2 l)).Nodup) ⟨rfl,R0.nil _ _,fun j c h=>by omega,by simp⟩ (fun k y hy hk=>?_) (fun y hy=>?_)
  ·obtain⟨hi,hs,hd,hn⟩:=hy
   obtain⟨y1,y2⟩:=y
   simp only at hi hs
   subst hi
   refine Ok.e (fun hc=>?_) (fun hc=>by simp at hc;omega)
   obtain⟨x,hx1,hx2⟩:=A6 hk
   have hxm:=ζi hx2
   refine Ok.r (by simp) hx1 ?_
   refine Ok.n (R:=fun b=>(b=true↔¬(InB l x∧(0≤x.fD∧x.fD≤4)))) ?_ fun b2 hb2=>?_
   ·unfold InB
    refine Ok.e (fun k1=>Ok.d ?_) (fun k1=>Ok.e (fun k2=>Ok.d ?_) (fun k2=>Ok.e (fun k3=>Ok.d ?_) (fun k3=>Ok.e (fun k4=>Ok.d ?_) (fun k4=>Ok.e (fun k5=>Ok.d ?_) (fun k5=>Ok.d ?_)))))
    all_goals (simp only[ζF,ζG] at *;first|(exact⟨fun _ h=>by omega,fun _=>trivial⟩)|(constructor<;>intro h<;>omega))
   ·refine Ok.e (fun k1=>Ok.d ?_) (fun k1=>?_)
    ·exact fun h=>hb2.1 k1 ⟨(h.1 x hxm).1,(h.1 x hxm).2.1⟩
    ·have hIS:InB l x∧(0≤x.fD∧x.fD≤4):=ζJ fun hn=>by rw[hb2.2 hn] at k1;simp at k1
     obtain⟨hI,hS⟩:=hIS
     refine Ok.n (R:=fun b=>(b=true↔¬(FitP (V3 l x) (remC l x)∧x.ft=prio l x∧A2 l x∉(l.fm.take k).map (A2 l)))) ?_ fun b3 hb3=>?_
     ·refine Ok.r hI.lc hI.loc (Ok.r hI.rc hI.rem (Ok.c (okFIT _ _) fun f hf=>Ok.e (fun k2=>Ok.d ?_) (fun k2=>Ok.c (okPRIO l x hI hH.2.2.2.1 hH.q) fun p hp=>Ok.e (fun k3=>Ok.d ?_) (fun k3=>Ok.c (okLIKE l x hI) fun q hq=>Ok.o rfl (Ok.d ?_)))))
      ·simp only[ζB] at k2;subst k2
       exact⟨fun _ h=>by have:=hf.2 h.1;simp at this,fun _=>rfl⟩
      ·rw[bne_iff_ne,hp] at k3
       exact⟨fun _ h=>k3 h.2.1,fun _=>rfl⟩
      ·simp only[ζC] at k2
       rw[bne_eq_false_iff_eq,hp] at k3
       subst hq
       rw[hs.look (x:=A2 l x) (fun e=>likeP_iff)]
       exact⟨fun h h'=>h'.2.2 h,fun h=>ζJ fun h'=>h ⟨hf.1 k2,k3,h'⟩⟩
     ·refine Ok.e (fun k2=>Ok.d ?_) (fun k2=>?_)
      ·intro h
       have hP:=h.1 x hxm
       refine hb3.1 k2 ⟨hP.2.2.1,hP.2.2.2,fun hm=>?_⟩
       have h2:=h.2
       rw[←List.take_append_drop (k+1) l.fm,ζp,F5 hx2] at h2
       exact(nodup_app.1 (List.nodup_append.1 h2).1).2 hm
      ·have h3:FitP (V3 l x) (remC l x)∧x.ft=prio l x∧A2 l x∉(l.fm.take k).map (A2 l):=ζJ fun hn=>by rw[hb3.2 hn] at k2;simp at k2
       refine Ok.c (okLIKE l x hI) fun q hq=>Ok.o rfl (Ok.d ?_)
       subst hq
       refine⟨J9 hk (by omega),?_,upto2 (p:=PairOk l) hd hx2 ⟨hI,hS,h3.1,h3.2.1⟩,?_⟩
       ·rw[F5 hx2]
        exact hs.put (x:=A2 l x) (fun e=>likeP_iff) rfl rfl
       ·rw[F5 hx2]
        exact nodup_app.2 ⟨hn,h3.2.2⟩
  ·obtain⟨hi,hs,hd,hn⟩:=hy
   obtain⟨y1,y2⟩:=y
   simp only at hi hs
   subst hi
   refine Ok.e (fun hc=>by simp at hc) (fun hc=>Ok.d ⟨fun x hx=>?_,by simpa using hn⟩)
   obtain⟨j,hj⟩:=ζh.1 hx
   exact hd j x (ζe.1 hj).1 hj
theorem Ok.sub{P:Program}{G:Nat→Option (List V)}{ρ:Type}{Q:ρ→Prop}{ε:Type}{S:Sub P G ε}{k:ε→T P G ρ}{r:ε}(hr:S.o=some r)(h:Ok (k r) Q):Ok (.sub S k) Q:=by
 obtain⟨x,e,hq⟩:=h
 exact⟨x,by simp only[T.run,hr];exact e,hq⟩
theorem V7{α:Type}(p:α→Bool):∀(l:List α) (i:Nat) (x y:α),l[i]?=some x→(l.set i y).countP p+(if p x then 1 else 0)=l.countP p+(if p y then 1 else 0)
 | [],i,x,y,h=>by simp at h
 | a :: l,0,x,y,h=>by
  obtain rfl:a=x:=by simpa using h
  simp only[List.set_cons_zero,List.countP_cons];omega
 | a :: l,i+1,x,y,h=>by
  have ih:=V7 p l i x y (by simpa using h)
  simp only[List.set_cons_succ,List.countP_cons];omega
def B8(x:Q6):Bool:=x.fD==2 || x.fD==4
def wt(c:Q8):Nat:=(5 - c.fU).toNat
def ckW:List Q8→Nat
 | []=>0
 | c :: l=>wt c+ckW l
theorem ckW_set:∀(l:List Q8) (i:Nat) (x y:Q8),l[i]?=some x→ckW (l.set i y)+wt x=ckW l+wt y
 | [],i,x,y,h=>by simp at h
 | a :: l,0,x,y,h=>by
  obtain rfl:a=x:=by simpa using h
  simp only[List.set_cons_zero,ckW];omega
 | a :: l,i+1,x,y,h=>by
  have ih:=ckW_set l i x y (by simpa using h)
  simp only[List.set_cons_succ,ckW];omega
theorem ckW_erase:∀(l:List Q8) (i:Nat) (x:Q8),l[i]?=some x→ckW (l.eraseIdx i)+wt x=ckW l
 | [],i,x,h=>by simp at h
 | a :: l,0,x,h=>by
  obtain rfl:a=x:=by simpa using h
  simp only[List.eraseIdx_zero,List.tail_cons,ckW];omega
 | a :: l,i+1,x,h=>by
  have ih:=ckW_erase l i x (by simpa using h)
  simp only[List.eraseIdx_cons_succ,ckW];omega
theorem ckW_snoc:∀(l:List Q8) (x:Q8),ckW (l++[x])=ckW l+wt x
 | [],x=>by simp[ckW]
 | a :: l,x=>by
  have ih:=ckW_snoc l x
  simp only[List.cons_append,ckW,ih];omega
def pw(t:Int):Int:=if t=1 then 200 else if t=2 then 600 else if t=3 then 1400 else 3000
def CkP(ser n now:Int)(ctl:Bool)(c:Q8):Prop:=
 (0≤c.fp∧c.fp < ser)∧(0≤c.fE∧c.fE < n)∧(1≤c.fU∧c.fU≤4)∧c.fF=false∧c.fo=ctl∧now≤c.gd∧c.gd≤3050 * c.fp+pw c.fU
def StP(x:Q6):Prop:=x.fD=0∨x.fD=1∨x.fD=2∨x.fD=4
structure CkI(ser n now:Int)(ctl:Bool)(ps:List Q6)(L:List Q8):Prop where
 each:∀c,c∈L→CkP ser n now ctl c
 apart:∀(j k:Nat) a b,j < k→L[j]?=some a→L[k]?=some b→a.fp < b.fp∧a.fE≠b.fE
 st:∀x,x∈ps→StP x
 run:∀(i:Nat) x,ps[i]?=some x→(x.fD=2↔∃c,c∈L∧c.fE=(i:Int))
 len:n=(ps.length:Int)
 ser:ser=(ps.countP B8:Int)
def Tot(ser:Int)(L:List Q8)(id v:Int):Prop:=
 ((id < 0∨ser≤id)∧v=0)∨(∃c,c∈L∧c.fp=id∧v=c.fU)∨((0≤id∧id < ser)∧(∀c,c∈L→c.fp≠id)∧v=4)
def cnt(id:Int)(o:List Y6):Int:=(o.countP (fun h=>h.fj.fp==id):Int)
theorem cnt_nil(id:Int):cnt id []=0:=rfl
theorem cnt_snoc(id:Int)(o:List Y6)(h:Y6):cnt id (o++[h])=cnt id o+(if id=h.fj.fp then 1 else 0):=by
 unfold cnt
 rw[List.countP_append]
 by_cases e:id=h.fj.fp
 ·rw[if_pos e];subst e;simp
 ·rw[if_neg e]
  have:(h.fj.fp==id)=false:=by rw[ζY];exact fun k=>e k.symm
  simp[List.countP_cons,this]
section
variable {ser n now:Int} {ctl:Bool} {ps:List Q6} {L:List Q8}
theorem CkI.same_id(h:CkI ser n now ctl ps L){j k:Nat}{a b:Q8}(ha:L[j]?=some a)(hb:L[k]?=some b)(e:a.fp=b.fp):j=k:=by
 rcases Nat.lt_trichotomy j k with h1|h1|h1
 ·have:=(h.apart j k a b h1 ha hb).1;omega
 ·exact h1
 ·have:=(h.apart k j b a h1 hb ha).1;omega
theorem CkI.same_pair(h:CkI ser n now ctl ps L){j k:Nat}{a b:Q8}(ha:L[j]?=some a)(hb:L[k]?=some b)(e:a.fE=b.fE):j=k:=by
 rcases Nat.lt_trichotomy j k with h1|h1|h1
 ·exact absurd e (h.apart j k a b h1 ha hb).2
 ·exact h1
 ·exact absurd e.symm (h.apart k j b a h1 hb ha).2
theorem CkI.later(h:CkI ser n now ctl ps L){t:Int}(ht:∀c,c∈L→t≤c.gd):CkI ser n t ctl ps L:=
 ⟨fun c hc=>let ⟨a,b,d,e,f,_,g⟩:=h.each c hc;⟨a,b,d,e,f,ht c hc,g⟩,h.apart,h.st,h.run,h.len,h.ser⟩
theorem CkI.low(h:CkI ser n now ctl ps L):0≤ser∧ser≤n:=by
 rw[h.ser,h.len]
 have:=List.countP_le_length (p:=B8) (l:=ps)
 omega
theorem set_at{α:Type}{l:List α}{i j:Nat}{x y:α}(h:(l.set i y)[j]?=some x):(j=i∧x=y)∨(j≠i∧l[j]?=some x):=by
 by_cases e:j=i
 ·subst e
  have hj:=(ζe.1 h).1
  rw[ζj (by simpa using hj)] at h
  exact .inl ⟨rfl,(ζR h).symm⟩
 ·rw[ζk (Ne.symm e)] at h
  exact .inr ⟨e,h⟩
theorem CkI.again(h:CkI ser n now ctl ps L){i:Nat}{c c':Q8}(hc:L[i]?=some c)(ht:c.fU < 4)(hd:c.gd≤now)
  (e1:c'.fp=c.fp) (e2:c'.fE=c.fE) (e3:c'.fU=c.fU+1) (e4:c'.fF=c.fF) (e5:c'.fo=c.fo) (e6:c'.gd=now+(pw (c.fU+1) - pw c.fU)) :
  CkI ser n now ctl ps (L.set i c')∧ckW (L.set i c') < ckW L∧now < c'.gd∧(∀id v,Tot ser L id v→Tot ser (L.set i c') id (v+if id=c.fp then 1 else 0)):=by
 have hi:=(ζe.1 hc).1
 have hm:=ζi hc
 obtain⟨p1,p2,p3,p4,p5,p6,p7⟩:=h.each c hm
 have hpw:0 < pw (c.fU+1) - pw c.fU:=by
  have:c.fU=1∨c.fU=2∨c.fU=3:=by omega
  rcases this with e|e|e<;>rw[e]<;>decide
 have hs:(L.set i c')[i]?=some c':=ζj hi
 refine⟨⟨fun d hd2=>?_,fun j k a b hjk ha hb=>?_,h.st,fun j x hx=>?_,h.len,h.ser⟩,?_,by omega,fun id v hv=>?_⟩
 ·obtain⟨j,hj⟩:=ζh.1 hd2
  rcases set_at hj with⟨_,rfl⟩|⟨_,hj⟩
  ·refine⟨by rw[e1];exact p1,by rw[e2];exact p2,by rw[e3];omega,e4.trans p4,e5.trans p5,by omega,?_⟩
   rw[e1,e3,e6];omega
  ·exact h.each d (ζi hj)
 ·rcases set_at ha with⟨ja,rfl⟩|⟨_,ha2⟩<;>rcases set_at hb with⟨jb,rfl⟩|⟨_,hb2⟩
  ·omega
  ·subst ja;rw[e1,e2];exact h.apart _ _ _ _ hjk hc hb2
  ·subst jb;rw[e1,e2];exact h.apart _ _ _ _ hjk ha2 hc
  ·exact h.apart _ _ _ _ hjk ha2 hb2
 ·rw[h.run j x hx]
  constructor
  ·rintro⟨d,d1,d2⟩
   obtain⟨k,hk⟩:=ζh.1 d1
   by_cases e:k=i
   ·subst e;rw[hc] at hk;obtain rfl:=ζR hk
    exact⟨c',ζi hs,e2.trans d2⟩
   ·exact⟨d,ζi ((ζk (Ne.symm e)).trans hk),d2⟩
  ·rintro⟨d,d1,d2⟩
   obtain⟨k,hk⟩:=ζh.1 d1
   rcases set_at hk with⟨_,rfl⟩|⟨_,hk⟩
   ·exact⟨c,hm,e2.symm.trans d2⟩
   ·exact⟨d,ζi hk,d2⟩
 ·have:=ckW_set L i c c' hc
  unfold wt at this
  omega
 ·rcases hv with⟨v1,rfl⟩|⟨d,d1,d2,rfl⟩|⟨v1,v2,rfl⟩
  ·exact .inl ⟨v1,by rw[if_neg (by omega)];rfl⟩
  ·obtain⟨k,hk⟩:=ζh.1 d1
   by_cases e:k=i
   ·subst e;rw[hc] at hk;obtain rfl:=ζR hk
    exact .inr (.inl ⟨c',ζi hs,e1.trans d2,by rw[if_pos d2.symm,e3]⟩)
   ·refine .inr (.inl ⟨d,ζi ((ζk (Ne.symm e)).trans hk),d2,?_⟩)
    rw[if_neg (fun e2=>e (h.same_id hk hc (d2.trans e2)))];omega
  ·refine .inr (.inr ⟨v1,fun d d1=>?_,by rw[if_neg (fun e=>v2 c hm e.symm)];rfl⟩)
   obtain⟨k,hk⟩:=ζh.1 d1
   rcases set_at hk with⟨_,rfl⟩|⟨_,hk⟩
   ·rw[e1];exact v2 c hm
   ·exact v2 d (ζi hk)
theorem erase_at{α:Type}{l:List α}{i j:Nat}{x:α}(h:(l.eraseIdx i)[j]?=some x):(j < i∧l[j]?=some x)∨(i≤j∧l[j+1]?=some x):=by
 rw[List.getElem?_eraseIdx] at h
 split at h
 ·rename_i hj;exact .inl ⟨hj,h⟩
 ·exact .inr ⟨by omega,h⟩
theorem mem_erase{α:Type}{l:List α}{i k:Nat}{x:α}(h:l[k]?=some x)(hk:k≠i):x∈l.eraseIdx i:=by
 rcases Nat.lt_or_gt_of_ne hk with h1|h1
 ·exact ζi (i:=k) (by rw[List.getElem?_eraseIdx,if_pos h1];exact h)
 ·exact ζi (i:=k - 1) (by rw[List.getElem?_eraseIdx,if_neg (by omega),show k - 1+1=k by omega];exact h)
theorem CkI.drop(h:CkI ser n now ctl ps L){i:Nat}{c:Q8}{x y:Q6}(hc:L[i]?=some c)(ht:¬c.fU < 4)(hx:ps[c.fE.toNat]?=some x)(hy:y.fD=4) :
  CkI ser n now ctl (ps.set c.fE.toNat y) (L.eraseIdx i)∧ckW (L.eraseIdx i) < ckW L∧(∀id v,Tot ser L id v→Tot ser (L.eraseIdx i) id v):=by
 have hm:=ζi hc
 obtain⟨p1,p2,p3,p4,p5,p6,p7⟩:=h.each c hm
 have hx2:x.fD=2:=(h.run _ x hx).2 ⟨c,hm,by omega⟩
 have old:∀d,d∈L.eraseIdx i→d∈L∧d.fE≠c.fE∧d.fp≠c.fp:=fun d hd=>by
  obtain⟨j,hj⟩:=ζh.1 hd
  rcases erase_at hj with⟨h1,h2⟩|⟨h1,h2⟩
  ·exact⟨ζi h2,fun e=>by have:=h.same_pair h2 hc e;omega,fun e=>by have:=h.same_id h2 hc e;omega⟩
  ·exact⟨ζi h2,fun e=>by have:=h.same_pair h2 hc e;omega,fun e=>by have:=h.same_id h2 hc e;omega⟩
 refine⟨⟨fun d hd=>h.each d (old d hd).1,fun j k a b hjk ha hb=>?_,fun z hz=>?_,fun j z hz=>?_,by rw[ζI];exact h.len,?_⟩,?_,fun id v hv=>?_⟩
 ·rcases erase_at ha with⟨h1,h2⟩|⟨h1,h2⟩<;>rcases erase_at hb with⟨h3,h4⟩|⟨h3,h4⟩
  ·exact h.apart _ _ _ _ hjk h2 h4
  ·exact h.apart _ _ _ _ (by omega) h2 h4
  ·omega
  ·exact h.apart _ _ _ _ (by omega) h2 h4
 ·rcases ξc hz with hz|rfl
  ·exact h.st z hz
  ·exact .inr (.inr (.inr hy))
 ·rcases set_at hz with⟨rfl,rfl⟩|⟨hj,hz⟩
  ·rw[hy]
   refine⟨fun e=>by simp at e,fun⟨d,d1,d2⟩=>absurd ?_ (old d d1).2.1⟩
   omega
  ·rw[h.run j z hz]
   constructor
   ·rintro⟨d,d1,d2⟩
    obtain⟨k,hk⟩:=ζh.1 d1
    refine⟨d,mem_erase hk (fun e=>?_),d2⟩
    subst e;rw[hc] at hk;obtain rfl:=ζR hk
    omega
   ·rintro⟨d,d1,d2⟩
    exact⟨d,(old d d1).1,d2⟩
 ·have:=V7 B8 ps c.fE.toNat x y hx
  rw[if_pos (by unfold B8;rw[hx2];rfl),if_pos (by unfold B8;rw[hy];rfl)] at this
  rw[h.ser];omega
 ·have:=ckW_erase L i c hc
  unfold wt at this
  omega
 ·rcases hv with⟨v1,rfl⟩|⟨d,d1,d2,rfl⟩|⟨v1,v2,rfl⟩
  ·exact .inl ⟨v1,rfl⟩
  ·obtain⟨k,hk⟩:=ζh.1 d1
   by_cases e:k=i
   ·subst e;rw[hc] at hk;obtain rfl:=ζR hk
    exact .inr (.inr ⟨by omega,fun d hd e=>(old d hd).2.2 (e.trans d2.symm),by omega⟩)
   ·exact .inr (.inl ⟨d,mem_erase hk e,d2,rfl⟩)
  ·exact .inr (.inr ⟨v1,fun d hd=>v2 d (old d hd).1,rfl⟩)
theorem CkI.begin(h:CkI ser n now ctl ps L){i:Nat}{c:Q8}{x y:Q6}(hx:ps[i]?=some x)(h01:x.fD=0∨x.fD=1)(hy:y.fD=2)(hnow:now≤3050 * ser)
  (e1:c.fp=ser) (e2:c.fE=(i:Int)) (e3:c.fU=1) (e4:c.fF=false) (e5:c.fo=ctl) (e6:c.gd=now+200) :
  CkI (ser+1) n now ctl (ps.set i y) (L++[c])∧ckW (L++[c])=ckW L+4∧(∀id v,Tot ser L id v→Tot (ser+1) (L++[c]) id (v+if id=ser then 1 else 0)):=by
 have hi:=(ζe.1 hx).1
 have hlow:=h.low
 have hnew:∀d,d∈L→d.fE≠(i:Int)∧d.fp≠ser:=fun d hd=>by
  refine⟨fun e=>?_,fun e=>?_⟩
  ·have:=(h.run i x hx).2 ⟨d,hd,e⟩;omega
  ·have:=(h.each d hd).1;omega
 have snoc:∀{j:Nat} {a:Q8},(L++[c])[j]?=some a→(L[j]?=some a∧j < L.length)∨(a=c∧j=L.length):=fun {j a} ha=>by
  have hj:=(ζe.1 ha).1
  rw[ζn] at hj
  simp only[ξj,List.length_nil] at hj
  rcases ζN j L.length with h1|h1
  ·rw[ζl h1] at ha;exact .inl ⟨ha,h1⟩
  ·have:j=L.length:=by omega
   subst this
   rw[ζm (ζK _)] at ha
   simp only[Nat.sub_self,ξo,ζa] at ha
   exact .inr ⟨ha.symm,rfl⟩
 refine⟨⟨fun d hd=>?_,fun j k a b hjk ha hb=>?_,fun z hz=>?_,fun j z hz=>?_,by rw[ζI];exact h.len,?_⟩,?_,fun id v hv=>?_⟩
 ·rcases ζr.1 hd with hd|hd
  ·obtain⟨p1,p⟩:=h.each d hd
   exact⟨by omega,p⟩
  ·obtain rfl:d=c:=by simpa using hd
   refine⟨by omega,by rw[e2,h.len];omega,by omega,e4,e5,by omega,?_⟩
   have:pw 1=200:=rfl
   rw[e1,e3,e6,this];omega
 ·rcases snoc ha with⟨a1,a2⟩|⟨rfl,a2⟩<;>rcases snoc hb with⟨b1,b2⟩|⟨rfl,b2⟩
  ·exact h.apart _ _ _ _ hjk a1 b1
  ·have am:=ζi a1
   have:=(h.each a am).1
   exact⟨by omega,fun e=>(hnew a am).1 (e.trans e2)⟩
  ·omega
  ·omega
 ·rcases ξc hz with hz|rfl
  ·exact h.st z hz
  ·exact .inr (.inr (.inl hy))
 ·rcases set_at hz with⟨rfl,rfl⟩|⟨hj,hz⟩
  ·rw[hy]
   exact⟨fun _=>⟨c,by simp,e2⟩,fun _=>rfl⟩
  ·rw[h.run j z hz]
   constructor
   ·rintro⟨d,d1,d2⟩
    exact⟨d,ξd _ d1,d2⟩
   ·rintro⟨d,d1,d2⟩
    rcases ζr.1 d1 with d1|d1
    ·exact⟨d,d1,d2⟩
    ·obtain rfl:d=c:=by simpa using d1
     omega
 ·have:=V7 B8 ps i x y hx
  have hb:B8 x=false:=by unfold B8;rcases h01 with e|e<;>rw[e]<;>rfl
  have hb2:B8 y=true:=by unfold B8;rw[hy];rfl
  rw[hb,hb2] at this
  simp only[Bool.false_eq_true,if_false,if_true,Nat.add_zero] at this
  rw[h.ser];omega
 ·rw[ckW_snoc];unfold wt;rw[e3];rfl
 ·rcases hv with⟨v1,rfl⟩|⟨d,d1,d2,rfl⟩|⟨v1,v2,rfl⟩
  ·by_cases e:id=ser
   ·exact .inr (.inl ⟨c,by simp,e1.trans e.symm,by rw[if_pos e,e3];rfl⟩)
   ·exact .inl ⟨by omega,by rw[if_neg e];rfl⟩
  ·have:=(hnew d d1).2
   exact .inr (.inl ⟨d,ξd _ d1,d2,by rw[if_neg (by omega)];omega⟩)
  ·refine .inr (.inr ⟨by omega,fun d hd=>?_,by rw[if_neg (by omega)];rfl⟩)
   rcases ζr.1 hd with hd|hd
   ·exact v2 d hd
   ·obtain rfl:d=c:=by simpa using hd
    omega
end
theorem valid_states{l:Y3}{ps:List Q6}(h:X6 l)(e:ps.length=l.fm.length)(hs:∀(i:Nat) x y,ps[i]?=some x→l.fm[i]?=some y→x.fH=y.fH∧x.fJ=y.fJ∧x.ft=y.ft∧0≤x.fD∧x.fD≤4) :
  X6 ⟨l.fo,l.fu,l.fw,ps⟩:=by
 obtain⟨⟨h1,h2,h3,h4,h5⟩,h6,h7⟩:=h
 have both:∀(i:Nat) x,ps[i]?=some x→∃y,l.fm[i]?=some y:=fun i x hx=>by
  have:=(ζe.1 hx).1
  exact⟨_,ζd (by omega)⟩
 refine⟨⟨h1,h2,by show ps.length≤36;omega,h4,h5⟩,fun x hx=>?_,?_⟩
 ·obtain⟨i,hi⟩:=ζh.1 hx
  obtain⟨y,hy⟩:=both i x hi
  obtain⟨s1,s2,s3,s4,s5⟩:=hs i x y hi hy
  obtain⟨q1,q2,q3,q4⟩:=h6 y (ζi hy)
  unfold PairOk InB V3 remC prio V3 remC at *
  simp only at *
  rw[s1,s2,s3]
  exact⟨q1,⟨s4,s5⟩,q3,q4⟩
 ·have:ps.map (A2 ⟨l.fo,l.fu,l.fw,ps⟩)=l.fm.map (A2 l):=by
   refine List.ext_getElem? fun i=>?_
   rw[ζo,ζo]
   cases hx:ps[i]? with
   | none=>
    rw[List.getElem?_eq_none_iff] at hx
    rw[ξn (by omega)];rfl
   | some x=>
    obtain⟨y,hy⟩:=both i x hx
    obtain⟨s1,s2,_⟩:=hs i x y hx hy
    rw[hy]
    simp only[ζZ]
    unfold A2 V3 remC
    rw[s1,s2]
  show (ps.map (A2 ⟨l.fo,l.fu,l.fw,ps⟩)).Nodup
  rw[this];exact h7
theorem valid_set{c:Bool}{ls rs:List Q2}{ps:List Q6}(h:X6 ⟨c,ls,rs,ps⟩){i:Nat}{z:Q6}(hz:ps[i]?=some z)(k:Int)(h0:0≤k)(h4:k≤4):X6 ⟨c,ls,rs,ps.set i ⟨z.fH,z.fJ,z.ft,k⟩⟩:=by
 refine valid_states h (ζI ..) fun j x y hx hy=>?_
 have hy:ps[j]?=some y:=hy
 rcases set_at hx with⟨rfl,rfl⟩|⟨_,hx⟩
 ·rw[hz] at hy;obtain rfl:=ζR hy
  exact⟨rfl,rfl,rfl,h0,h4⟩
 ·rw[hx] at hy;obtain rfl:=ζR hy
  have:=(h.2.1 x (ζi hx)).2.1
  exact⟨rfl,rfl,rfl,this.1,this.2⟩
theorem SOk.d{P:Program}{G:Nat→Option (List V)}{kp:List Nat}{f:FuncId}{fn:Func}{args:List V}{ρ:Type}{g:T P G ρ}{res:ρ→V}{hm:P.follows .mixedOrders=true}{hf:P.funcs[f]?=some fn}{k:FnD P G kp fn args g res}{Q:ρ→Prop}(h:Ok g Q):SOk (.ofFn f hm hf k) Q:=h
theorem SOk.b{P:Program}{G:Nat→Option (List V)}{kp:List Nat}{f:FuncId}{fn:Func}{args:List V}{x:Ext}{ρ:Type}{g:T P G ρ}{res:ρ→V}{O:ρ→Ext}{dt:List Nat}{hm:P.follows .mixedOrders=true}{hf:P.funcs[f]?=some fn}{hx:x.ts=U6 args}
  {hdt:∀r,((O r).bs.all fun p=>!dt.contains p.1 || (O r).dt.contains p.1)=true} {k:FnB P G kp fn args x g res O} {Q:ρ→Prop} (h:Ok g Q):SOk (.ofFnB f dt hm hf hx hdt k) Q:=h
theorem okW39(a b c:Int)(h:b≤a∧a≤c):SOk (s39 a b c) (fun r=>r=true):=by
 show Ok (g39 a b c) _
 unfold g39
 exact Ok.n (R:=fun r=>r=true) (Ok.t (ξr h.1) (Ok.d (ξr h.2))) fun r hr=>Ok.d hr
def OneC(l:List Q2):Prop:=∀c,c∈l→c.fX=1
theorem okONE(l:List Q2)(h:OneC l)(hl:l.length≤1000000):SOk (s50 l) (fun r=>r=-1):=by
 show Ok (g50 l) _
 unfold g50
 refine Ok.c (R:=fun r=>r=-1) ?_ fun r hr=>Ok.d hr
 show Ok (g102_1 l) _
 unfold g102_1
 simp only[E7]
 refine Ok.p (R:=fun e=>match e with|.inl _=>False|.inr _=>True) ?_ (fun e he=>he.elim) (fun e _=>Ok.d rfl)
 refine Ok.s l.length hl (fun k y=>y=(k:Int)) rfl (fun k y hy hk=>?_) (fun y hy=>?_)
 ·subst hy
  obtain⟨x,hx1,hx2⟩:=A6 hk
  refine Ok.t (by simp;omega) (Ok.r (by simp) hx1 (Ok.c (R:=fun b=>b=false) ⟨_,rfl,?_⟩ fun b hb=>?_))
  ·show (x.fX != 1)=false
   rw[h x (ζi hx2)];rfl
  ·subst hb;exact Ok.f rfl (Ok.d (J9 hk hl))
 ·subst hy;exact Ok.f (by simp) (Ok.d trivial)
structure AInv(n:Int)(ctl:Bool)(a:Y0):Prop where
 list:X6 a.fc
 one:OneC a.fc.fu∧OneC a.fc.fw
 role:a.fc.fo=ctl
 tie:0≤a.fC∧a.fC≤255
 now:0≤a.fP∧a.fP≤3050 * n
 next:0≤a.fK∧a.fK≤3050 * a.fI
 cho:a.fV=-1
 q:a.fN=[]
 nm:a.fQ=List.replicate a.fc.fm.length false
 ck:CkI a.fI n a.fP ctl a.fc.fm a.fA
theorem pw_le(t:Int):0≤pw t∧pw t≤3000:=by unfold pw;split;omega;split;omega;split<;>omega
theorem CkI.ge{ser n now:Int}{ctl:Bool}{ps:List Q6}{L:List Q8}(h:CkI ser n now ctl ps L):∀(j:Nat) a,L[j]?=some a→(j:Int)≤a.fp
 | 0,a,ha=>(h.each a (ζi ha)).1.1
 | j+1,a,ha=>by
  have hj:=(ζe.1 ha).1
  have hb:L[j]?=some (L[j]'(by omega)):=ζd (by omega)
  have:=CkI.ge h j _ hb
  have:=(h.apart j (j+1) _ a (by omega) hb ha).1
  omega
theorem CkI.few{ser n now:Int}{ctl:Bool}{ps:List Q6}{L:List Q8}(h:CkI ser n now ctl ps L):(L.length:Int)≤ser:=by
 rcases ξq L.length with h0|h0
 ·have:=h.low;omega
 ·have hb:L[L.length - 1]?=some (L[L.length - 1]'(by omega)):=ζd (by omega)
  have h1:=h.ge _ _ hb
  have h2:=(h.each _ (ζi hb)).1.2
  omega
theorem AInv.sz{n:Int}{ctl:Bool}{a:Y0}(h:AInv n ctl a):n≤36∧a.fc.fm.length≤36∧a.fA.length≤36∧a.fc.fu.length≤12∧a.fc.fw.length≤12∧n=(a.fc.fm.length:Int)∧0≤a.fI∧a.fI≤n:=by
 have h1:a.fc.fm.length≤36:=h.list.1.2.2.1
 have h2:=h.ck.len
 have h3:=h.ck.low
 have h4:=h.ck.few
 exact⟨by omega,h1,by omega,h.list.1.1,h.list.1.2.1,h2,h3.1,h3.2⟩
theorem ckey_iff{a:Q8}{e:C7}:((a.fE==e.fk.gq)&&((a.fF==e.fk.gt)&&true))=true↔(⟨a.fE,a.fF⟩:SCheck)=e.fk:=by
 obtain⟨⟨k1,k2⟩,v⟩:=e
 simp
theorem okCHKS{n:Int}{ctl:Bool}{a:Y0}(h:AInv n ctl a):SOk (s88_1 a.fc.fo a.fc.fu a.fc.fw a.fc.fm a.fC a.fP a.fK a.fI a.fV a.fN a.fQ a.fA) (fun r=>r=true):=by
 obtain⟨z1,z2,z3,z4,z5,z6,z7,z8⟩:=h.sz
 unfold s88_1
 refine SOk.d ?_
 unfold g88_1
 simp only[E7]
 refine Ok.o rfl (Ok.p (R:=fun e=>match e with|.inl _=>False|.inr _=>True) ?_ (fun e he=>he.elim) (fun e _=>Ok.d rfl))
 refine Ok.s a.fA.length (by omega) (fun k y=>y.2.2=(k:Int)∧R0 C7.fk C7.fv y.1 ((a.fA.take k).map fun c=>⟨c.fE,c.fF⟩)∧∀c,a.fA[k]?=some c→y.2.1 < c.fp) ⟨rfl,R0.nil _ _,fun c hc=>?_⟩ (fun k y hy hk=>?_) (fun y hy=>?_)
 ·have:=(h.ck.each c (ζi hc)).1.1
  show (-1:Int) < c.fp
  omega
 ·obtain⟨y1,y2,y3⟩:=y
  obtain⟨hi,hs,hl⟩:=hy
  simp only at hi hs hl
  subst hi
  obtain⟨x,hx1,hx2⟩:=A6 hk
  obtain⟨p1,p2,p3,p4,p5,p6,p7⟩:=h.ck.each x (ζi hx2)
  have hpw:=pw_le x.fU
  have hno:=h.now
  have hlx:=hl x hx2
  refine Ok.t (by simp;omega) (Ok.r (by simp) hx1 (Ok.n (R:=fun b=>b=false) ?_ fun b hb=>?_))
  ·refine Ok.f (ξs (by show ¬x.fp≤y2;omega)) (Ok.f (ξs (by omega)) (Ok.c (okW39 _ _ _ ⟨p2.1,by rw[Z6 (by omega) (by omega)];omega⟩) fun r1 h1=>Ok.f (by rw[h1];rfl) (Ok.c (okW39 _ _ _ ⟨by omega,by omega⟩) fun r2 h2=>Ok.f (by rw[h2];rfl) (Ok.c (okW39 _ _ _ p3) fun r3 h3=>Ok.f (by rw[h3];rfl) (Ok.f p4 (Ok.o rfl (Ok.d ?_)))))))
   rw[Bool.eq_false_iff,ne_eq,hs.look (x:=⟨x.fE,x.fF⟩) (fun e=>ckey_iff)]
   intro hm
   obtain⟨d,d1,d2⟩:=ζt.1 hm
   obtain⟨j,hj,hd⟩:=mem_take_iff.1 d1
   have:=(h.ck.apart j k d x hj hd hx2).2
   simp only[SCheck.mk.injEq] at d2
   exact this d2.1
  ·subst hb
   refine Ok.f rfl (Ok.o rfl (Ok.d ⟨J9 hk (by omega),?_,fun c hc=>(h.ck.apart k (k+1) x c (by omega) hx2 hc).1⟩))
   rw[F5 hx2]
   exact hs.put (x:=⟨x.fE,x.fF⟩) (fun e=>ckey_iff) rfl rfl
 ·obtain⟨y1,y2,y3⟩:=y
  obtain⟨hi,hs,hl⟩:=hy
  simp only at hi
  subst hi
  exact Ok.f (by simp) (Ok.d trivial)
theorem okVLIST(l:Y3)(h:X6 l):SOk (s86 l) (fun r=>r=0):=by
 show Ok (g86 l) _
 unfold g86
 refine Ok.v (okVALID l) fun r hr=>Ok.f ?_ (Ok.d rfl)
 rw[hr.2 h];rfl
theorem okV34{n:Int}{ctl:Bool}{a:Y0}(h:AInv n ctl a):SOk (s34_1 a.fc.fo a.fc.fu a.fc.fw a.fc.fm a.fC a.fP a.fK a.fI a.fV a.fN a.fQ a.fA) (fun r=>r=true):=by
 obtain⟨z1,z2,z3,z4,z5,z6,z7,z8⟩:=h.sz
 have h1:=h.tie
 have h2:=h.now
 have h3:=h.next
 have h4:=h.cho
 unfold s34_1
 refine SOk.d ?_
 unfold g34_1
 simp only[E7]
 refine Ok.n (R:=fun c=>c=false) ?_ fun c hc=>?_
 ·refine Ok.c (okVLIST _ h.list) fun r hr=>Ok.f (by rw[hr];rfl) (Ok.c (okONE _ h.one.1 (by omega)) fun r1 e1=>Ok.f (by rw[e1];rfl) (Ok.c (okONE _ h.one.2 (by omega)) fun r2 e2=>Ok.d (by rw[e2];rfl)))
 ·subst hc
  refine Ok.f rfl (Ok.n (R:=fun c=>c=false) ?_ fun c hc=>?_)
  ·refine Ok.c (okW39 _ _ _ (by omega)) fun r1 e1=>Ok.f (by rw[e1];rfl) (Ok.c (okW39 _ _ _ (by omega)) fun r2 e2=>Ok.f (by rw[e2];rfl) (Ok.c (okW39 _ _ _ (by omega)) fun r3 e3=>Ok.f (by rw[e3];rfl) (Ok.c (okW39 _ _ _ (by omega)) fun r4 e4=>Ok.f (by rw[e4];rfl) (Ok.f ?_ (Ok.c (okW39 _ _ _ ?_) fun r5 e5=>Ok.d (by rw[e5];rfl))))))
   ·rw[h.nm,ζH];simp
   ·rw[Z6 (by omega) (by omega)];omega
  ·subst hc
   refine Ok.f rfl (Ok.n (R:=fun c=>c=false) (Ok.f (ξs (by omega)) (Ok.d rfl)) fun c hc=>?_)
   subst hc
   refine Ok.f rfl (Ok.p (R:=fun e=>match e with|.inl _=>False|.inr _=>True) ?_ (fun e he=>he.elim) (fun e _=>Ok.c (okCHKS h) fun r hr=>Ok.d hr))
   rw[h.q]
   exact Ok.s 0 (by omega) (fun k y=>y=(k:Int)) rfl (fun k y hy hk=>by omega) (fun y hy=>by subst hy;exact Ok.f (by simp) (Ok.d trivial))
theorem okCHK13{n:Int}{ctl:Bool}{a:Y0}(h:AInv n ctl a):SOk (s13 a) (fun r=>r=0):=by
 unfold s13
 refine SOk.d ?_
 unfold g13
 exact Ok.v (okV34 h) fun r hr=>Ok.f (by rw[hr];rfl) (Ok.d rfl)
theorem okST36{n:Int}{ctl:Bool}{a:Y0}(h:AInv n ctl a):SOk (s36 a) (fun r=>match r with|.inl _=>False|.inr _=>True):=by
 obtain⟨z1,z2,z3,z4,z5,z6,z7,z8⟩:=h.sz
 have hq:a.fN.length=0:=by rw[h.q];rfl
 have hn:a.fQ.length=a.fc.fm.length:=by rw[h.nm,ζH]
 have c1:∀l:List Q2,l.length≤12→SOk (s77 l) (fun _=>True):=fun l hl=>by
  show Ok (g77 l) _
  unfold g77
  exact Ok.app (by simp;omega) (Ok.d trivial)
 unfold s36
 refine SOk.b ?_
 unfold g36
 refine Ok.v (okV34 h) fun r hr=>Ok.f (by rw[hr];rfl) (Ok.c (c1 _ z4) fun _ _=>Ok.c (c1 _ z5) fun _ _=>Ok.c (R:=fun _=>True) ?_ fun _ _=>Ok.c (R:=fun _=>True) ?_ fun _ _=>Ok.c (R:=fun _=>True) ?_ fun _ _=>Ok.c (R:=fun _=>True) ?_ fun _ _=>Ok.d trivial)
 ·show Ok (g89 _) _
  unfold g89
  exact Ok.app (by simp;omega) (Ok.d trivial)
 ·show Ok (g90 _) _
  unfold g90
  exact Ok.app (by simp;omega) (Ok.d trivial)
 ·show Ok (g91 _) _
  unfold g91
  exact Ok.app (by simp;omega) (Ok.d trivial)
 ·show Ok (g92 _) _
  unfold g92
  exact Ok.app (by simp;omega) (Ok.d trivial)
def BestR(L:List Q6)(p:Q6→Prop)(k:Nat)(b:Int):Prop:=(b=-1∧∀j x,j < k→L[j]?=some x→¬p x)∨(0≤b∧b < k∧∃x,L[b.toNat]?=some x∧p x)
theorem BestR.step{L:List Q6}{p:Q6→Prop}{k:Nat}{b:Int}{x:Q6}{c:Bool}(h:BestR L p k b)(hx:L[k]?=some x)(hc:(c=true→p x)∧(c=false→p x→0≤b)):BestR L p (k+1) (bif c then (k:Int) else b):=by
 cases c with
 | true=>exact .inr ⟨by show (0:Int)≤(k:Int);omega,by show (k:Int) < _;omega,x,by show L[((k:Int)).toNat]?=_;rw[ζz];exact hx,hc.1 rfl⟩
 | false=>
  rcases h with⟨h1,h2⟩|⟨h1,h2,h3⟩
  ·exact .inl ⟨h1,upto2 (p:=fun x=>¬p x) h2 hx fun k=>by have:=hc.2 rfl k;omega⟩
  ·exact .inr ⟨h1,by show b < _;omega,h3⟩
theorem okBESTW(L:List Q6)(hl:L.length≤1000000):SOk (s164 L) (BestR L (fun x=>x.fD=1) L.length):=by
 show Ok (g164 L) _
 unfold g164
 simp only[E7]
 refine Ok.b (R:=BestR L (fun x=>x.fD=1) L.length) ?_ fun e he=>Ok.d he
 refine Ok.s L.length hl (fun k y=>y.2=(k:Int)∧BestR L (fun x=>x.fD=1) k y.1) ⟨rfl,.inl ⟨rfl,fun j x h=>by omega⟩⟩ (fun k y hy hk=>?_) (fun y hy=>?_)
 ·obtain⟨b,y2⟩:=y
  obtain⟨hi,hb⟩:=hy
  simp only at hi hb
  subst hi
  obtain⟨x,hx1,hx2⟩:=A6 hk
  refine Ok.t (by simp;omega) (Ok.r (by simp) hx1 (Ok.n (R:=fun c=>(c=true→x.fD=1)∧(c=false→x.fD=1→0≤b)) ?_ fun c hc=>?_))
  ·refine Ok.c (R:=fun r=>r=(x.fD==1)) ⟨_,rfl,rfl⟩ fun r hr=>?_
   subst hr
   refine Ok.e (fun h1=>Ok.e (fun h2=>Ok.d ?_) (fun h2=>?_)) (fun h1=>Ok.d ?_)
   ·rw[beq_iff_eq] at h1
    exact⟨fun _=>h1,fun e=>by cases e⟩
   ·rw[beq_iff_eq] at h1;simp only[ζG] at h2
    rcases hb with hb|⟨b1,b2,z,z1,z2⟩
    ·omega
    ·refine Ok.c (R:=fun _=>True) ⟨_,rfl,trivial⟩ fun _ _=>Ok.r (by simp;omega) z1 (Ok.c (R:=fun _=>True) ⟨_,rfl,trivial⟩ fun _ _=>Ok.d ⟨fun _=>h1,fun _ _=>b1⟩)
   ·rw[ζY] at h1
    exact⟨fun e=>(by cases e),fun _ k=>absurd k h1⟩
  ·have:=hb.step hx2 hc
   cases c with
   | true=>exact Ok.t rfl (Ok.d ⟨J9 hk hl,this⟩)
   | false=>exact Ok.f rfl (Ok.d ⟨J9 hk hl,this⟩)
 ·obtain⟨b,y2⟩:=y
  obtain⟨hi,hb⟩:=hy
  simp only at hi
  subst hi
  exact Ok.f (by simp) (Ok.d hb)
theorem fkey_iff{a:R1}{e:M4}:((decide (a.a0=e.fk.a0))&&((decide (a.a1=e.fk.a1))&&true))=true↔a=e.fk:=by
 cases a;cases e with|mk k v=>cases k;simp
theorem okN166(x:Q6)(m:List M4)(c:Bool)(ls rs:List Q2)(ps:List Q6)(ks:List R1)(hm:R0 M4.fk M4.fv m ks)(hI:InB ⟨c,ls,rs,ps⟩ x) :
  SOk (s166 x m c ls rs ps) (fun b=>(b=true→x.fD=0)∧(b=false→x.fD=0→ks≠[])):=by
 show Ok (g166 x m c ls rs ps) _
 unfold g166
 refine Ok.n (R:=fun b=>(b=true→x.fD=0)∧(b=false→x.fD=0→ks≠[])) ?_ fun b hb=>Ok.d hb
 refine Ok.e (fun h=>Ok.v (okFOUND _ x hI) fun r hr=>Ok.o rfl (Ok.d ?_)) (fun h=>Ok.d ?_)
 ·rw[beq_iff_eq] at h
  refine⟨fun _=>h,fun e _ hk=>?_⟩
  rw[ζC,hm.look (x:=r) (fun e=>fkey_iff),hk] at e
  simp at e
 ·rw[ζY] at h
  exact⟨fun e=>(by cases e),fun _ k=>absurd k h⟩
theorem okBESTZ(L:List Q6)(m:List M4)(c:Bool)(ls rs:List Q2)(ks:List R1)(hm:R0 M4.fk M4.fv m ks)(hI:∀x,x∈L→InB ⟨c,ls,rs,L⟩ x)(hl:L.length≤1000000) :
  SOk (s164_1 L m c ls rs) (fun r=>r=-1∧(ks=[]→∀x,x∈L→x.fD≠0)∨0≤r∧∃x,L[r.toNat]?=some x∧x.fD=0):=by
 show Ok (g164_1 L m c ls rs) _
 unfold g164_1
 refine Ok.b (R:=fun r=>r=-1∧(ks=[]→∀x,x∈L→x.fD≠0)∨0≤r∧∃x,L[r.toNat]?=some x∧x.fD=0) ?_ fun e he=>Ok.d he
 refine Ok.s L.length hl (fun k y=>y.2=(k:Int)∧(y.1=-1∧(ks=[]→∀j x,j < k→L[j]?=some x→x.fD≠0)∨0≤y.1∧y.1 < k∧∃x,L[y.1.toNat]?=some x∧x.fD=0)) ⟨rfl,.inl ⟨rfl,fun _ j x h=>by omega⟩⟩ (fun k y hy hk=>?_) (fun y hy=>?_)
 ·obtain⟨b,y2⟩:=y
  obtain⟨hi,hb⟩:=hy
  simp only at hi hb
  subst hi
  obtain⟨x,hx1,hx2⟩:=A6 hk
  refine Ok.t (by simp;omega) (Ok.k (by simp;omega) (Ok.r rfl (by rw[ξv];exact hx1) (Ok.n (R:=fun c2=>(c2=true→x.fD=0)∧(c2=false→x.fD=0→0≤b∨ks≠[])) ?_ fun c2 hc=>?_)))
  ·obtain⟨r,er,hr⟩:=okN166 x m c ls rs L ks hm (hI x (ζi hx2))
   refine Ok.o (r:=r) er (Ok.e (fun h1=>Ok.e (fun h2=>Ok.d ⟨fun _=>hr.1 h1,fun e=>by cases e⟩) (fun h2=>?_)) (fun h1=>Ok.d ⟨fun e=>(by cases e),fun _ k=>.inr (hr.2 h1 k)⟩))
   simp only[ζG] at h2
   rcases hb with hb|⟨b1,b2,z,z1,z2⟩
   ·omega
   ·exact Ok.c (R:=fun _=>True) ⟨_,rfl,trivial⟩ fun _ _=>Ok.k (by simp;omega) (Ok.r rfl (by rw[ξv];exact z1) (Ok.c (R:=fun _=>True) ⟨_,rfl,trivial⟩ fun _ _=>Ok.d ⟨fun _=>hr.1 h1,fun _ _=>.inl b1⟩))
  ·cases c2 with
   | true=>exact Ok.t rfl (Ok.d ⟨J9 hk hl,.inr ⟨by show (0:Int)≤(k:Int);omega,by show (k:Int) < _;omega,x,by show L[((k:Int)).toNat]?=_;rw[ζz];exact hx2,hc.1 rfl⟩⟩)
   | false=>
    refine Ok.f rfl (Ok.d ⟨J9 hk hl,?_⟩)
    rcases hb with⟨b1,b2⟩|⟨b1,b2,b3⟩
    ·exact .inl ⟨b1,fun e=>upto2 (p:=fun x=>x.fD≠0) (b2 e) hx2 fun h0=>by
      rcases hc.2 rfl h0 with h1|h1
      ·omega
      ·exact h1 e⟩
    ·exact .inr ⟨b1,by show b < _;omega,b3⟩
 ·obtain⟨b,y2⟩:=y
  obtain⟨hi,hb⟩:=hy
  simp only at hi hb
  subst hi
  refine Ok.f (by simp) (Ok.d ?_)
  rcases hb with⟨b1,b2⟩|⟨b1,b2,b3⟩
  ·refine .inl ⟨b1,fun e x hx=>?_⟩
   obtain⟨j,hj⟩:=ζh.1 hx
   exact b2 e j x (ζe.1 hj).1 hj
  ·exact .inr ⟨b1,b3⟩
def NextR(l:Y3)(r:Int×Int):Prop:=
 (r.2=0∧0≤r.1∧∃x,l.fm[r.1.toNat]?=some x∧(x.fD=0∨x.fD=1))∨(r.2=4∧((∀x,x∈l.fm→x.fD≠2)→∀x,x∈l.fm→x.fD≠0∧x.fD≠1))
theorem okNEXTW(l:Y3)(hv:X6 l):SOk (s93 l) (NextR l):=by
 have hlen:l.fm.length≤36:=hv.1.2.2.1
 unfold s93
 refine SOk.d ?_
 unfold g93
 refine Ok.call2 (R:=fun r=>match r with|.inl _=>False|.inr _=>True) ?_ (fun r he=>he.elim) (fun r _=>?_)
 ·show Ok (g162 l) _
  unfold g162
  refine Ok.v (okVALID l) fun r hr=>Ok.f (by rw[hr.2 hv];rfl) (Ok.c (R:=fun _=>True) ?_ fun _ _=>Ok.d trivial)
  show Ok (g89 _) _
  unfold g89
  exact Ok.app (by simp;omega) (Ok.d trivial)
 refine Ok.ff (Ok.v (okBESTW l.fm (by omega)) fun a ha=>?_)
 refine Ok.b (R:=fun e=>(e=-1∧((∀x,x∈l.fm→x.fD≠2)→∀x,x∈l.fm→x.fD≠0∧x.fD≠1))∨(0≤e∧∃x,l.fm[e.toNat]?=some x∧(x.fD=0∨x.fD=1))) ?_ fun e he=>?_
 ·rcases ha with⟨rfl,ha⟩|⟨a1,a2,x,x1,x2⟩
  ·refine Ok.t rfl (Ok.o rfl (Ok.o rfl ?_))
   refine Ok.b (R:=fun e=>e.2=-1∧∃ks,R0 M4.fk M4.fv e.1 ks∧((∀x,x∈l.fm→x.fD≠2)→ks=[])) ?_ fun e he=>?_
   ·refine Ok.s l.fm.length (by omega) (fun k y=>y.2=(k:Int)∧∃ks,R0 M4.fk M4.fv y.1 ks∧((∀x,x∈l.fm→x.fD≠2)→ks=[])) ⟨rfl,[],R0.nil _ _,fun _=>rfl⟩ (fun k y hy hk=>?_) (fun y hy=>?_)
    ·obtain⟨m,y2⟩:=y
     obtain⟨hi,ks,hm,hks⟩:=hy
     simp only at hi hm
     subst hi
     obtain⟨x,hx1,hx2⟩:=A6 hk
     have hxm:=ζi hx2
     refine Ok.t (by simp;omega) (Ok.k (by simp;omega) (Ok.r rfl (by rw[ξv];exact hx1) (Ok.e (fun h2=>?_) fun h2=>Ok.d ⟨J9 hk (by omega),ks,hm,hks⟩)))
     rw[beq_iff_eq] at h2
     exact Ok.v (okFOUND l x (hv.2.1 x hxm).1) fun r _=>Ok.o rfl (Ok.d ⟨J9 hk (by omega),ks++[r],hm.put (x:=r) (fun e=>fkey_iff) rfl rfl,fun h=>absurd h2 (h x hxm)⟩)
    ·obtain⟨m,y2⟩:=y
     obtain⟨hi,hk⟩:=hy
     simp only at hi
     subst hi
     exact Ok.f (by simp) (Ok.d ⟨rfl,hk⟩)
   ·obtain⟨e1,ks,hm,hks⟩:=he
    refine Ok.c (okBESTZ l.fm e.1 l.fo l.fu l.fw ks hm (fun x hx=>(hv.2.1 x hx).1) (by omega)) fun r hr=>Ok.d ?_
    rcases hr with⟨r1,r2⟩|⟨r1,x,r2,r3⟩
    ·refine .inl ⟨r1,fun h x hx=>⟨r2 (hks h) x hx,?_⟩⟩
     obtain⟨j,hj⟩:=ζh.1 hx
     exact ha j x (ζe.1 hj).1 hj
    ·exact .inr ⟨r1,x,r2,.inl r3⟩
  ·exact Ok.f (ξs (by omega)) (Ok.d (.inr ⟨a1,x,x1,.inr x2⟩))
 ·rcases he with⟨rfl,e2⟩|⟨e1,e2⟩
  ·exact Ok.t rfl (Ok.d (.inr ⟨rfl,e2⟩))
  ·exact Ok.f (ξs (by omega)) (Ok.d (.inl ⟨rfl,e1,e2⟩))
end Go.Proofs.YtjpahkpfkohfkaaGreatDoor
