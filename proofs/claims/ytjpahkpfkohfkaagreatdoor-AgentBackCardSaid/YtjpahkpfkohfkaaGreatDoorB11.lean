/- Guides and contracts, printed by a program.
   The checks that are due (agent.time), where there are none: a range D7 a function, put together by hand.
   Guides and contracts, printed by a program.
   Guides and contracts, printed by a program. -/
import Derived.Test.YtjpahkpfkohfkaaGreatDoorB10
import Derived.Test.YtjpahkpfkohfkaaGreatDoorB6
import Derived.Test.YtjpahkpfkohfkaaGreatDoorB8
import Derived.KernelRfl
set_option linter.unusedVariables false
set_option linter.unusedSimpArgs false
namespace Go.Proofs.YtjpahkpfkohfkaaGreatDoor
open Go Go.EV
set_option maxRecDepth 100000
structure SWorker where
 fAgent:Y7
 fout:(List U5)
noncomputable def s51 (p0:Q3) (p1:U5):EV.Spec Tryz.prog GG (Bool):=.ofFn 51 Q8 Tryz.func51 (show FnD Tryz.prog GG [0,1,2,3] Tryz.f51 [.agg (Q0.c p0),.snap (Y2.c p1)] (
 .done ((decide (p0.fBase.fHost=p1.fTo.fHost))&&((p0.fBase.fPort==p1.fTo.fPort)&&true)):TT (Bool)) (fun r=>.bool r) by unfold FnD;kernel_rfl)
noncomputable def s102_2 (p0:List Q3) (p1:U5):EV.Spec Tryz.prog GG (Int):=.ofFn 102 Q8 Tryz.func102 (show FnD Tryz.prog GG [0,1,4,5,7,8,9,16] Tryz.f102 [.sl false 8 (List.map Q0.c p0),.fn 51 [] [.snap (Y2.c p1)]] (
 .bind2 1
 (.lp (fun(l617:Int)=>Ext.lit .normal [(0,.sl false 8 (List.map Q0.c p0)),(1,.fn 51 [] [.snap (Y2.c p1)]),(4,.i 0),(7,.i (Y5 Q0 p0)),(8,.i l617)] [])
  (fun l617=>
   .br 0 (decide (l617 < (Y5 Q0 p0)))
   (.row 4004 Q0 p0 l617.toNat (decide (0≤l617)) fun x618=>
    .call 4006 (s51 x618 p1) [] [] fun r619=>
    .br 0 r619
    (.done (.inr (.inl l617)))
    (.done (.inl (Q7 (l617+1)))))
   (.done (.inr (.inr ()))))
  0)
 (fun(e620:Int)=>Ext.lit .ret [(4,.i e620)] [])
 (fun(e621:Unit)=>Ext.lit (.exit 0) [(4,.i 0)] [])
 (fun e620=>
  .done e620)
 (fun e621=>
  .done (-1)):TT (Int)) (fun r=>.int .i64 r) by unfold FnD;kernel_rfl)
noncomputable def s50_1 (p0:List Q3) (p1:U5):EV.Spec Tryz.prog GG (Int):=.ofFn 50 Q8 Tryz.func50 (show FnD Tryz.prog GG [0,1,4] Tryz.f50 [.sl false 8 (List.map Q0.c p0),.fn 51 [] [.snap (Y2.c p1)]] (
 .call 1003 (s102_2 p0 p1) [] [] fun r622=>
 .done r622:TT (Int)) (fun r=>.int .i64 r) by unfold FnD;kernel_rfl)
noncomputable def s103 (p0:U5) (p1:Y6) (p2:Bool) (p3 p4 p5 p6 p7:Int) (p8 p9:List Q3) (p10:List Q9) (p11:List Int) (p12:List Bool) (p13:List Z4):EV.Spec Tryz.prog GG ((List U5)):=.ofFnB 103 [22,1000001,1000002,1000003,1000004,1000005,1000006] Q8 Tryz.func103 rfl (fun _=>rfl) (show FnB Tryz.prog GG [0,1,2,4,5] Tryz.f103 [.ptr 1000000 0 0,.agg (Y2.c p0),.agg [.i p1.fKind,.i p1.fId,.i p1.fPriority,.bool p1.fControlling,.i p1.fTie,.bool p1.fUse,.str p1.fSeen.fHost,.i p1.fSeen.fPort]] (Ext.of .normal (W0 [.ptr 1000000 0 0,.agg (Y2.c p0),.agg [.i p1.fKind,.i p1.fId,.i p1.fPriority,.bool p1.fControlling,.i p1.fTie,.bool p1.fUse,.str p1.fSeen.fHost,.i p1.fSeen.fPort]]) [(1000000,⟨13,true,[[.bool p2,.ref 1000001 0 p8.length,.ref 1000002 0 p9.length,.ref 1000003 0 p10.length,.i p3,.i p4,.i p5,.i p6,.i p7,.ref 1000004 0 p11.length,.ref 1000005 0 p12.length,.ref 1000006 0 p13.length,.nilsl]]⟩)] [BT.of 1000001 Q0 8 p8 true,BT.of 1000002 Q0 8 p9 true,BT.of 1000003 Q2 4 p10 true,BT.of 1000004 Z1 1 p11 true,BT.of 1000005 Z0 1 p12 true,BT.of 1000006 Q5 6 p13 true] (by rfl)) (
 .app 2013 Y2 [] [(U5.mk p0.fTo p0.fFrom (Y6.mk p1.fKind p0.fProbe.fId p1.fPriority p1.fControlling p1.fTie p1.fUse p1.fSeen))] 120 false (by intro h;cases h) (.done ([]++[(U5.mk p0.fTo p0.fFrom (Y6.mk p1.fKind p0.fProbe.fId p1.fPriority p1.fControlling p1.fTie p1.fUse p1.fSeen))])):TT ((List U5))) (fun(r:(List U5))=>.tup []) (fun(r:(List U5))=>Ext.of .normal [] [(1000000,⟨13,true,[[.bool p2,.ref 1000001 0 p8.length,.ref 1000002 0 p9.length,.ref 1000003 0 p10.length,.i p3,.i p4,.i p5,.i p6,.i p7,.ref 1000004 0 p11.length,.ref 1000005 0 p12.length,.ref 1000006 0 p13.length,.ref 22 0 r.length]]⟩)] [BT.of 22 Y2 12 r true,BT.of 1000001 Q0 8 p8 true,BT.of 1000002 Q0 8 p9 true,BT.of 1000003 Q2 4 p10 true,BT.of 1000004 Z1 1 p11 true,BT.of 1000005 Z0 1 p12 true,BT.of 1000006 Q5 6 p13 true] (by rfl)) by unfold FnB;kernel_rfl)
noncomputable def s105 (p0:Q3) (p1:U5):EV.Spec Tryz.prog GG (Bool):=.ofFn 105 Q8 Tryz.func105 (show FnD Tryz.prog GG [0,1,2,3] Tryz.f105 [.agg (Q0.c p0),.snap (Y2.c p1)] (
 .done ((decide (p0.fBase.fHost=p1.fTo.fHost))&&((p0.fBase.fPort==p1.fTo.fPort)&&true)):TT (Bool)) (fun r=>.bool r) by unfold FnD;kernel_rfl)
noncomputable def s102_3 (p0:List Q3) (p1:U5):EV.Spec Tryz.prog GG (Int):=.ofFn 102 Q8 Tryz.func102 (show FnD Tryz.prog GG [0,1,4,5,7,8,9,16] Tryz.f102 [.sl false 8 (List.map Q0.c p0),.fn 105 [] [.snap (Y2.c p1)]] (
 .bind2 1
 (.lp (fun(l621:Int)=>Ext.lit .normal [(0,.sl false 8 (List.map Q0.c p0)),(1,.fn 105 [] [.snap (Y2.c p1)]),(4,.i 0),(7,.i (Y5 Q0 p0)),(8,.i l621)] [])
  (fun l621=>
   .br 0 (decide (l621 < (Y5 Q0 p0)))
   (.row 4004 Q0 p0 l621.toNat (decide (0≤l621)) fun x622=>
    .call 4006 (s105 x622 p1) [] [] fun r623=>
    .br 0 r623
    (.done (.inr (.inl l621)))
    (.done (.inl (Q7 (l621+1)))))
   (.done (.inr (.inr ()))))
  0)
 (fun(e624:Int)=>Ext.lit .ret [(4,.i e624)] [])
 (fun(e625:Unit)=>Ext.lit (.exit 0) [(4,.i 0)] [])
 (fun e624=>
  .done e624)
 (fun e625=>
  .done (-1)):TT (Int)) (fun r=>.int .i64 r) by unfold FnD;kernel_rfl)
noncomputable def s50_2 (p0:List Q3) (p1:U5):EV.Spec Tryz.prog GG (Int):=.ofFn 50 Q8 Tryz.func50 (show FnD Tryz.prog GG [0,1,4] Tryz.f50 [.sl false 8 (List.map Q0.c p0),.fn 105 [] [.snap (Y2.c p1)]] (
 .call 1003 (s102_3 p0 p1) [] [] fun r626=>
 .done r626:TT (Int)) (fun r=>.int .i64 r) by unfold FnD;kernel_rfl)
noncomputable def s106 (p0:Q3) (p1:U5):EV.Spec Tryz.prog GG (Bool):=.ofFn 106 Q8 Tryz.func106 (show FnD Tryz.prog GG [0,1,2,3] Tryz.f106 [.agg (Q0.c p0),.snap (Y2.c p1)] (
 .done ((decide (p0.fAddr.fHost=p1.fFrom.fHost))&&((p0.fAddr.fPort==p1.fFrom.fPort)&&true)):TT (Bool)) (fun r=>.bool r) by unfold FnD;kernel_rfl)
noncomputable def s102_4 (p0:List Q3) (p1:U5):EV.Spec Tryz.prog GG (Int):=.ofFn 102 Q8 Tryz.func102 (show FnD Tryz.prog GG [0,1,4,5,7,8,9,16] Tryz.f102 [.sl false 8 (List.map Q0.c p0),.fn 106 [] [.snap (Y2.c p1)]] (
 .bind2 1
 (.lp (fun(l631:Int)=>Ext.lit .normal [(0,.sl false 8 (List.map Q0.c p0)),(1,.fn 106 [] [.snap (Y2.c p1)]),(4,.i 0),(7,.i (Y5 Q0 p0)),(8,.i l631)] [])
  (fun l631=>
   .br 0 (decide (l631 < (Y5 Q0 p0)))
   (.row 4004 Q0 p0 l631.toNat (decide (0≤l631)) fun x632=>
    .call 4006 (s106 x632 p1) [] [] fun r633=>
    .br 0 r633
    (.done (.inr (.inl l631)))
    (.done (.inl (Q7 (l631+1)))))
   (.done (.inr (.inr ()))))
  0)
 (fun(e634:Int)=>Ext.lit .ret [(4,.i e634)] [])
 (fun(e635:Unit)=>Ext.lit (.exit 0) [(4,.i 0)] [])
 (fun e634=>
  .done e634)
 (fun e635=>
  .done (-1)):TT (Int)) (fun r=>.int .i64 r) by unfold FnD;kernel_rfl)
noncomputable def s50_3 (p0:List Q3) (p1:U5):EV.Spec Tryz.prog GG (Int):=.ofFn 50 Q8 Tryz.func50 (show FnD Tryz.prog GG [0,1,4] Tryz.f50 [.sl false 8 (List.map Q0.c p0),.fn 106 [] [.snap (Y2.c p1)]] (
 .call 1003 (s102_4 p0 p1) [] [] fun r636=>
 .done r636:TT (Int)) (fun r=>.int .i64 r) by unfold FnD;kernel_rfl)
noncomputable def s182 (p0:Q9) (p1:SWorker) (p2 p3:Z2):EV.Spec Tryz.prog GG (Bool):=.ofFn 182 Q8 Tryz.func182 (show FnD Tryz.prog GG [0,1,2,3,4,5] Tryz.f182 [.agg (Q2.c p0),.snap [.snap [.bool p1.fAgent.fList.fControlling,.sl false 8 (List.map Q0.c p1.fAgent.fList.fLocals),.sl false 8 (List.map Q0.c p1.fAgent.fList.fRemotes),.sl false 4 (List.map Q2.c p1.fAgent.fList.fPairs),.i p1.fAgent.fTie,.i p1.fAgent.fNow,.i p1.fAgent.fNext,.i p1.fAgent.fSerial,.i p1.fAgent.fChosen,.sl false 1 (List.map Z1.c p1.fAgent.fQueue),.sl false 1 (List.map Z0.c p1.fAgent.fNamed),.sl false 6 (List.map Q5.c p1.fAgent.fChecks),.sl false 12 (List.map Y2.c p1.fout)]],.snap [.str p2.fHost,.i p2.fPort],.snap [.str p3.fHost,.i p3.fPort]] (
 .cnd 1 [5]
 (.row 1009 Q0 p1.fAgent.fList.fLocals p0.fLocal.toNat (decide (0≤p0.fLocal)) fun x642=>
  .br 1015 ((decide (x642.fBase.fHost=p2.fHost))&&((x642.fBase.fPort==p2.fPort)&&true))
  (.row 1023 Q0 p1.fAgent.fList.fRemotes p0.fRemote.toNat (decide (0≤p0.fRemote)) fun x643=>
   .done ((decide (x643.fAddr.fHost=p3.fHost))&&((x643.fAddr.fPort==p3.fPort)&&true)))
  (.done false))
 (fun(c644:Bool)=>[.bool c644]) fun c644=>
 .done c644:TT (Bool)) (fun r=>.bool r) by unfold FnD;kernel_rfl)
noncomputable def s98_2 (p0:List Q9) (p1:SWorker) (p2 p3:Z2):EV.Spec Tryz.prog GG (Int):=.ofFn 98 Q8 Tryz.func98 (show FnD Tryz.prog GG [0,1,4,5,7,8,9,16] Tryz.f98 [.sl false 4 (List.map Q2.c p0),.fn 182 [] [.snap [.snap [.bool p1.fAgent.fList.fControlling,.sl false 8 (List.map Q0.c p1.fAgent.fList.fLocals),.sl false 8 (List.map Q0.c p1.fAgent.fList.fRemotes),.sl false 4 (List.map Q2.c p1.fAgent.fList.fPairs),.i p1.fAgent.fTie,.i p1.fAgent.fNow,.i p1.fAgent.fNext,.i p1.fAgent.fSerial,.i p1.fAgent.fChosen,.sl false 1 (List.map Z1.c p1.fAgent.fQueue),.sl false 1 (List.map Z0.c p1.fAgent.fNamed),.sl false 6 (List.map Q5.c p1.fAgent.fChecks),.sl false 12 (List.map Y2.c p1.fout)]],.snap [.str p2.fHost,.i p2.fPort],.snap [.str p3.fHost,.i p3.fPort]]] (
 .bind2 1
 (.lp (fun(l643:Int)=>Ext.lit .normal [(0,.sl false 4 (List.map Q2.c p0)),(1,.fn 182 [] [.snap [.snap [.bool p1.fAgent.fList.fControlling,.sl false 8 (List.map Q0.c p1.fAgent.fList.fLocals),.sl false 8 (List.map Q0.c p1.fAgent.fList.fRemotes),.sl false 4 (List.map Q2.c p1.fAgent.fList.fPairs),.i p1.fAgent.fTie,.i p1.fAgent.fNow,.i p1.fAgent.fNext,.i p1.fAgent.fSerial,.i p1.fAgent.fChosen,.sl false 1 (List.map Z1.c p1.fAgent.fQueue),.sl false 1 (List.map Z0.c p1.fAgent.fNamed),.sl false 6 (List.map Q5.c p1.fAgent.fChecks),.sl false 12 (List.map Y2.c p1.fout)]],.snap [.str p2.fHost,.i p2.fPort],.snap [.str p3.fHost,.i p3.fPort]]),(4,.i 0),(7,.i (Y5 Q2 p0)),(8,.i l643)] [])
  (fun l643=>
   .br 0 (decide (l643 < (Y5 Q2 p0)))
   (.row 4004 Q2 p0 l643.toNat (decide (0≤l643)) fun x644=>
    .call 4006 (s182 x644 p1 p2 p3) [] [] fun r645=>
    .br 0 r645
    (.done (.inr (.inl l643)))
    (.done (.inl (Q7 (l643+1)))))
   (.done (.inr (.inr ()))))
  0)
 (fun(e646:Int)=>Ext.lit .ret [(4,.i e646)] [])
 (fun(e647:Unit)=>Ext.lit (.exit 0) [(4,.i 0)] [])
 (fun e646=>
  .done e646)
 (fun e647=>
  .done (-1)):TT (Int)) (fun r=>.int .i64 r) by unfold FnD;kernel_rfl)
noncomputable def s41_2 (p0:List Q9) (p1:SWorker) (p2 p3:Z2):EV.Spec Tryz.prog GG (Int):=.ofFn 41 Q8 Tryz.func41 (show FnD Tryz.prog GG [0,1,4] Tryz.f41 [.sl false 4 (List.map Q2.c p0),.fn 182 [] [.snap [.snap [.bool p1.fAgent.fList.fControlling,.sl false 8 (List.map Q0.c p1.fAgent.fList.fLocals),.sl false 8 (List.map Q0.c p1.fAgent.fList.fRemotes),.sl false 4 (List.map Q2.c p1.fAgent.fList.fPairs),.i p1.fAgent.fTie,.i p1.fAgent.fNow,.i p1.fAgent.fNext,.i p1.fAgent.fSerial,.i p1.fAgent.fChosen,.sl false 1 (List.map Z1.c p1.fAgent.fQueue),.sl false 1 (List.map Z0.c p1.fAgent.fNamed),.sl false 6 (List.map Q5.c p1.fAgent.fChecks),.sl false 12 (List.map Y2.c p1.fout)]],.snap [.str p2.fHost,.i p2.fPort],.snap [.str p3.fHost,.i p3.fPort]]] (
 .call 1003 (s98_2 p0 p1 p2 p3) [] [] fun r648=>
 .done r648:TT (Int)) (fun r=>.int .i64 r) by unfold FnD;kernel_rfl)
noncomputable def s108 (p0 p1:Int) (p2:Bool) (p3 p4 p5 p6 p7:Int) (p8 p9:List Q3) (p10:List Q9) (p11:List Int) (p12:List Bool) (p13:List Z4) (p14:List U5):EV.Spec Tryz.prog GG ((List Q9)×(List Bool)×Int):=.ofFnB 108 [660000,660001,1000001,1000002,1000004,1000006,1000007] Q8 Tryz.func108 rfl (fun _=>rfl) (show FnB Tryz.prog GG [0,1,2,3,6,7,8,9,10,11,12,13,14,45,83,94] Tryz.f108 [.ptr 1000000 0 0,.i p0,.i p1] (Ext.of .normal (W0 [.ptr 1000000 0 0,.i p0,.i p1]) [(1000000,⟨13,true,[[.bool p2,.ref 1000001 0 p8.length,.ref 1000002 0 p9.length,.ref 1000003 0 p10.length,.i p3,.i p4,.i p5,.i p6,.i p7,.ref 1000004 0 p11.length,.ref 1000005 0 p12.length,.ref 1000006 0 p13.length,.ref 1000007 0 p14.length]]⟩)] [BT.of 1000001 Q0 8 p8 true,BT.of 1000002 Q0 8 p9 true,BT.of 1000003 Q2 4 p10 true,BT.of 1000004 Z1 1 p11 true,BT.of 1000005 Z0 1 p12 true,BT.of 1000006 Q5 6 p13 true,BT.of 1000007 Y2 12 p14 true] (by rfl)) (
 .chk 1008 (decide (0≤p0)&&decide (p0 < (p8.length:Int))) (.row 1010 Q0 p8 (0+p0.toNat) true fun x654=>
 .chk 1018 (decide (0≤p1)&&decide (p1 < (p9.length:Int))) (.row 1020 Q0 p9 (0+p1.toNat) true fun x655=>
 .view 2008 (s41_2 p10 (SWorker.mk (Y7.mk (Y8.mk p2 p8 p9 p10) p3 p4 p5 p6 p7 p11 p12 p13) p14) x654.fBase x655.fAddr) [(VwW.of 1000003 Q2 p10),(VwW.of 1000001 Q0 p8),(VwW.of 1000002 Q0 p9),(VwW.of 1000003 Q2 p10),(VwW.of 1000004 Z1 p11),(VwW.of 1000005 Z0 p12),(VwW.of 1000006 Q5 p13),(VwW.of 1000007 Y2 p14)] fun r656=>
 .br 0 (decide ((0:Int)≤r656))
 (.gh 0 (.ren 1000003 660000) (.gh 0 (.ren 1000005 660001) (.done (p10,p12,r656))))
 (.chk 5008 (decide (0≤p0)&&decide (p0 < (p8.length:Int))) (.row 5009 Q0 p8 (0+p0.toNat) true fun x657=>
  .chk 5017 (decide (0≤p1)&&decide (p1 < (p9.length:Int))) (.row 5018 Q0 p9 (0+p1.toNat) true fun x658=>
  .cnd 6 [83]
  (.br 6011 ((x657.fAddr.fHost.size:Int) != (x658.fAddr.fHost.size:Int))
   (.done true)
   (.done ((p10.length:Int)==36)))
  (fun(c659:Bool)=>[.bool c659]) fun c659=>
  .br 0 c659
  (.gh 0 (.ren 1000003 660000) (.gh 0 (.ren 1000005 660001) (.done (p10,p12,(-1)))))
  (.bind 0
   (.br 0 (!p2)
    (.done (x658.fPriority,x657.fPriority))
    (.done (x657.fPriority,x658.fPriority)))
   (fun(e660:Int×Int)=>Ext.of .normal [(1,.i p0),(2,.i p1),(3,.ptr 3 0 0),(6,.i 0),(12,.i e660.1),(13,.i e660.2)] [(3,⟨1,true,[[.ptr 1000000 0 0]]⟩),(1000000,⟨13,true,[[.bool p2,.ref 1000001 0 p8.length,.ref 1000002 0 p9.length,.ref 1000003 0 p10.length,.i p3,.i p4,.i p5,.i p6,.i p7,.ref 1000004 0 p11.length,.ref 1000005 0 p12.length,.ref 1000006 0 p13.length,.ref 1000007 0 p14.length]]⟩)] [BT.of 1000001 Q0 8 p8 true,BT.of 1000002 Q0 8 p9 true,BT.of 1000003 Q2 4 p10 true,BT.of 1000004 Z1 1 p11 true,BT.of 1000005 Z0 1 p12 true,BT.of 1000006 Q5 6 p13 true,BT.of 1000007 Y2 12 p14 true] (by rfl))
   (fun e660=>
    .call 11003 (s183 e660.1 e660.2) [] [] fun r661=>
    .app 12014 Q2 p10 [(Q9.mk p0 p1 r661.1 0)] 32 false (by intro h;cases h) (.app 12021 Z0 p12 [false] 1 false (by intro h;cases h) (.gh 0 (.ren 116 660000) (.gh 0 (.ren 123 660001) (.done ((p10++[(Q9.mk p0 p1 r661.1 0)]),(p12++[false]),(Q7 (((p10++[(Q9.mk p0 p1 r661.1 0)]).length:Int) - 1)))))))))))))):TT ((List Q9)×(List Bool)×Int)) (fun(r:(List Q9)×(List Bool)×Int)=>.int .i64 r.2.2) (fun(r:(List Q9)×(List Bool)×Int)=>Ext.of .normal [] [(1000000,⟨13,true,[[.bool p2,.ref 1000001 0 p8.length,.ref 1000002 0 p9.length,.ref 660000 0 r.1.length,.i p3,.i p4,.i p5,.i p6,.i p7,.ref 1000004 0 p11.length,.ref 660001 0 r.2.1.length,.ref 1000006 0 p13.length,.ref 1000007 0 p14.length]]⟩)] [BT.of 660000 Q2 4 r.1 true,BT.of 660001 Z0 1 r.2.1 true,BT.of 1000001 Q0 8 p8 true,BT.of 1000002 Q0 8 p9 true,BT.of 1000004 Z1 1 p11 true,BT.of 1000006 Q5 6 p13 true,BT.of 1000007 Y2 12 p14 true] (by rfl)) by unfold FnB;kernel_rfl)
noncomputable def s109 (p0:Int) (p1:Bool) (p2 p3 p4 p5 p6:Int) (p7 p8:List Q3) (p9:List Q9) (p10:List Int) (p11:List Bool) (p12:List Z4) (p13:List U5):EV.Spec Tryz.prog GG ((List Int)):=.ofFnB 109 [660000,1000001,1000002,1000003,1000005,1000006,1000007] Q8 Tryz.func109 rfl (fun _=>rfl) (show FnB Tryz.prog GG [0,1,11] Tryz.f109 [.ptr 1000000 0 0,.i p0] (Ext.of .normal (W0 [.ptr 1000000 0 0,.i p0]) [(1000000,⟨13,true,[[.bool p1,.ref 1000001 0 p7.length,.ref 1000002 0 p8.length,.ref 1000003 0 p9.length,.i p2,.i p3,.i p4,.i p5,.i p6,.ref 1000004 0 p10.length,.ref 1000005 0 p11.length,.ref 1000006 0 p12.length,.ref 1000007 0 p13.length]]⟩)] [BT.of 1000001 Q0 8 p7 true,BT.of 1000002 Q0 8 p8 true,BT.of 1000003 Q2 4 p9 true,BT.of 1000004 Z1 1 p10 true,BT.of 1000005 Z0 1 p11 true,BT.of 1000006 Q5 6 p12 true,BT.of 1000007 Y2 12 p13 true] (by rfl)) (
 .view 7 (s87 p10 p0) [(VwW.of 1000004 Z1 p10)] fun r668=>
 .br 0 (!r668)
 (.app 1009 Z1 p10 [p0] 8 false (by intro h;cases h) (.gh 0 (.ren 20 660000) (.done (p10++[p0]))))
 (.gh 0 (.ren 1000004 660000) (.done p10)):TT ((List Int))) (fun(r:(List Int))=>.tup []) (fun(r:(List Int))=>Ext.of .normal [] [(1000000,⟨13,true,[[.bool p1,.ref 1000001 0 p7.length,.ref 1000002 0 p8.length,.ref 1000003 0 p9.length,.i p2,.i p3,.i p4,.i p5,.i p6,.ref 660000 0 r.length,.ref 1000005 0 p11.length,.ref 1000006 0 p12.length,.ref 1000007 0 p13.length]]⟩)] [BT.of 660000 Z1 1 r true,BT.of 1000001 Q0 8 p7 true,BT.of 1000002 Q0 8 p8 true,BT.of 1000003 Q2 4 p9 true,BT.of 1000005 Z0 1 p11 true,BT.of 1000006 Q5 6 p12 true,BT.of 1000007 Y2 12 p13 true] (by rfl)) by unfold FnB;kernel_rfl)
noncomputable def s52 (p0:U5) (p1:Bool) (p2 p3 p4 p5 p6:Int) (p7 p8:List Q3) (p9:List Q9) (p10:List Int) (p11:List Bool) (p12:List Z4):EV.Spec Tryz.prog GG ((List Q9)×(List Int)×(List Bool)×(List U5)×Int):=.ofFnB 52 [660000,660001,660002,660003,1000001,1000002,1000006] Q8 Tryz.func52 rfl (fun _=>rfl) (show FnB Tryz.prog GG [0,1,3,4,5,6,7,8,19,34,64,72,105,125,142,162] Tryz.f52 [.ptr 1000000 0 0,.agg (Y2.c p0)] (Ext.of .normal (W0 [.ptr 1000000 0 0,.agg (Y2.c p0)]) [(1000000,⟨13,true,[[.bool p1,.ref 1000001 0 p7.length,.ref 1000002 0 p8.length,.ref 1000003 0 p9.length,.i p2,.i p3,.i p4,.i p5,.i p6,.ref 1000004 0 p10.length,.ref 1000005 0 p11.length,.ref 1000006 0 p12.length,.nilsl]]⟩)] [BT.of 1000001 Q0 8 p7 true,BT.of 1000002 Q0 8 p8 true,BT.of 1000003 Q2 4 p9 true,BT.of 1000004 Z1 1 p10 true,BT.of 1000005 Z0 1 p11 true,BT.of 1000006 Q5 6 p12 true] (by rfl)) (
 .br 0 (p0.fProbe.fControlling==p1)
 (.br 0 (p1==(decide (p0.fProbe.fTie≤p2)))
  (.call 4004 (s103 (U5.mk (Z2.mk p0.fFrom.fHost p0.fFrom.fPort) (Z2.mk p0.fTo.fHost p0.fTo.fPort) (Y6.mk p0.fProbe.fKind p0.fProbe.fId p0.fProbe.fPriority p0.fProbe.fControlling p0.fProbe.fTie p0.fProbe.fUse (Z2.mk p0.fProbe.fSeen.fHost p0.fProbe.fSeen.fPort))) (Y6.mk 3 0 0 false 0 false (Z2.mk ByteArray.empty 0)) p1 p2 p3 p4 p5 p6 p7 p8 p9 p10 p11 p12) [(1000000,1000000),(1000001,1000001),(1000002,1000002),(1000003,1000003),(1000004,1000004),(1000005,1000005),(1000006,1000006)] [(22,500088)] fun r616=>
   .gh 0 (.ren 1000003 660000) (.gh 0 (.ren 1000004 660001) (.gh 0 (.ren 1000005 660002) (.gh 0 (.ren 500088 660003) (.done (p9,p10,p11,r616,p6))))))
  (.fail))
 (.call 6006 (s103 (U5.mk (Z2.mk p0.fFrom.fHost p0.fFrom.fPort) (Z2.mk p0.fTo.fHost p0.fTo.fPort) (Y6.mk p0.fProbe.fKind p0.fProbe.fId p0.fProbe.fPriority p0.fProbe.fControlling p0.fProbe.fTie p0.fProbe.fUse (Z2.mk p0.fProbe.fSeen.fHost p0.fProbe.fSeen.fPort))) (Y6.mk 2 0 0 false 0 false (Z2.mk p0.fFrom.fHost p0.fFrom.fPort)) p1 p2 p3 p4 p5 p6 p7 p8 p9 p10 p11 p12) [(1000000,1000000),(1000001,1000001),(1000002,1000002),(1000003,1000003),(1000004,1000004),(1000005,1000005),(1000006,1000006)] [(22,500089)] fun r617=>
  .view 7008 (s50_2 p7 (U5.mk (Z2.mk p0.fFrom.fHost p0.fFrom.fPort) (Z2.mk p0.fTo.fHost p0.fTo.fPort) (Y6.mk p0.fProbe.fKind p0.fProbe.fId p0.fProbe.fPriority p0.fProbe.fControlling p0.fProbe.fTie p0.fProbe.fUse (Z2.mk p0.fProbe.fSeen.fHost p0.fProbe.fSeen.fPort)))) [(VwW.of 1000001 Q0 p7)] fun r627=>
  .view 8008 (s50_3 p8 (U5.mk (Z2.mk p0.fFrom.fHost p0.fFrom.fPort) (Z2.mk p0.fTo.fHost p0.fTo.fPort) (Y6.mk p0.fProbe.fKind p0.fProbe.fId p0.fProbe.fPriority p0.fProbe.fControlling p0.fProbe.fTie p0.fProbe.fUse (Z2.mk p0.fProbe.fSeen.fHost p0.fProbe.fSeen.fPort)))) [(VwW.of 1000002 Q0 p8)] fun r637=>
  .br 0 (decide (r637 < 0))
  (.br 0 ((p8.length:Int)==12)
   (.gh 0 (.ren 1000003 660000) (.gh 0 (.ren 1000004 660001) (.gh 0 (.ren 1000005 660002) (.gh 0 (.ren 500089 660003) (.done (p9,p10,p11,r617,p6))))))
   (.fail))
  (.call 13004 (s108 r627 r637 p1 p2 p3 p4 p5 p6 p7 p8 p9 p10 p11 p12 r617) [(1000000,1000000),(1000001,1000001),(1000002,1000002),(1000003,1000003),(1000004,1000004),(1000005,1000005),(1000006,1000006),(1000007,500089)] [(660000,500090),(660001,500091)] fun r662=>
   .br 0 (decide (r662.2.2 < 0))
   (.gh 0 (.ren 500090 660000) (.gh 0 (.ren 1000004 660001) (.gh 0 (.ren 500091 660002) (.gh 0 (.ren 500089 660003) (.done (r662.1,p10,r662.2.1,r617,p6))))))
   (.chk 15008 (decide (0≤r662.2.2)&&decide (r662.2.2 < (r662.1.length:Int))) (.cnd 16 [125]
    (.row 16004 Q2 r662.1 (0+r662.2.2.toNat) true fun x663=>
     .br 16007 (x663.fState != 2)
     (.row 16010 Q2 r662.1 (0+r662.2.2.toNat) true fun x664=>
      .done (x664.fState != 3))
     (.done false))
    (fun(c665:Bool)=>[.bool c665]) fun c665=>
    .bind 0
    (.br 0 c665
     (.row 17004 Q2 r662.1 (0+r662.2.2.toNat) true fun x666=>
      .re 17004 (ReW.put 500090 4 Q2 r662.1 (0+r662.2.2.toNat) (Q9.mk x666.fLocal x666.fRemote x666.fPriority 1)) (.gh 20 (.len 500090 ((r662.1.set (0+r662.2.2.toNat) (Q9.mk x666.fLocal x666.fRemote x666.fPriority 1)).length) [r662.1.length] (by simp)) (.call 18003 (s109 r662.2.2 p1 p2 p3 p4 p5 p6 p7 p8 (r662.1.set (0+r662.2.2.toNat) (Q9.mk x666.fLocal x666.fRemote x666.fPriority 1)) p10 r662.2.1 p12 r617) [(1000000,1000000),(1000001,1000001),(1000002,1000002),(1000003,500090),(1000004,1000004),(1000005,500091),(1000006,1000006),(1000007,500089)] [(660000,500092)] fun r669=>
      .gh 0 (.ren 500092 600093) (.done ((r662.1.set (0+r662.2.2.toNat) (Q9.mk x666.fLocal x666.fRemote x666.fPriority 1)),r669)))))
     (.gh 0 (.ren 1000004 600093) (.done (r662.1,p10))))
    (fun(e670:(List Q9)×(List Int))=>Ext.of .normal [(0,.ptr 1000000 0 0),(4,.ptr 4 0 0),(7,.i r662.2.2),(8,.ptr 500090 (0+r662.2.2.toNat) 0)] [(4,⟨8,true,[[.i p0.fProbe.fKind,.i p0.fProbe.fId,.i p0.fProbe.fPriority,.bool p0.fProbe.fControlling,.i p0.fProbe.fTie,.bool p0.fProbe.fUse,.str p0.fProbe.fSeen.fHost,.i p0.fProbe.fSeen.fPort]]⟩),(1000000,⟨13,true,[[.bool p1,.ref 1000001 0 p7.length,.ref 1000002 0 p8.length,.ref 500090 0 e670.1.length,.i p2,.i p3,.i p4,.i p5,.i p6,.ref 600093 0 e670.2.length,.ref 500091 0 r662.2.1.length,.ref 1000006 0 p12.length,.ref 500089 0 r617.length]]⟩)] [BT.of 500089 Y2 12 r617 true,BT.of 500090 Q2 4 e670.1 true,BT.of 500091 Z0 1 r662.2.1 true,BT.of 600093 Z1 1 e670.2 true,BT.of 1000001 Q0 8 p7 true,BT.of 1000002 Q0 8 p8 true,BT.of 1000006 Q5 6 p12 true] (by rfl))
    (fun e670=>
     .cnd 19 [142]
     (.br 19004 p0.fProbe.fUse
      (.done (!p1))
      (.done false))
     (fun(c671:Bool)=>[.bool c671]) fun c671=>
     .br 0 c671
     (.chk 20007 (decide (0≤r662.2.2)&&decide (r662.2.2 < (r662.2.1.length:Int))) (.row 20008 Z0 r662.2.1 (0+r662.2.2.toNat) true fun x672=>
      .re 20008 (ReW.put 500091 1 Z0 r662.2.1 (0+r662.2.2.toNat) true) (.gh 23 (.len 500091 ((r662.2.1.set (0+r662.2.2.toNat) true).length) [r662.2.1.length] (by simp)) (.cnd 21 [162]
      (.row 21004 Q2 e670.1 (0+r662.2.2.toNat) true fun x673=>
       .br 21007 (x673.fState==3)
       (.done (decide (p6 < 0)))
       (.done false))
      (fun(c674:Bool)=>[.bool c674]) fun c674=>
      .br 0 c674
      (.gh 0 (.ren 500090 660000) (.gh 0 (.ren 600093 660001) (.gh 0 (.ren 500091 660002) (.gh 0 (.ren 500089 660003) (.done (e670.1,e670.2,(r662.2.1.set (0+r662.2.2.toNat) true),r617,r662.2.2))))))
      (.gh 0 (.ren 500090 660000) (.gh 0 (.ren 600093 660001) (.gh 0 (.ren 500091 660002) (.gh 0 (.ren 500089 660003) (.done (e670.1,e670.2,(r662.2.1.set (0+r662.2.2.toNat) true),r617,p6))))))))))
     (.gh 0 (.ren 500090 660000) (.gh 0 (.ren 600093 660001) (.gh 0 (.ren 500091 660002) (.gh 0 (.ren 500089 660003) (.done (e670.1,e670.2,r662.2.1,r617,p6))))))))))):TT ((List Q9)×(List Int)×(List Bool)×(List U5)×Int)) (fun(r:(List Q9)×(List Int)×(List Bool)×(List U5)×Int)=>.tup []) (fun(r:(List Q9)×(List Int)×(List Bool)×(List U5)×Int)=>Ext.of .normal [] [(1000000,⟨13,true,[[.bool p1,.ref 1000001 0 p7.length,.ref 1000002 0 p8.length,.ref 660000 0 r.1.length,.i p2,.i p3,.i p4,.i p5,.i r.2.2.2.2,.ref 660001 0 r.2.1.length,.ref 660002 0 r.2.2.1.length,.ref 1000006 0 p12.length,.ref 660003 0 r.2.2.2.1.length]]⟩)] [BT.of 660000 Q2 4 r.1 true,BT.of 660001 Z1 1 r.2.1 true,BT.of 660002 Z0 1 r.2.2.1 true,BT.of 660003 Y2 12 r.2.2.2.1 true,BT.of 1000001 Q0 8 p7 true,BT.of 1000002 Q0 8 p8 true,BT.of 1000006 Q5 6 p12 true] (by rfl)) by unfold FnB;kernel_rfl)
noncomputable def s186 (p0:List Bool) (p1:Bool):EV.Spec Tryz.prog GG (Int):=.ofFn 186 Q8 Tryz.func186 (show FnD Tryz.prog GG [0,1,4,5,7,8,9,16] Tryz.f186 [.sl false 1 (List.map Z0.c p0),.bool p1] (
 .bind2 1
 (.lp (fun(l678:Int)=>Ext.lit .normal [(0,.sl false 1 (List.map Z0.c p0)),(1,.bool p1),(4,.i 0),(7,.i (Y5 Z0 p0)),(8,.i l678)] [])
  (fun l678=>
   .br 0 (decide (l678 < (Y5 Z0 p0)))
   (.row 4004 Z0 p0 l678.toNat (decide (0≤l678)) fun x679=>
    .br 0 (p1==x679)
    (.done (.inr (.inl l678)))
    (.done (.inl (Q7 (l678+1)))))
   (.done (.inr (.inr ()))))
  0)
 (fun(e680:Int)=>Ext.lit .ret [(4,.i e680)] [])
 (fun(e681:Unit)=>Ext.lit (.exit 0) [(4,.i 0)] [])
 (fun e680=>
  .done e680)
 (fun e681=>
  .done (-1)):TT (Int)) (fun r=>.int .i64 r) by unfold FnD;kernel_rfl)
noncomputable def s114 (p0:List Bool) (p1:Bool):EV.Spec Tryz.prog GG (Bool):=.ofFn 114 Q8 Tryz.func114 (show FnD Tryz.prog GG [0,1,4] Tryz.f114 [.sl false 1 (List.map Z0.c p0),.bool p1] (
 .call 1003 (s186 p0 p1) [] [] fun r682=>
 .done (decide ((0:Int)≤r682)):TT (Bool)) (fun r=>.bool r) by unfold FnD;kernel_rfl)
noncomputable def s115 (p0:Q9) (p1:SWorker) (p2:Int):EV.Spec Tryz.prog GG (Bool):=.ofFn 115 Q8 Tryz.func115 (show FnD Tryz.prog GG [0,1,2,3,4] Tryz.f115 [.agg (Q2.c p0),.snap [.snap [.bool p1.fAgent.fList.fControlling,.sl false 8 (List.map Q0.c p1.fAgent.fList.fLocals),.sl false 8 (List.map Q0.c p1.fAgent.fList.fRemotes),.sl false 4 (List.map Q2.c p1.fAgent.fList.fPairs),.i p1.fAgent.fTie,.i p1.fAgent.fNow,.i p1.fAgent.fNext,.i p1.fAgent.fSerial,.i p1.fAgent.fChosen,.sl false 1 (List.map Z1.c p1.fAgent.fQueue),.sl false 1 (List.map Z0.c p1.fAgent.fNamed),.sl false 6 (List.map Q5.c p1.fAgent.fChecks),.sl false 12 (List.map Y2.c p1.fout)]],.snap [.i p2]] (
 .cnd 1 [4]
 (.br 1005 (decide (p0.fState < 3))
  (.row 1014 Q2 p1.fAgent.fList.fPairs p2.toNat (decide (0≤p2)) fun x695=>
   .done (decide (x695.fPriority < p0.fPriority)))
  (.done false))
 (fun(c696:Bool)=>[.bool c696]) fun c696=>
 .done c696:TT (Bool)) (fun r=>.bool r) by unfold FnD;kernel_rfl)
noncomputable def s98_3 (p0:List Q9) (p1:SWorker) (p2:Int):EV.Spec Tryz.prog GG (Int):=.ofFn 98 Q8 Tryz.func98 (show FnD Tryz.prog GG [0,1,4,5,7,8,9,16] Tryz.f98 [.sl false 4 (List.map Q2.c p0),.fn 115 [] [.snap [.snap [.bool p1.fAgent.fList.fControlling,.sl false 8 (List.map Q0.c p1.fAgent.fList.fLocals),.sl false 8 (List.map Q0.c p1.fAgent.fList.fRemotes),.sl false 4 (List.map Q2.c p1.fAgent.fList.fPairs),.i p1.fAgent.fTie,.i p1.fAgent.fNow,.i p1.fAgent.fNext,.i p1.fAgent.fSerial,.i p1.fAgent.fChosen,.sl false 1 (List.map Z1.c p1.fAgent.fQueue),.sl false 1 (List.map Z0.c p1.fAgent.fNamed),.sl false 6 (List.map Q5.c p1.fAgent.fChecks),.sl false 12 (List.map Y2.c p1.fout)]],.snap [.i p2]]] (
 .bind2 1
 (.lp (fun(l696:Int)=>Ext.lit .normal [(0,.sl false 4 (List.map Q2.c p0)),(1,.fn 115 [] [.snap [.snap [.bool p1.fAgent.fList.fControlling,.sl false 8 (List.map Q0.c p1.fAgent.fList.fLocals),.sl false 8 (List.map Q0.c p1.fAgent.fList.fRemotes),.sl false 4 (List.map Q2.c p1.fAgent.fList.fPairs),.i p1.fAgent.fTie,.i p1.fAgent.fNow,.i p1.fAgent.fNext,.i p1.fAgent.fSerial,.i p1.fAgent.fChosen,.sl false 1 (List.map Z1.c p1.fAgent.fQueue),.sl false 1 (List.map Z0.c p1.fAgent.fNamed),.sl false 6 (List.map Q5.c p1.fAgent.fChecks),.sl false 12 (List.map Y2.c p1.fout)]],.snap [.i p2]]),(4,.i 0),(7,.i (Y5 Q2 p0)),(8,.i l696)] [])
  (fun l696=>
   .br 0 (decide (l696 < (Y5 Q2 p0)))
   (.row 4004 Q2 p0 l696.toNat (decide (0≤l696)) fun x697=>
    .call 4006 (s115 x697 p1 p2) [] [] fun r698=>
    .br 0 r698
    (.done (.inr (.inl l696)))
    (.done (.inl (Q7 (l696+1)))))
   (.done (.inr (.inr ()))))
  0)
 (fun(e699:Int)=>Ext.lit .ret [(4,.i e699)] [])
 (fun(e700:Unit)=>Ext.lit (.exit 0) [(4,.i 0)] [])
 (fun e699=>
  .done e699)
 (fun e700=>
  .done (-1)):TT (Int)) (fun r=>.int .i64 r) by unfold FnD;kernel_rfl)
noncomputable def s41_3 (p0:List Q9) (p1:SWorker) (p2:Int):EV.Spec Tryz.prog GG (Int):=.ofFn 41 Q8 Tryz.func41 (show FnD Tryz.prog GG [0,1,4] Tryz.f41 [.sl false 4 (List.map Q2.c p0),.fn 115 [] [.snap [.snap [.bool p1.fAgent.fList.fControlling,.sl false 8 (List.map Q0.c p1.fAgent.fList.fLocals),.sl false 8 (List.map Q0.c p1.fAgent.fList.fRemotes),.sl false 4 (List.map Q2.c p1.fAgent.fList.fPairs),.i p1.fAgent.fTie,.i p1.fAgent.fNow,.i p1.fAgent.fNext,.i p1.fAgent.fSerial,.i p1.fAgent.fChosen,.sl false 1 (List.map Z1.c p1.fAgent.fQueue),.sl false 1 (List.map Z0.c p1.fAgent.fNamed),.sl false 6 (List.map Q5.c p1.fAgent.fChecks),.sl false 12 (List.map Y2.c p1.fout)]],.snap [.i p2]]] (
 .call 1003 (s98_3 p0 p1 p2) [] [] fun r701=>
 .done r701:TT (Int)) (fun r=>.int .i64 r) by unfold FnD;kernel_rfl)
noncomputable def s55 (p0:Bool) (p1 p2 p3 p4 p5:Int) (p6 p7:List Q3) (p8:List Q9) (p9:List Int) (p10:List Bool) (p11:List Z4) (p12:List U5):EV.Spec Tryz.prog GG ((List Int)×(List Bool)):=.ofFnB 55 [660000,1000001,1000002,1000003,1000005,1000006,1000007] Q8 Tryz.func55 rfl (fun _=>rfl) (show FnB Tryz.prog GG [0,1,2,3,4,27,33,34,35,36,61,76] Tryz.f55 [.ptr 1000000 0 0] (Ext.of .normal (W0 [.ptr 1000000 0 0]) [(1000000,⟨13,true,[[.bool p0,.ref 1000001 0 p6.length,.ref 1000002 0 p7.length,.ref 1000003 0 p8.length,.i p1,.i p2,.i p3,.i p4,.i p5,.ref 1000004 0 p9.length,.ref 1000005 0 p10.length,.ref 1000006 0 p11.length,.ref 1000007 0 p12.length]]⟩)] [BT.of 1000001 Q0 8 p6 true,BT.of 1000002 Q0 8 p7 true,BT.of 1000003 Q2 4 p8 true,BT.of 1000004 Z1 1 p9 true,BT.of 1000005 Z0 1 p10 true,BT.of 1000006 Q5 6 p11 true,BT.of 1000007 Y2 12 p12 true] (by rfl)) (
 .cnd 1 [27]
 (.br 1009 (!p0)
  (.done true)
  (.br 1017 (decide ((0:Int)≤p5))
   (.done true)
   (.view 1022 (s114 p10 true) [(VwW.of 1000005 Z0 p10)] fun r705=>
    .done r705)))
 (fun(c706:Bool)=>[.bool c706]) fun c706=>
 .br 0 c706
 (.gh 0 (.ren 1000004 660000) (.done (p9,p10)))
 (.bind 1
  (.lp (fun(l710:Int×Int)=>Ext.of .normal [(1,.ptr 1 0 0),(2,.ptr 2 0 0),(33,.ref 1000003 0 p8.length),(34,.i (p8.length:Int)),(35,.i l710.2)] [(1,⟨1,true,[[.ptr 1000000 0 0]]⟩),(2,⟨1,true,[[.i l710.1]]⟩),(1000000,⟨13,true,[[.bool p0,.ref 1000001 0 p6.length,.ref 1000002 0 p7.length,.ref 1000003 0 p8.length,.i p1,.i p2,.i p3,.i p4,.i p5,.ref 1000004 0 p9.length,.ref 1000005 0 p10.length,.ref 1000006 0 p11.length,.ref 1000007 0 p12.length]]⟩)] [BT.of 1000001 Q0 8 p6 true,BT.of 1000002 Q0 8 p7 true,BT.of 1000003 Q2 4 p8 true,BT.of 1000004 Z1 1 p9 true,BT.of 1000005 Z0 1 p10 true,BT.of 1000006 Q5 6 p11 true,BT.of 1000007 Y2 12 p12 true] (by rfl))
   (fun l710=>
    .br 0 (decide (l710.2 < (p8.length:Int)))
    (.chk 5002 (decide (0≤l710.2)&&decide (l710.2 < (p8.length:Int))) (.row 5003 Q2 p8 (0+l710.2.toNat) true fun x711=>
     .cnd 6 [61]
     (.br 6005 (x711.fState==3)
      (.br 6008 (decide (l710.1 < 0))
       (.done true)
       (.chk 6017 (decide (0≤l710.1)&&decide (l710.1 < (p8.length:Int))) (.row 6019 Q2 p8 (0+l710.1.toNat) true fun x712=>
        .done (decide (x712.fPriority < x711.fPriority)))))
      (.done false))
     (fun(c713:Bool)=>[.bool c713]) fun c713=>
     .br 0 c713
     (.done (.inl (l710.2,(Q7 (l710.2+1)))))
     (.done (.inl (l710.1,(Q7 (l710.2+1)))))))
    (.done (.inr l710.1)))
   ((-1),0))
  (fun(e714:Int)=>Ext.of (.exit 0) [(1,.ptr 1 0 0),(2,.ptr 2 0 0)] [(1,⟨1,true,[[.ptr 1000000 0 0]]⟩),(2,⟨1,true,[[.i e714]]⟩),(1000000,⟨13,true,[[.bool p0,.ref 1000001 0 p6.length,.ref 1000002 0 p7.length,.ref 1000003 0 p8.length,.i p1,.i p2,.i p3,.i p4,.i p5,.ref 1000004 0 p9.length,.ref 1000005 0 p10.length,.ref 1000006 0 p11.length,.ref 1000007 0 p12.length]]⟩)] [BT.of 1000001 Q0 8 p6 true,BT.of 1000002 Q0 8 p7 true,BT.of 1000003 Q2 4 p8 true,BT.of 1000004 Z1 1 p9 true,BT.of 1000005 Z0 1 p10 true,BT.of 1000006 Q5 6 p11 true,BT.of 1000007 Y2 12 p12 true] (by rfl))
  (fun e714=>
   .cnd 9 [76]
   (.br 9004 (decide (e714 < 0))
    (.done true)
    (.view 9011 (s41_3 p8 (SWorker.mk (Y7.mk (Y8.mk p0 p6 p7 p8) p1 p2 p3 p4 p5 p9 p10 p11) p12) e714) [(VwW.of 1000003 Q2 p8),(VwW.of 1000001 Q0 p6),(VwW.of 1000002 Q0 p7),(VwW.of 1000003 Q2 p8),(VwW.of 1000004 Z1 p9),(VwW.of 1000005 Z0 p10),(VwW.of 1000006 Q5 p11),(VwW.of 1000007 Y2 p12)] fun r715=>
     .done (decide ((0:Int)≤r715))))
   (fun(c716:Bool)=>[.bool c716]) fun c716=>
   .br 0 c716
   (.gh 0 (.ren 1000004 660000) (.done (p9,p10)))
   (.chk 10007 (decide (0≤e714)&&decide (e714 < (p10.length:Int))) (.row 10008 Z0 p10 (0+e714.toNat) true fun x717=>
    .re 10008 (ReW.put 1000005 1 Z0 p10 (0+e714.toNat) true) (.gh 13 (.len 1000005 ((p10.set (0+e714.toNat) true).length) [p10.length] (by simp)) (.call 11003 (s109 e714 p0 p1 p2 p3 p4 p5 p6 p7 p8 p9 (p10.set (0+e714.toNat) true) p11 p12) [(1000000,1000000),(1000001,1000001),(1000002,1000002),(1000003,1000003),(1000004,1000004),(1000005,1000005),(1000006,1000006),(1000007,1000007)] [(660000,500098)] fun r719=>
    .gh 0 (.ren 500098 660000) (.done (r719,(p10.set (0+e714.toNat) true))))))))):TT ((List Int)×(List Bool))) (fun(r:(List Int)×(List Bool))=>.tup []) (fun(r:(List Int)×(List Bool))=>Ext.of .normal [] [(1000000,⟨13,true,[[.bool p0,.ref 1000001 0 p6.length,.ref 1000002 0 p7.length,.ref 1000003 0 p8.length,.i p1,.i p2,.i p3,.i p4,.i p5,.ref 660000 0 r.1.length,.ref 1000005 0 r.2.length,.ref 1000006 0 p11.length,.ref 1000007 0 p12.length]]⟩)] [BT.of 660000 Z1 1 r.1 true,BT.of 1000001 Q0 8 p6 true,BT.of 1000002 Q0 8 p7 true,BT.of 1000003 Q2 4 p8 true,BT.of 1000005 Z0 1 r.2 true,BT.of 1000006 Q5 6 p11 true,BT.of 1000007 Y2 12 p12 true] (by rfl)) by unfold FnB;kernel_rfl)
noncomputable def s75 (p0:Bool) (p1 p2:List Q3) (p3:List Q9) (p4 p5 p6 p7 p8:Int) (p9:List Int) (p10:List Bool) (p11:List Z4) (p12:Int):EV.Spec Tryz.prog GG (Z2×Z2):=.ofFn 75 Q8 Tryz.func75 (show FnD Tryz.prog GG [0,1,4,5,6] Tryz.f75 [.snap [.bool p0,.sl false 8 (List.map Q0.c p1),.sl false 8 (List.map Q0.c p2),.sl false 4 (List.map Q2.c p3),.i p4,.i p5,.i p6,.i p7,.i p8,.sl false 1 (List.map Z1.c p9),.sl false 1 (List.map Z0.c p10),.sl false 6 (List.map Q5.c p11),.nilsl],.i p12] (
 .row 1008 Q2 p3 p12.toNat (decide (0≤p12)) fun x723=>
 .row 2009 Q0 p1 x723.fLocal.toNat (decide (0≤x723.fLocal)) fun x724=>
 .row 2020 Q0 p2 x723.fRemote.toNat (decide (0≤x723.fRemote)) fun x725=>
 .done (x724.fBase,x725.fAddr):TT (Z2×Z2)) (fun r=>.tup [.agg [.str r.1.fHost,.int .i64 r.1.fPort],.agg [.str r.2.fHost,.int .i64 r.2.fPort]]) by unfold FnD;kernel_rfl)
noncomputable def s184 (p0:Z4) (p1:Bool) (p2 p3:List Q3) (p4:List Q9) (p5 p6 p7 p8 p9:Int) (p10:List Int) (p11:List Bool) (p12:List Z4) (p13:U5):EV.Spec Tryz.prog GG (Bool):=.ofFn 184 Q8 Tryz.func184 (show FnD Tryz.prog GG [0,1,2,3,4,5,6] Tryz.f184 [.agg (Q5.c p0),.snap [.snap [.bool p1,.sl false 8 (List.map Q0.c p2),.sl false 8 (List.map Q0.c p3),.sl false 4 (List.map Q2.c p4),.i p5,.i p6,.i p7,.i p8,.i p9,.sl false 1 (List.map Z1.c p10),.sl false 1 (List.map Z0.c p11),.sl false 6 (List.map Q5.c p12),.nilsl]],.snap (Y2.c p13)] (
 .call 1004 (s75 p1 p2 p3 p4 p5 p6 p7 p8 p9 p10 p11 p12 p0.fPair) [] [] fun r726=>
 .cnd 2 [4]
 (.br 2008 (p0.fId==p13.fProbe.fId)
  (.br 2014 ((decide (r726.1.fHost=p13.fTo.fHost))&&((r726.1.fPort==p13.fTo.fPort)&&true))
   (.done ((decide (r726.2.fHost=p13.fFrom.fHost))&&((r726.2.fPort==p13.fFrom.fPort)&&true)))
   (.done false))
  (.done false))
 (fun(c727:Bool)=>[.bool c727]) fun c727=>
 .done c727:TT (Bool)) (fun r=>.bool r) by unfold FnD;kernel_rfl)
noncomputable def s223 (p0:List Z4) (p1:Bool) (p2 p3:List Q3) (p4:List Q9) (p5 p6 p7 p8 p9:Int) (p10:List Int) (p11:List Bool) (p12:List Z4) (p13:U5):EV.Spec Tryz.prog GG (Int):=.ofFn 223 Q8 Tryz.func223 (show FnD Tryz.prog GG [0,1,4,5,7,8,9,16] Tryz.f223 [.sl false 6 (List.map Q5.c p0),.fn 184 [] [.snap [.snap [.bool p1,.sl false 8 (List.map Q0.c p2),.sl false 8 (List.map Q0.c p3),.sl false 4 (List.map Q2.c p4),.i p5,.i p6,.i p7,.i p8,.i p9,.sl false 1 (List.map Z1.c p10),.sl false 1 (List.map Z0.c p11),.sl false 6 (List.map Q5.c p12),.nilsl]],.snap (Y2.c p13)]] (
 .bind2 1
 (.lp (fun(l724:Int)=>Ext.lit .normal [(0,.sl false 6 (List.map Q5.c p0)),(1,.fn 184 [] [.snap [.snap [.bool p1,.sl false 8 (List.map Q0.c p2),.sl false 8 (List.map Q0.c p3),.sl false 4 (List.map Q2.c p4),.i p5,.i p6,.i p7,.i p8,.i p9,.sl false 1 (List.map Z1.c p10),.sl false 1 (List.map Z0.c p11),.sl false 6 (List.map Q5.c p12),.nilsl]],.snap (Y2.c p13)]),(4,.i 0),(7,.i (Y5 Q5 p0)),(8,.i l724)] [])
  (fun l724=>
   .br 0 (decide (l724 < (Y5 Q5 p0)))
   (.row 4004 Q5 p0 l724.toNat (decide (0≤l724)) fun x725=>
    .call 4006 (s184 x725 p1 p2 p3 p4 p5 p6 p7 p8 p9 p10 p11 p12 p13) [] [] fun r726=>
    .br 0 r726
    (.done (.inr (.inl l724)))
    (.done (.inl (Q7 (l724+1)))))
   (.done (.inr (.inr ()))))
  0)
 (fun(e727:Int)=>Ext.lit .ret [(4,.i e727)] [])
 (fun(e728:Unit)=>Ext.lit (.exit 0) [(4,.i 0)] [])
 (fun e727=>
  .done e727)
 (fun e728=>
  .done (-1)):TT (Int)) (fun r=>.int .i64 r) by unfold FnD;kernel_rfl)
noncomputable def s168 (p0:List Z4) (p1:Bool) (p2 p3:List Q3) (p4:List Q9) (p5 p6 p7 p8 p9:Int) (p10:List Int) (p11:List Bool) (p12:List Z4) (p13:U5):EV.Spec Tryz.prog GG (Int):=.ofFn 168 Q8 Tryz.func168 (show FnD Tryz.prog GG [0,1,4] Tryz.f168 [.sl false 6 (List.map Q5.c p0),.fn 184 [] [.snap [.snap [.bool p1,.sl false 8 (List.map Q0.c p2),.sl false 8 (List.map Q0.c p3),.sl false 4 (List.map Q2.c p4),.i p5,.i p6,.i p7,.i p8,.i p9,.sl false 1 (List.map Z1.c p10),.sl false 1 (List.map Z0.c p11),.sl false 6 (List.map Q5.c p12),.nilsl]],.snap (Y2.c p13)]] (
 .call 1003 (s223 p0 p1 p2 p3 p4 p5 p6 p7 p8 p9 p10 p11 p12 p13) [] [] fun r729=>
 .done r729:TT (Int)) (fun r=>.int .i64 r) by unfold FnD;kernel_rfl)
noncomputable def g96 (p0 p1:Int) (p2:List Z4):TT ((List Z4)×Nat):=
 .opr 1006 (Rule.cap3 (ty:=Q5) (t:=33) (e:=101) (z:=6) (.tmp 8) (.tmp 9) (.tmp 10) (.tmp 12) 13 1000000 p2.length p2 .i64 .i64 .i64 p0 p1 (p2.length:Int) (by kernel_rfl) (by kernel_rfl)) fun _=>
 .br 0 (p0==p1)
 (.gh 0 (.ren 1000000 26) (.done (p2,p2.length)))
 (.chk 5003 (decide (0≤p0)&&decide (p0≤(p2.length:Int))) (.chk 5006 (decide (0≤p1)&&decide (p1≤(p2.length:Int)))
  (.opr 5007 (Rule.appSame (ty:=Q5) (t:=33) (t2:=33) (e:=101) (e2:=101) (z:=6) (.tmp 22) (.tmp 25) 26 1000000 p0.toNat p1.toNat (p2.length - p1.toNat) p2 (by kernel_rfl) (by kernel_rfl) (by kernel_rfl) (fun _=>rfl)) fun _=>
  .opr 6005 (Rule.cap2 (ty:=Q5) (t:=33) (e:=101) (z:=6) (.tmp 27) (.tmp 29) (.tmp 30) 31 1000000 (p0.toNat+(p2.length - p1.toNat)) (D7 p2 p0.toNat ((p2.drop p1.toNat).take (p2.length - p1.toNat))) .i64 .i64 (((p0.toNat+(p2.length - p1.toNat)):Nat):Int) (p2.length:Int) (by kernel_rfl) (by kernel_rfl)) fun _=>
  .opr 6006 (Rule.clear (ty:=Q5) (t:=33) (e:=101) (z:=6) (.tmp 31) 1000000 ((((p0.toNat+(p2.length - p1.toNat)):Nat):Int)).toNat ((p2.length:Int).toNat - ((((p0.toNat+(p2.length - p1.toNat)):Nat):Int)).toNat) (D7 p2 p0.toNat ((p2.drop p1.toNat).take (p2.length - p1.toNat))) (Z4.mk 0 0 0 0 false false) (by kernel_rfl) (by kernel_rfl) (by kernel_rfl) (by rfl) (fun _=>rfl)) fun _=>
  .gh 0 (.ren 1000000 26) (.done ((D7 (D7 p2 p0.toNat ((p2.drop p1.toNat).take (p2.length - p1.toNat))) ((((p0.toNat+(p2.length - p1.toNat)):Nat):Int)).toNat (List.replicate ((p2.length:Int).toNat - ((((p0.toNat+(p2.length - p1.toNat)):Nat):Int)).toNat) (Z4.mk 0 0 0 0 false false))),(p0.toNat+(p2.length - p1.toNat)))))))
theorem k96 (p0 p1:Int) (p2:List Z4):FnB Tryz.prog GG [0,1,2,6,7,16] Tryz.f96 [.ref 1000000 0 p2.length,.i p0,.i p1] (Ext.of .normal (W0 [.ref 1000000 0 p2.length,.i p0,.i p1]) [] [BT.of 1000000 Q5 6 p2 true] (by rfl)) (g96 p0 p1 p2) (fun(r:(List Z4)×Nat)=>.ref 26 0 r.2) (fun(r:(List Z4)×Nat)=>Ext.of .normal [] [] [BT.of 26 Q5 6 r.1 true] (by rfl)):=by unfold FnB;kernel_rfl
noncomputable def s96 (p0 p1:Int) (p2:List Z4):EV.Spec Tryz.prog GG ((List Z4)):=Spec.trim (.ofFnB 96 [26] Q8 Tryz.func96 rfl (fun _=>rfl) (k96 p0 p1 p2)) Q5 26 6 (by decide) (fun _=>rfl) (fun _=>rfl) (fun _=>rfl)
noncomputable def s110 (p0:U5) (p1:Bool) (p2 p3 p4 p5 p6:Int) (p7 p8:List Q3) (p9:List Q9) (p10:List Int) (p11:List Bool) (p12:List Z4):EV.Spec Tryz.prog GG ((List Z4)×Bool×Int×Int×Int×Int×Bool×Bool):=.ofFnB 110 [660000,1000001,1000002,1000003,1000004,1000005] Q8 Tryz.func110 rfl (fun _=>rfl) (show FnB Tryz.prog GG [0,1,2,3,4,5,6,7,16] Tryz.f110 [.ptr 1000000 0 0,.agg (Y2.c p0)] (Ext.of .normal (W0 [.ptr 1000000 0 0,.agg (Y2.c p0)]) [(1000000,⟨13,true,[[.bool p1,.ref 1000001 0 p7.length,.ref 1000002 0 p8.length,.ref 1000003 0 p9.length,.i p2,.i p3,.i p4,.i p5,.i p6,.ref 1000004 0 p10.length,.ref 1000005 0 p11.length,.ref 1000006 0 p12.length,.nilsl]]⟩)] [BT.of 1000001 Q0 8 p7 true,BT.of 1000002 Q0 8 p8 true,BT.of 1000003 Q2 4 p9 true,BT.of 1000004 Z1 1 p10 true,BT.of 1000005 Z0 1 p11 true,BT.of 1000006 Q5 6 p12 true] (by rfl)) (
 .view 1007 (s168 p12 p1 p7 p8 p9 p2 p3 p4 p5 p6 p10 p11 p12 p0) [(VwW.of 1000006 Q5 p12),(VwW.of 1000001 Q0 p7),(VwW.of 1000002 Q0 p8),(VwW.of 1000003 Q2 p9),(VwW.of 1000004 Z1 p10),(VwW.of 1000005 Z0 p11),(VwW.of 1000006 Q5 p12)] fun r734=>
 .br 0 (decide (r734 < 0))
 (.gh 0 (.ren 1000006 660000) (.done (p12,false,0,0,0,0,false,false)))
 (.chk 4007 (decide (0≤r734)&&decide (r734 < (p12.length:Int))) (.row 4008 Q5 p12 (0+r734.toNat) true fun x735=>
  .call 5010 (s96 r734 (Q7 (r734+1)) p12) [(1000000,1000006)] [(26,500100)] fun r736=>
  .gh 0 (.ren 500100 660000) (.done (r736,true,x735.fId,x735.fPair,x735.fDue,x735.fTries,x735.fUse,x735.fControlling)))):TT ((List Z4)×Bool×Int×Int×Int×Int×Bool×Bool)) (fun(r:(List Z4)×Bool×Int×Int×Int×Int×Bool×Bool)=>.tup [.agg [.i r.2.2.1,.i r.2.2.2.1,.i r.2.2.2.2.1,.i r.2.2.2.2.2.1,.bool r.2.2.2.2.2.2.1,.bool r.2.2.2.2.2.2.2],.bool r.2.1]) (fun(r:(List Z4)×Bool×Int×Int×Int×Int×Bool×Bool)=>Ext.of .normal [] [(1000000,⟨13,true,[[.bool p1,.ref 1000001 0 p7.length,.ref 1000002 0 p8.length,.ref 1000003 0 p9.length,.i p2,.i p3,.i p4,.i p5,.i p6,.ref 1000004 0 p10.length,.ref 1000005 0 p11.length,.ref 660000 0 r.1.length,.nilsl]]⟩)] [BT.of 660000 Q5 6 r.1 true,BT.of 1000001 Q0 8 p7 true,BT.of 1000002 Q0 8 p8 true,BT.of 1000003 Q2 4 p9 true,BT.of 1000004 Z1 1 p10 true,BT.of 1000005 Z0 1 p11 true] (by rfl)) by unfold FnB;kernel_rfl)
noncomputable def s162_1 (p0:Bool) (p1 p2:List Q3) (p3:List Q9):EV.Spec Tryz.prog GG (Unit):=.ofFnB 162 [500102,1000000,1000001] Q8 Tryz.func162 rfl (fun _=>rfl) (show FnB Tryz.prog GG [0,1,2,3,4,10] Tryz.f162 [.agg [.bool p0,.ref 1000000 0 p1.length,.ref 1000001 0 p2.length,.ref 1000002 0 p3.length]] (Ext.of .normal (W0 [.agg [.bool p0,.ref 1000000 0 p1.length,.ref 1000001 0 p2.length,.ref 1000002 0 p3.length]]) [] [BT.of 1000000 Q0 8 p1 true,BT.of 1000001 Q0 8 p2 true,BT.of 1000002 Q2 4 p3 true] (by rfl)) (
 .view 2002 (s160 (M4.mk (Y8.mk p0 p1 p2 p3))) [(VwW.of 1000000 Q0 p1),(VwW.of 1000001 Q0 p2),(VwW.of 1000002 Q2 p3)] fun r738=>
 .br 0 (!r738)
 (.fail)
 (.gh 6 (.share (VwW.of 1000002 Q2 p3) 2) (.call 4004 (s89 p3) [] [(7,500102)] fun r739=>
  .done ())):TT (Unit)) (fun(r:Unit)=>.tup [.ptr 7 0 0,.i 0]) (fun(r:Unit)=>Ext.of .normal [] [(7,⟨4,true,[[.bool p0,.ref 1000000 0 p1.length,.ref 1000001 0 p2.length,.ref 500102 0 p3.length]]⟩)] [BT.of 500102 Q2 4 p3 true,BT.of 1000000 Q0 8 p1 true,BT.of 1000001 Q0 8 p2 true] (by rfl)) by unfold FnB;kernel_rfl)
noncomputable def s111_1 (p0:Bool) (p1 p2:Int) (p3 p4:List Q3) (p5:List Q9):EV.Spec Tryz.prog GG ((List Q9)):=.ofFnB 111 [500104,1000000,1000001] Q8 Tryz.func111 rfl (fun _=>rfl) (show FnB Tryz.prog GG [0,1,2,3,6,7,8,9,10,11,18,40,55,56,57,58,84] Tryz.f111 [.agg [.bool p0,.ref 1000000 0 p3.length,.ref 1000001 0 p4.length,.ref 1000002 0 p5.length],.i p1,.i p2] (Ext.of .normal (W0 [.agg [.bool p0,.ref 1000000 0 p3.length,.ref 1000001 0 p4.length,.ref 1000002 0 p5.length],.i p1,.i p2]) [] [BT.of 1000000 Q0 8 p3 true,BT.of 1000001 Q0 8 p4 true,BT.of 1000002 Q2 4 p5 true] (by rfl)) (
 .call 1002 (s162_1 p0 p3 p4 p5) [(1000000,1000000),(1000001,1000001),(1000002,1000002)] [(7,500103),(500102,500104)] fun r740=>
 .ff (.cnd 4 [40]
 (.br 4004 (decide (p1 < 0))
  (.done true)
  (.br 4014 (decide ((p5.length:Int)≤p1))
   (.done true)
   (.br 4018 (decide (p2 < 0))
    (.done true)
    (.done (decide ((4:Int) < p2))))))
 (fun(c741:Bool)=>[.bool c741]) fun c741=>
 .br 0 c741
 (.fail)
 (.chk 6008 (decide (0≤p1)&&decide (p1 < (p5.length:Int))) (.row 6010 Q2 p5 (0+p1.toNat) true fun x742=>
  .re 6010 (ReW.put 500104 4 Q2 p5 (0+p1.toNat) (Q9.mk x742.fLocal x742.fRemote x742.fPriority p2)) (.gh 9 (.len 500104 ((p5.set (0+p1.toNat) (Q9.mk x742.fLocal x742.fRemote x742.fPriority p2)).length) [p5.length] (by simp)) (.bind 1
  (.lp (fun(l750:(List Q9)×Int)=>Ext.of .normal [(1,.i p1),(2,.i p2),(6,.ptr 6 0 0),(7,.i 0),(8,.ptr 500103 0 0),(55,.ref 500104 0 l750.1.length),(56,.i ((p5.set (0+p1.toNat) (Q9.mk x742.fLocal x742.fRemote x742.fPriority p2)).length:Int)),(57,.i l750.2)] [(6,⟨4,true,[[.bool false,.nilsl,.nilsl,.nilsl]]⟩),(500103,⟨4,true,[[.bool p0,.ref 1000000 0 p3.length,.ref 1000001 0 p4.length,.ref 500104 0 l750.1.length]]⟩)] [BT.of 500104 Q2 4 l750.1 true,BT.of 1000000 Q0 8 p3 true,BT.of 1000001 Q0 8 p4 true] (by rfl))
   (fun l750=>
    .br 0 (decide (l750.2 < ((p5.set (0+p1.toNat) (Q9.mk x742.fLocal x742.fRemote x742.fPriority p2)).length:Int)))
    (.chk 9002 (decide (0≤l750.2)&&decide (l750.2 < (l750.1.length:Int))) (.row 9003 Q2 l750.1 (0+l750.2.toNat) true fun x751=>
     .cnd 10 [84]
     (.br 10004 (p2==3)
      (.br 10009 (x751.fState==0)
       (.view 10011 (s83 (M4.mk (Y8.mk p0 p3 p4 l750.1)) x751) [(VwW.of 1000000 Q0 p3),(VwW.of 1000001 Q0 p4),(VwW.of 500104 Q2 l750.1)] fun r752=>
        .chk 10019 (decide (0≤p1)&&decide (p1 < (l750.1.length:Int))) (.row 10020 Q2 l750.1 (0+p1.toNat) true fun x753=>
        .view 10021 (s83 (M4.mk (Y8.mk p0 p3 p4 l750.1)) x753) [(VwW.of 1000000 Q0 p3),(VwW.of 1000001 Q0 p4),(VwW.of 500104 Q2 l750.1)] fun r754=>
        .done ((decide (r752.a0=r754.a0))&&((decide (r752.a1=r754.a1))&&true))))
       (.done false))
      (.done false))
     (fun(c755:Bool)=>[.bool c755]) fun c755=>
     .br 0 c755
     (.chk 11007 (decide (0≤l750.2)&&decide (l750.2 < (l750.1.length:Int))) (.row 11009 Q2 l750.1 (0+l750.2.toNat) true fun x756=>
      .re 11009 (ReW.put 500104 4 Q2 l750.1 (0+l750.2.toNat) (Q9.mk x756.fLocal x756.fRemote x756.fPriority 1)) (.gh 14 (.len 500104 ((l750.1.set (0+l750.2.toNat) (Q9.mk x756.fLocal x756.fRemote x756.fPriority 1)).length) [l750.1.length,l750.1.length] (by simp)) (.done (.inl ((l750.1.set (0+l750.2.toNat) (Q9.mk x756.fLocal x756.fRemote x756.fPriority 1)),(Q7 (l750.2+1))))))))
     (.done (.inl (l750.1,(Q7 (l750.2+1)))))))
    (.done (.inr l750.1)))
   ((p5.set (0+p1.toNat) (Q9.mk x742.fLocal x742.fRemote x742.fPriority p2)),0))
  (fun(e757:(List Q9))=>Ext.of (.exit 0) [(6,.ptr 6 0 0),(7,.i 0),(8,.ptr 500103 0 0)] [(6,⟨4,true,[[.bool false,.nilsl,.nilsl,.nilsl]]⟩),(500103,⟨4,true,[[.bool p0,.ref 1000000 0 p3.length,.ref 1000001 0 p4.length,.ref 500104 0 e757.length]]⟩)] [BT.of 500104 Q2 4 e757 true,BT.of 1000000 Q0 8 p3 true,BT.of 1000001 Q0 8 p4 true] (by rfl))
  (fun e757=>
   .done e757)))))):TT ((List Q9))) (fun(r:(List Q9))=>.tup [.agg [.bool p0,.ref 1000000 0 p3.length,.ref 1000001 0 p4.length,.ref 500104 0 r.length],.i 0]) (fun(r:(List Q9))=>Ext.of .normal [] [] [BT.of 500104 Q2 4 r true,BT.of 1000000 Q0 8 p3 true,BT.of 1000001 Q0 8 p4 true] (by rfl)) by unfold FnB;kernel_rfl)
noncomputable def s112 (p0:Q3) (p1:Z2):EV.Spec Tryz.prog GG (Bool):=.ofFn 112 Q8 Tryz.func112 (show FnD Tryz.prog GG [0,1,2,3] Tryz.f112 [.agg (Q0.c p0),.snap [.str p1.fHost,.i p1.fPort]] (
 .done ((decide (p0.fAddr.fHost=p1.fHost))&&((p0.fAddr.fPort==p1.fPort)&&true)):TT (Bool)) (fun r=>.bool r) by unfold FnD;kernel_rfl)
noncomputable def s102_5 (p0:List Q3) (p1:Z2):EV.Spec Tryz.prog GG (Int):=.ofFn 102 Q8 Tryz.func102 (show FnD Tryz.prog GG [0,1,4,5,7,8,9,16] Tryz.f102 [.sl false 8 (List.map Q0.c p0),.fn 112 [] [.snap [.str p1.fHost,.i p1.fPort]]] (
 .bind2 1
 (.lp (fun(l763:Int)=>Ext.lit .normal [(0,.sl false 8 (List.map Q0.c p0)),(1,.fn 112 [] [.snap [.str p1.fHost,.i p1.fPort]]),(4,.i 0),(7,.i (Y5 Q0 p0)),(8,.i l763)] [])
  (fun l763=>
   .br 0 (decide (l763 < (Y5 Q0 p0)))
   (.row 4004 Q0 p0 l763.toNat (decide (0≤l763)) fun x764=>
    .call 4006 (s112 x764 p1) [] [] fun r765=>
    .br 0 r765
    (.done (.inr (.inl l763)))
    (.done (.inl (Q7 (l763+1)))))
   (.done (.inr (.inr ()))))
  0)
 (fun(e766:Int)=>Ext.lit .ret [(4,.i e766)] [])
 (fun(e767:Unit)=>Ext.lit (.exit 0) [(4,.i 0)] [])
 (fun e766=>
  .done e766)
 (fun e767=>
  .done (-1)):TT (Int)) (fun r=>.int .i64 r) by unfold FnD;kernel_rfl)
noncomputable def s50_4 (p0:List Q3) (p1:Z2):EV.Spec Tryz.prog GG (Int):=.ofFn 50 Q8 Tryz.func50 (show FnD Tryz.prog GG [0,1,4] Tryz.f50 [.sl false 8 (List.map Q0.c p0),.fn 112 [] [.snap [.str p1.fHost,.i p1.fPort]]] (
 .call 1003 (s102_5 p0 p1) [] [] fun r768=>
 .done r768:TT (Int)) (fun r=>.int .i64 r) by unfold FnD;kernel_rfl)
noncomputable def s231_4 :EV.Spec Tryz.prog GG (Bool):=.ofFn 231 Q8 Tryz.func231 (show FnD Tryz.prog GG [0,1,2,6] Tryz.f231 [.i 2,.i 1,.i 4] (
 .done true:TT (Bool)) (fun r=>.bool r) by unfold FnD;kernel_rfl)
noncomputable def s231_5 :EV.Spec Tryz.prog GG (Bool):=.ofFn 231 Q8 Tryz.func231 (show FnD Tryz.prog GG [0,1,2,6] Tryz.f231 [.i 0,.i 0,.i 65535] (
 .done true:TT (Bool)) (fun r=>.bool r) by unfold FnD;kernel_rfl)
noncomputable def s231_6 :EV.Spec Tryz.prog GG (Bool):=.ofFn 231 Q8 Tryz.func231 (show FnD Tryz.prog GG [0,1,2,6] Tryz.f231 [.i 1,.i 1,.i 256] (
 .done true:TT (Bool)) (fun r=>.bool r) by unfold FnD;kernel_rfl)
noncomputable def s185 :EV.Spec Tryz.prog GG (Int×Int):=.ofFn 185 Q8 Tryz.func185 (show FnD Tryz.prog GG [0,1,2,6,7,8,21,33] Tryz.f185 [.i 2,.i 0,.i 1] (
 .cnd 1 [21]
 (.call 1002 s231_4 [] [] fun r771=>
  .br 1005 (!r771)
  (.done true)
  (.call 1006 s231_5 [] [] fun r772=>
   .br 1010 (!r772)
   (.done true)
   (.call 1011 s231_6 [] [] fun r773=>
    .done (!r773))))
 (fun(c774:Bool)=>[.bool c774]) fun c774=>
 .br 0 c774
 (.done (0,2))
 (.ff (.done (1845494015,0))):TT (Int×Int)) (fun r=>.tup [.int .i64 r.1,.int .i64 r.2]) by unfold FnD;kernel_rfl)
noncomputable def s113 (p0:Bool) (p1 p2:List Q3) (p3:List Q9) (p4 p5 p6 p7 p8:Int) (p9:List Int) (p10:List Bool) (p11:List Z4) (p12:Int):EV.Spec Tryz.prog GG (Int):=.ofFn 113 Q8 Tryz.func113 (show FnD Tryz.prog GG [0,1,4,5] Tryz.f113 [.snap [.bool p0,.sl false 8 (List.map Q0.c p1),.sl false 8 (List.map Q0.c p2),.sl false 4 (List.map Q2.c p3),.i p4,.i p5,.i p6,.i p7,.i p8,.sl false 1 (List.map Z1.c p9),.sl false 1 (List.map Z0.c p10),.sl false 6 (List.map Q5.c p11),.nilsl],.i p12] (
 .call 1001 s185 [] [] fun r775=>
 .row 2017 Q2 p3 p12.toNat (decide (0≤p12)) fun x776=>
 .row 2020 Q0 p1 x776.fLocal.toNat (decide (0≤x776.fLocal)) fun x777=>
 .done (Q7 ((Q7 ((Q7 (Int.tdiv r775.1 16777216)) * 16777216))+(Int.tmod x777.fPriority 16777216))):TT (Int)) (fun r=>.int .i64 r) by unfold FnD;kernel_rfl)
noncomputable def s53 (p0:U5) (p1:Bool) (p2 p3 p4 p5 p6:Int) (p7 p8:List Q3) (p9:List Q9) (p10:List Int) (p11:List Bool) (p12:List Z4):EV.Spec Tryz.prog GG ((List Q9)×Int×(List Z4)):=.ofFnB 53 [500101,660000,1000001,1000002,1000004,1000005] Q8 Tryz.func53 rfl (fun _=>rfl) (show FnB Tryz.prog GG [0,1,3,4,5,6,7,16,69,119] Tryz.f53 [.ptr 1000000 0 0,.agg (Y2.c p0)] (Ext.of .normal (W0 [.ptr 1000000 0 0,.agg (Y2.c p0)]) [(1000000,⟨13,true,[[.bool p1,.ref 1000001 0 p7.length,.ref 1000002 0 p8.length,.ref 1000003 0 p9.length,.i p2,.i p3,.i p4,.i p5,.i p6,.ref 1000004 0 p10.length,.ref 1000005 0 p11.length,.ref 1000006 0 p12.length,.nilsl]]⟩)] [BT.of 1000001 Q0 8 p7 true,BT.of 1000002 Q0 8 p8 true,BT.of 1000003 Q2 4 p9 true,BT.of 1000004 Z1 1 p10 true,BT.of 1000005 Z0 1 p11 true,BT.of 1000006 Q5 6 p12 true] (by rfl)) (
 .call 1003 (s110 (U5.mk (Z2.mk p0.fFrom.fHost p0.fFrom.fPort) (Z2.mk p0.fTo.fHost p0.fTo.fPort) (Y6.mk p0.fProbe.fKind p0.fProbe.fId p0.fProbe.fPriority p0.fProbe.fControlling p0.fProbe.fTie p0.fProbe.fUse (Z2.mk p0.fProbe.fSeen.fHost p0.fProbe.fSeen.fPort))) p1 p2 p3 p4 p5 p6 p7 p8 p9 p10 p11 p12) [(1000000,1000000),(1000001,1000001),(1000002,1000002),(1000003,1000003),(1000004,1000004),(1000005,1000005),(1000006,1000006)] [(660000,500101)] fun r737=>
 .br 0 (!r737.2.1)
 (.gh 0 (.ren 1000003 660000) (.done (p9,p6,r737.1)))
 (.call 3009 (s111_1 p1 r737.2.2.2.1 3 p7 p8 p9) [(1000000,1000001),(1000001,1000002),(1000002,1000003)] [(500104,500105)] fun r758=>
  .view 5004 (s75 p1 p7 p8 r758 p2 p3 p4 p5 p6 p10 p11 r737.1 r737.2.2.2.1) [(VwW.of 1000001 Q0 p7),(VwW.of 1000002 Q0 p8),(VwW.of 500105 Q2 r758),(VwW.of 1000004 Z1 p10),(VwW.of 1000005 Z0 p11),(VwW.of 500101 Q5 r737.1)] fun r759=>
  .cnd 6 [69]
  (.view 6008 (s50_4 p7 (Z2.mk p0.fProbe.fSeen.fHost p0.fProbe.fSeen.fPort)) [(VwW.of 1000001 Q0 p7)] fun r769=>
   .br 6011 (decide (r769 < 0))
   (.br 6020 ((p0.fProbe.fSeen.fHost.size:Int)==(r759.1.fHost.size:Int))
    (.done (decide ((p7.length:Int) < 12)))
    (.done false))
   (.done false))
  (fun(c770:Bool)=>[.bool c770]) fun c770=>
  .br 0 c770
  (.view 7013 (s113 p1 p7 p8 r758 p2 p3 p4 p5 p6 p10 p11 r737.1 r737.2.2.2.1) [(VwW.of 1000001 Q0 p7),(VwW.of 1000002 Q0 p8),(VwW.of 500105 Q2 r758),(VwW.of 1000004 Z1 p10),(VwW.of 1000005 Z0 p11),(VwW.of 500101 Q5 r737.1)] fun r771=>
   .fail)
  (.cnd 8 [119]
   (.br 8008 (decide (p6 < 0))
    (.br 8011 r737.2.2.2.2.2.2.1
     (.done true)
     (.br 8019 (!p1)
      (.chk 8026 (decide (0≤r737.2.2.2.1)&&decide (r737.2.2.2.1 < (p11.length:Int))) (.row 8027 Z0 p11 (0+r737.2.2.2.1.toNat) true fun x772=>
       .done x772))
      (.done false)))
    (.done false))
   (fun(c773:Bool)=>[.bool c773]) fun c773=>
   .br 0 c773
   (.gh 0 (.ren 500105 660000) (.done (r758,r737.2.2.2.1,r737.1)))
   (.gh 0 (.ren 500105 660000) (.done (r758,p6,r737.1))))):TT ((List Q9)×Int×(List Z4))) (fun(r:(List Q9)×Int×(List Z4))=>.tup []) (fun(r:(List Q9)×Int×(List Z4))=>Ext.of .normal [] [(1000000,⟨13,true,[[.bool p1,.ref 1000001 0 p7.length,.ref 1000002 0 p8.length,.ref 660000 0 r.1.length,.i p2,.i p3,.i p4,.i p5,.i r.2.1,.ref 1000004 0 p10.length,.ref 1000005 0 p11.length,.ref 500101 0 r.2.2.length,.nilsl]]⟩)] [BT.of 500101 Q5 6 r.2.2 true,BT.of 660000 Q2 4 r.1 true,BT.of 1000001 Q0 8 p7 true,BT.of 1000002 Q0 8 p8 true,BT.of 1000004 Z1 1 p10 true,BT.of 1000005 Z0 1 p11 true] (by rfl)) by unfold FnB;kernel_rfl)
noncomputable def s115_1 (p0:Q9) (p1:Bool) (p2 p3:List Q3) (p4:List Q9) (p5 p6 p7 p8 p9:Int) (p10:List Int) (p11:List Bool) (p12:List Z4) (p13:Int):EV.Spec Tryz.prog GG (Bool):=.ofFn 115 Q8 Tryz.func115 (show FnD Tryz.prog GG [0,1,2,3,4] Tryz.f115 [.agg (Q2.c p0),.snap [.snap [.bool p1,.sl false 8 (List.map Q0.c p2),.sl false 8 (List.map Q0.c p3),.sl false 4 (List.map Q2.c p4),.i p5,.i p6,.i p7,.i p8,.i p9,.sl false 1 (List.map Z1.c p10),.sl false 1 (List.map Z0.c p11),.sl false 6 (List.map Q5.c p12),.nilsl]],.snap [.i p13]] (
 .cnd 1 [4]
 (.br 1005 (decide (p0.fState < 3))
  (.row 1014 Q2 p4 p13.toNat (decide (0≤p13)) fun x787=>
   .done (decide (x787.fPriority < p0.fPriority)))
  (.done false))
 (fun(c788:Bool)=>[.bool c788]) fun c788=>
 .done c788:TT (Bool)) (fun r=>.bool r) by unfold FnD;kernel_rfl)
noncomputable def s98_4 (p0:List Q9) (p1:Bool) (p2 p3:List Q3) (p4:List Q9) (p5 p6 p7 p8 p9:Int) (p10:List Int) (p11:List Bool) (p12:List Z4) (p13:Int):EV.Spec Tryz.prog GG (Int):=.ofFn 98 Q8 Tryz.func98 (show FnD Tryz.prog GG [0,1,4,5,7,8,9,16] Tryz.f98 [.sl false 4 (List.map Q2.c p0),.fn 115 [] [.snap [.snap [.bool p1,.sl false 8 (List.map Q0.c p2),.sl false 8 (List.map Q0.c p3),.sl false 4 (List.map Q2.c p4),.i p5,.i p6,.i p7,.i p8,.i p9,.sl false 1 (List.map Z1.c p10),.sl false 1 (List.map Z0.c p11),.sl false 6 (List.map Q5.c p12),.nilsl]],.snap [.i p13]]] (
 .bind2 1
 (.lp (fun(l788:Int)=>Ext.lit .normal [(0,.sl false 4 (List.map Q2.c p0)),(1,.fn 115 [] [.snap [.snap [.bool p1,.sl false 8 (List.map Q0.c p2),.sl false 8 (List.map Q0.c p3),.sl false 4 (List.map Q2.c p4),.i p5,.i p6,.i p7,.i p8,.i p9,.sl false 1 (List.map Z1.c p10),.sl false 1 (List.map Z0.c p11),.sl false 6 (List.map Q5.c p12),.nilsl]],.snap [.i p13]]),(4,.i 0),(7,.i (Y5 Q2 p0)),(8,.i l788)] [])
  (fun l788=>
   .br 0 (decide (l788 < (Y5 Q2 p0)))
   (.row 4004 Q2 p0 l788.toNat (decide (0≤l788)) fun x789=>
    .call 4006 (s115_1 x789 p1 p2 p3 p4 p5 p6 p7 p8 p9 p10 p11 p12 p13) [] [] fun r790=>
    .br 0 r790
    (.done (.inr (.inl l788)))
    (.done (.inl (Q7 (l788+1)))))
   (.done (.inr (.inr ()))))
  0)
 (fun(e791:Int)=>Ext.lit .ret [(4,.i e791)] [])
 (fun(e792:Unit)=>Ext.lit (.exit 0) [(4,.i 0)] [])
 (fun e791=>
  .done e791)
 (fun e792=>
  .done (-1)):TT (Int)) (fun r=>.int .i64 r) by unfold FnD;kernel_rfl)
noncomputable def s41_4 (p0:List Q9) (p1:Bool) (p2 p3:List Q3) (p4:List Q9) (p5 p6 p7 p8 p9:Int) (p10:List Int) (p11:List Bool) (p12:List Z4) (p13:Int):EV.Spec Tryz.prog GG (Int):=.ofFn 41 Q8 Tryz.func41 (show FnD Tryz.prog GG [0,1,4] Tryz.f41 [.sl false 4 (List.map Q2.c p0),.fn 115 [] [.snap [.snap [.bool p1,.sl false 8 (List.map Q0.c p2),.sl false 8 (List.map Q0.c p3),.sl false 4 (List.map Q2.c p4),.i p5,.i p6,.i p7,.i p8,.i p9,.sl false 1 (List.map Z1.c p10),.sl false 1 (List.map Z0.c p11),.sl false 6 (List.map Q5.c p12),.nilsl]],.snap [.i p13]]] (
 .call 1003 (s98_4 p0 p1 p2 p3 p4 p5 p6 p7 p8 p9 p10 p11 p12 p13) [] [] fun r793=>
 .done r793:TT (Int)) (fun r=>.int .i64 r) by unfold FnD;kernel_rfl)
noncomputable def s109_1 (p0:Int) (p1:Bool) (p2 p3 p4 p5 p6:Int) (p7 p8:List Q3) (p9:List Q9) (p10:List Int) (p11:List Bool) (p12:List Z4):EV.Spec Tryz.prog GG ((List Int)):=.ofFnB 109 [660000,1000001,1000002,1000003,1000005,1000006] Q8 Tryz.func109 rfl (fun _=>rfl) (show FnB Tryz.prog GG [0,1,11] Tryz.f109 [.ptr 1000000 0 0,.i p0] (Ext.of .normal (W0 [.ptr 1000000 0 0,.i p0]) [(1000000,⟨13,true,[[.bool p1,.ref 1000001 0 p7.length,.ref 1000002 0 p8.length,.ref 1000003 0 p9.length,.i p2,.i p3,.i p4,.i p5,.i p6,.ref 1000004 0 p10.length,.ref 1000005 0 p11.length,.ref 1000006 0 p12.length,.nilsl]]⟩)] [BT.of 1000001 Q0 8 p7 true,BT.of 1000002 Q0 8 p8 true,BT.of 1000003 Q2 4 p9 true,BT.of 1000004 Z1 1 p10 true,BT.of 1000005 Z0 1 p11 true,BT.of 1000006 Q5 6 p12 true] (by rfl)) (
 .view 7 (s87 p10 p0) [(VwW.of 1000004 Z1 p10)] fun r811=>
 .br 0 (!r811)
 (.app 1009 Z1 p10 [p0] 8 false (by intro h;cases h) (.gh 0 (.ren 20 660000) (.done (p10++[p0]))))
 (.gh 0 (.ren 1000004 660000) (.done p10)):TT ((List Int))) (fun(r:(List Int))=>.tup []) (fun(r:(List Int))=>Ext.of .normal [] [(1000000,⟨13,true,[[.bool p1,.ref 1000001 0 p7.length,.ref 1000002 0 p8.length,.ref 1000003 0 p9.length,.i p2,.i p3,.i p4,.i p5,.i p6,.ref 660000 0 r.length,.ref 1000005 0 p11.length,.ref 1000006 0 p12.length,.nilsl]]⟩)] [BT.of 660000 Z1 1 r true,BT.of 1000001 Q0 8 p7 true,BT.of 1000002 Q0 8 p8 true,BT.of 1000003 Q2 4 p9 true,BT.of 1000005 Z0 1 p11 true,BT.of 1000006 Q5 6 p12 true] (by rfl)) by unfold FnB;kernel_rfl)
noncomputable def s55_1 (p0:Bool) (p1 p2 p3 p4 p5:Int) (p6 p7:List Q3) (p8:List Q9) (p9:List Int) (p10:List Bool) (p11:List Z4):EV.Spec Tryz.prog GG ((List Int)×(List Bool)):=.ofFnB 55 [660000,1000001,1000002,1000003,1000005,1000006] Q8 Tryz.func55 rfl (fun _=>rfl) (show FnB Tryz.prog GG [0,1,2,3,4,27,33,34,35,36,61,76] Tryz.f55 [.ptr 1000000 0 0] (Ext.of .normal (W0 [.ptr 1000000 0 0]) [(1000000,⟨13,true,[[.bool p0,.ref 1000001 0 p6.length,.ref 1000002 0 p7.length,.ref 1000003 0 p8.length,.i p1,.i p2,.i p3,.i p4,.i p5,.ref 1000004 0 p9.length,.ref 1000005 0 p10.length,.ref 1000006 0 p11.length,.nilsl]]⟩)] [BT.of 1000001 Q0 8 p6 true,BT.of 1000002 Q0 8 p7 true,BT.of 1000003 Q2 4 p8 true,BT.of 1000004 Z1 1 p9 true,BT.of 1000005 Z0 1 p10 true,BT.of 1000006 Q5 6 p11 true] (by rfl)) (
 .cnd 1 [27]
 (.br 1009 (!p0)
  (.done true)
  (.br 1017 (decide ((0:Int)≤p5))
   (.done true)
   (.view 1022 (s114 p10 true) [(VwW.of 1000005 Z0 p10)] fun r797=>
    .done r797)))
 (fun(c798:Bool)=>[.bool c798]) fun c798=>
 .br 0 c798
 (.gh 0 (.ren 1000004 660000) (.done (p9,p10)))
 (.bind 1
  (.lp (fun(l802:Int×Int)=>Ext.of .normal [(1,.ptr 1 0 0),(2,.ptr 2 0 0),(33,.ref 1000003 0 p8.length),(34,.i (p8.length:Int)),(35,.i l802.2)] [(1,⟨1,true,[[.ptr 1000000 0 0]]⟩),(2,⟨1,true,[[.i l802.1]]⟩),(1000000,⟨13,true,[[.bool p0,.ref 1000001 0 p6.length,.ref 1000002 0 p7.length,.ref 1000003 0 p8.length,.i p1,.i p2,.i p3,.i p4,.i p5,.ref 1000004 0 p9.length,.ref 1000005 0 p10.length,.ref 1000006 0 p11.length,.nilsl]]⟩)] [BT.of 1000001 Q0 8 p6 true,BT.of 1000002 Q0 8 p7 true,BT.of 1000003 Q2 4 p8 true,BT.of 1000004 Z1 1 p9 true,BT.of 1000005 Z0 1 p10 true,BT.of 1000006 Q5 6 p11 true] (by rfl))
   (fun l802=>
    .br 0 (decide (l802.2 < (p8.length:Int)))
    (.chk 5002 (decide (0≤l802.2)&&decide (l802.2 < (p8.length:Int))) (.row 5003 Q2 p8 (0+l802.2.toNat) true fun x803=>
     .cnd 6 [61]
     (.br 6005 (x803.fState==3)
      (.br 6008 (decide (l802.1 < 0))
       (.done true)
       (.chk 6017 (decide (0≤l802.1)&&decide (l802.1 < (p8.length:Int))) (.row 6019 Q2 p8 (0+l802.1.toNat) true fun x804=>
        .done (decide (x804.fPriority < x803.fPriority)))))
      (.done false))
     (fun(c805:Bool)=>[.bool c805]) fun c805=>
     .br 0 c805
     (.done (.inl (l802.2,(Q7 (l802.2+1)))))
     (.done (.inl (l802.1,(Q7 (l802.2+1)))))))
    (.done (.inr l802.1)))
   ((-1),0))
  (fun(e806:Int)=>Ext.of (.exit 0) [(1,.ptr 1 0 0),(2,.ptr 2 0 0)] [(1,⟨1,true,[[.ptr 1000000 0 0]]⟩),(2,⟨1,true,[[.i e806]]⟩),(1000000,⟨13,true,[[.bool p0,.ref 1000001 0 p6.length,.ref 1000002 0 p7.length,.ref 1000003 0 p8.length,.i p1,.i p2,.i p3,.i p4,.i p5,.ref 1000004 0 p9.length,.ref 1000005 0 p10.length,.ref 1000006 0 p11.length,.nilsl]]⟩)] [BT.of 1000001 Q0 8 p6 true,BT.of 1000002 Q0 8 p7 true,BT.of 1000003 Q2 4 p8 true,BT.of 1000004 Z1 1 p9 true,BT.of 1000005 Z0 1 p10 true,BT.of 1000006 Q5 6 p11 true] (by rfl))
  (fun e806=>
   .cnd 9 [76]
   (.br 9004 (decide (e806 < 0))
    (.done true)
    (.view 9011 (s41_4 p8 p0 p6 p7 p8 p1 p2 p3 p4 p5 p9 p10 p11 e806) [(VwW.of 1000003 Q2 p8),(VwW.of 1000001 Q0 p6),(VwW.of 1000002 Q0 p7),(VwW.of 1000003 Q2 p8),(VwW.of 1000004 Z1 p9),(VwW.of 1000005 Z0 p10),(VwW.of 1000006 Q5 p11)] fun r807=>
     .done (decide ((0:Int)≤r807))))
   (fun(c808:Bool)=>[.bool c808]) fun c808=>
   .br 0 c808
   (.gh 0 (.ren 1000004 660000) (.done (p9,p10)))
   (.chk 10007 (decide (0≤e806)&&decide (e806 < (p10.length:Int))) (.row 10008 Z0 p10 (0+e806.toNat) true fun x809=>
    .re 10008 (ReW.put 1000005 1 Z0 p10 (0+e806.toNat) true) (.gh 13 (.len 1000005 ((p10.set (0+e806.toNat) true).length) [p10.length] (by simp)) (.call 11003 (s109_1 e806 p0 p1 p2 p3 p4 p5 p6 p7 p8 p9 (p10.set (0+e806.toNat) true) p11) [(1000000,1000000),(1000001,1000001),(1000002,1000002),(1000003,1000003),(1000004,1000004),(1000005,1000005),(1000006,1000006)] [(660000,500108)] fun r812=>
    .gh 0 (.ren 500108 660000) (.done (r812,(p10.set (0+e806.toNat) true))))))))):TT ((List Int)×(List Bool))) (fun(r:(List Int)×(List Bool))=>.tup []) (fun(r:(List Int)×(List Bool))=>Ext.of .normal [] [(1000000,⟨13,true,[[.bool p0,.ref 1000001 0 p6.length,.ref 1000002 0 p7.length,.ref 1000003 0 p8.length,.i p1,.i p2,.i p3,.i p4,.i p5,.ref 660000 0 r.1.length,.ref 1000005 0 r.2.length,.ref 1000006 0 p11.length,.nilsl]]⟩)] [BT.of 660000 Z1 1 r.1 true,BT.of 1000001 Q0 8 p6 true,BT.of 1000002 Q0 8 p7 true,BT.of 1000003 Q2 4 p8 true,BT.of 1000005 Z0 1 r.2 true,BT.of 1000006 Q5 6 p11 true] (by rfl)) by unfold FnB;kernel_rfl)
noncomputable def s17 (p0:Y7) (p1:Int) (p2:U5):EV.Spec Tryz.prog GG (Y7×(List U5)×Int):=.ofFn 17 Q8 Tryz.func17 (show FnD Tryz.prog GG [0,1,2,3,5,6,7,8,9,10,16,21,28,34] Tryz.f17 [.agg [.bool p0.fList.fControlling,.sl false 8 (List.map Q0.c p0.fList.fLocals),.sl false 8 (List.map Q0.c p0.fList.fRemotes),.sl false 4 (List.map Q2.c p0.fList.fPairs),.i p0.fTie,.i p0.fNow,.i p0.fNext,.i p0.fSerial,.i p0.fChosen,.sl false 1 (List.map Z1.c p0.fQueue),.sl false 1 (List.map Z0.c p0.fNamed),.sl false 6 (List.map Q5.c p0.fChecks)],.i p1,.agg (Y2.c p2)] (
 .call2 1002 (s36 p0) [] [(7,500078),(500053,500079),(500054,500080),(500055,500081),(500056,500082),(500057,500083),(500058,500084)] (fun r608=>
  .tt (.done ((Y7.mk (Y8.mk false [] [] []) 0 0 0 0 0 [] [] []),[],111)))
 (fun r609=>
  .ff (.call 4004 (s39 p1 p0.fNow 1099511627776) [] [] fun r610=>
  .br 0 (!r610)
  (.done ((Y7.mk (Y8.mk false [] [] []) 0 0 0 0 0 [] [] []),[],2))
  (.call 6003 (s48 p2.fProbe) [] [] fun r611=>
   .br 0 (!r611)
   (.done ((Y7.mk (Y8.mk false [] [] []) 0 0 0 0 0 [] [] []),[],110))
   (.cnd 8 [34]
    (.call 8003 (s49 p2.fFrom) [] [] fun r612=>
     .br 8006 (!r612)
     (.done true)
     (.call 8008 (s49 p2.fTo) [] [] fun r613=>
      .br 8012 (!r613)
      (.done true)
      (.br 8023 ((p2.fFrom.fHost.size:Int) != (p2.fTo.fHost.size:Int))
       (.done true)
       (.view 8030 (s50_1 p0.fList.fLocals p2) [(VwW.of 500079 Q0 p0.fList.fLocals)] fun r614=>
        .done (decide (r614 < 0))))))
    (fun(c615:Bool)=>[.bool c615]) fun c615=>
    .br 0 c615
    (.done ((Y7.mk (Y8.mk false [] [] []) 0 0 0 0 0 [] [] []),[],2))
    (.ceq 11011 p2.fProbe.fKind [0,1,2,3] (fun v=>bif v==0 then .fail else bif v==1 then .call 11013 (s52 (U5.mk (Z2.mk p2.fFrom.fHost p2.fFrom.fPort) (Z2.mk p2.fTo.fHost p2.fTo.fPort) (Y6.mk p2.fProbe.fKind p2.fProbe.fId p2.fProbe.fPriority p2.fProbe.fControlling p2.fProbe.fTie p2.fProbe.fUse (Z2.mk p2.fProbe.fSeen.fHost p2.fProbe.fSeen.fPort))) p0.fList.fControlling p0.fTie p1 p0.fNext p0.fSerial p0.fChosen p0.fList.fLocals p0.fList.fRemotes p0.fList.fPairs p0.fQueue p0.fNamed p0.fChecks) [(1000000,500078),(1000001,500079),(1000002,500080),(1000003,500081),(1000004,500082),(1000005,500083),(1000006,500084)] [(660000,500094),(660001,500095),(660002,500096),(660003,500097)] fun r675=>
      .call 12002 (s55 p0.fList.fControlling p0.fTie p1 p0.fNext p0.fSerial r675.2.2.2.2 p0.fList.fLocals p0.fList.fRemotes r675.1 r675.2.1 r675.2.2.1 p0.fChecks r675.2.2.2.1) [(1000000,500078),(1000001,500079),(1000002,500080),(1000003,500094),(1000004,500095),(1000005,500096),(1000006,500084),(1000007,500097)] [(660000,500099)] fun r720=>
      .gh 0 (.share (VwW.of 500079 Q0 p0.fList.fLocals) 1) (.gh 0 (.share (VwW.of 500080 Q0 p0.fList.fRemotes) 1) (.gh 0 (.share (VwW.of 500084 Q5 p0.fChecks) 1) (.gh 0 (.share (VwW.of 500094 Q2 r675.1) 1) (.gh 0 (.share (VwW.of 500096 Z0 r720.2) 1) (.gh 0 (.share (VwW.of 500097 Y2 r675.2.2.2.1) 1) (.gh 0 (.share (VwW.of 500099 Z1 r720.1) 1) (.done ((Y7.mk (Y8.mk p0.fList.fControlling p0.fList.fLocals p0.fList.fRemotes r675.1) p0.fTie p1 p0.fNext p0.fSerial r675.2.2.2.2 r720.1 r720.2 p0.fChecks),r675.2.2.2.1,0)))))))) else bif v==2 then .call 11013 (s53 (U5.mk (Z2.mk p2.fFrom.fHost p2.fFrom.fPort) (Z2.mk p2.fTo.fHost p2.fTo.fPort) (Y6.mk p2.fProbe.fKind p2.fProbe.fId p2.fProbe.fPriority p2.fProbe.fControlling p2.fProbe.fTie p2.fProbe.fUse (Z2.mk p2.fProbe.fSeen.fHost p2.fProbe.fSeen.fPort))) p0.fList.fControlling p0.fTie p1 p0.fNext p0.fSerial p0.fChosen p0.fList.fLocals p0.fList.fRemotes p0.fList.fPairs p0.fQueue p0.fNamed p0.fChecks) [(1000000,500078),(1000001,500079),(1000002,500080),(1000003,500081),(1000004,500082),(1000005,500083),(1000006,500084)] [(500101,500106),(660000,500107)] fun r774=>
      .call 12002 (s55_1 p0.fList.fControlling p0.fTie p1 p0.fNext p0.fSerial r774.2.1 p0.fList.fLocals p0.fList.fRemotes r774.1 p0.fQueue p0.fNamed r774.2.2) [(1000000,500078),(1000001,500079),(1000002,500080),(1000003,500107),(1000004,500082),(1000005,500083),(1000006,500106)] [(660000,500109)] fun r813=>
      .gh 0 (.share (VwW.of 500079 Q0 p0.fList.fLocals) 1) (.gh 0 (.share (VwW.of 500080 Q0 p0.fList.fRemotes) 1) (.gh 0 (.share (VwW.of 500083 Z0 r813.2) 1) (.gh 0 (.share (VwW.of 500106 Q5 r774.2.2) 1) (.gh 0 (.share (VwW.of 500107 Q2 r774.1) 1) (.gh 0 (.share (VwW.of 500109 Z1 r813.1) 1) (.done ((Y7.mk (Y8.mk p0.fList.fControlling p0.fList.fLocals p0.fList.fRemotes r774.1) p0.fTie p1 p0.fNext p0.fSerial r774.2.1 r813.1 r813.2 r774.2.2),[],0))))))) else bif v==3 then .fail else .fail)))))):TT (Y7×(List U5)×Int)) (fun r=>.tup [.agg [.bool r.1.fList.fControlling,.sl false 8 (List.map Q0.c r.1.fList.fLocals),.sl false 8 (List.map Q0.c r.1.fList.fRemotes),.sl false 4 (List.map Q2.c r.1.fList.fPairs),.int .i64 r.1.fTie,.int .i64 r.1.fNow,.int .i64 r.1.fNext,.int .i64 r.1.fSerial,.int .i64 r.1.fChosen,.sl false 1 (List.map Z1.c r.1.fQueue),.sl false 1 (List.map Z0.c r.1.fNamed),.sl false 6 (List.map Q5.c r.1.fChecks)],.sl false 12 (List.map Y2.c r.2.1),.int .i64 r.2.2]) by unfold FnD;kernel_rfl)
end Go.Proofs.YtjpahkpfkohfkaaGreatDoor
namespace Go.Proofs.YtjpahkpfkohfkaaGreatDoor
open Go Go.EV
set_option maxRecDepth 100000
structure DuS where
 c:Bool
 tie:Int
 now:Int
 next:Int
 ser:Int
 cho:Int
 ls:List Q3
 rs:List Q3
 ps:List Q9
 q:List Int
 nm:List Bool
 ck:List Z4
def duRow (b:Nat) (s:DuS):List V:=[.bool s.c,.ref (b+1) 0 s.ls.length,.ref (b+2) 0 s.rs.length,.ref (b+3) 0 s.ps.length,.int .i64 s.tie,.int .i64 s.now,.int .i64 s.next,.int .i64 s.ser,.int .i64 s.cho,
 .ref (b+4) 0 s.q.length,.ref (b+5) 0 s.nm.length,.ref (b+6) 0 s.ck.length,.nilsl]
def duT (b:Nat) (s:DuS):List BT:=[BT.of (b+1) Q0 8 s.ls true,BT.of (b+2) Q0 8 s.rs true,BT.of (b+3) Q2 4 s.ps true,BT.of (b+4) Z1 1 s.q true,BT.of (b+5) Z0 1 s.nm true,BT.of (b+6) Q5 6 s.ck true]
def duTs:List (Nat×V):=[(1,.ptr 1000001 0 0),(9,.fn 167 [] [.ptr 1700070 0 0])]
def duL (s:DuS):List (Nat×Blk):=[(1000001,⟨1,true,[[.ptr 2000000 0 0]]⟩),(1700070,⟨1,true,[[.ptr 2000000 0 0]]⟩),(2000000,⟨13,true,[duRow 2000000 s]⟩)]
def duX (ts:List (Nat×V)) (s:DuS):Ext:=Ext.of .normal ts (duL s) (duT 2000000 s) (by rfl)
def duB (s:DuS):List (Nat×Blk):=(duX [] s).bs
noncomputable def duRn:Code:=cB (cR (cL (cR (Tryz.f40.body.getD .skip))))
noncomputable def duAs:Code:=rAssign duRn
noncomputable def cDu:Code:=Tryz.f167.body.getD .skip
noncomputable def dR0:Code:=cL cDu
noncomputable def dBL:Code:=cB (cB (cR cDu))
noncomputable def dR1:Code:=cL (cL dBL)
noncomputable def dRest:Code:=cR dBL
theorem eDu:cDu=.seq dR0 (.block 0 (.loop dBL)):=by kernel_rfl
theorem eDB:dBL=.seq (.seq dR1 (.cond (.tmp 12) .skip (.exit 0))) dRest:=by kernel_rfl
def duArgs (l:Nat):List V:=[.yld l,.ptr 1700070 0 0]
def tDu (l:Nat):List (Nat×V):=[(0,.yld l),(1,.ptr 1700070 0 0)]
section
variable (l:Nat) (s:DuS)
def xDu0:Ext:=duX (tDu l) s
def xDu1:Ext:=duX (tDu l++[(3,.int .i64 0)]) s
def xDu2:Ext:=duX (tDu l++[(3,.int .i64 0),(12,.bool (decide ((0:Int) < (s.ck.length:Int))))]) s
theorem kDu0:Z9 Tryz.prog GG [0,1,3] 50 dR0 (xDu0 l s) (.done ():TT Unit) (fun _=>xDu1 l s):=by unfold Z9;kernel_rfl
theorem kDu1:Z9 Tryz.prog GG [0,1,3,12] 50 dR1 (xDu1 l s) (.done ():TT Unit) (fun _=>xDu2 l s):=by unfold Z9;kernel_rfl
end
noncomputable def duYL:YL:=⟨158,tOf duTs,#[10],duAs,rBody duRn⟩
theorem iterDu (s:DuS) (h:s.ck.length=0):IterT Tryz.prog GG cDu 50 duArgs (ofL (duB s)) duYL (fun e b=>e=.normal∧b=ofL (duB s)):=by
 refine IterT.of fun l=>?_
 have e0:entry 50 (duArgs l) (ofL (duB s))=((duX (W0 (duArgs l)) s).D 50).st:=(entry_ext (x:=duX (W0 (duArgs l)) s) (by rfl) (by rfl) 50).symm
 rw[e0,eDu]
 show YT _ _ _ _ _ ⟨.normal,((xDu0 l s).D 50).st⟩ _
 refine YT.seq (YT.piece (kDu0 l s) Q8 rfl (by rfl) fun st g=>?_)
 show YT _ _ _ _ _ _ _
 refine YT.block ?_
 refine YT.loop (fun m st=>st.x=.normal∧Gst GG st.st ((xDu1 l s).D 50).st) (fun m st hI=>?_) (n:=1) ⟨rfl,g⟩
 obtain⟨x,st⟩:=st
 obtain⟨rfl,g⟩:=hI
 refine YT.gst g ?_
 rw[eDB]
 refine YT.seq (YT.seq (YT.piece (kDu1 l s) Q8 rfl (by rfl) fun st g=>?_))
 show YT _ _ _ _ _ _ _
 refine YT.gst g ?_
 refine YT.cond (b:=false) (by show some (V.bool (decide ((0:Int) < (s.ck.length:Int))))=_;rw[h];rfl) (YT.exit ?_)
 refine⟨.inl rfl,50,tOf (xDu2 l s).ts,ofL (duB s),?_,rfl,rfl⟩
 show Gst GG ((xDu2 l s).D 50).st _
 rw[O5 (by rfl) 50]
 exact Gst.same _
def dfTs:List (Nat×V):=[(1,.ptr 1 0 0)]
def dfL (s:DuS):List (Nat×Blk):=[(1,⟨1,true,[[.ptr 1000000 0 0]]⟩),(1000000,⟨13,true,[duRow 1000000 s]⟩)]
def dfL2 (s:DuS):List (Nat×Blk):=[(1,⟨1,true,[[.ptr 1000000 0 0]]⟩),(700070,⟨1,true,[[.ptr 1000000 0 0]]⟩),(1000000,⟨13,true,[duRow 1000000 s]⟩)]
def xDf (s:DuS):Ext:=Ext.of .normal (dfTs++[(9,.fn 167 [] [.ptr 700070 0 0])]) (dfL2 s) (duT 1000000 s) (by rfl)
def eDf (s:DuS):Ext:=Ext.of .normal dfTs (dfL s) (duT 1000000 s) (by rfl)
theorem bsDu (s:DuS):shB (ofL (xDf s).bs)=ofL (duB s):=by
 rw[shB_ofL]
 have:((xDf s).bs.map fun p=>(sh p.1,p.2.ren sh))=duB s:=by
  simp only[xDf,Ext.of,dfL2,duT,List.cons_append,List.nil_append,List.map_cons,List.map_nil,BT.of,Blk.ren,sh_rows]
  kernel_rfl
 rw[this]
theorem loopDu (s:DuS) (h:s.ck.length=0):TV Tryz.prog GG (.rangeFunc (.tmp 9) #[10] duAs (rBody duRn)) ((xDf s).D 158).st (fun e st=>e=.normal∧Gst GG st ((eDf s).D 158).st):=by
 have ht:(fun i=>W7 sh (((xDf s).D 158).st.t i))=tOf duTs:=by
  have:((xDf s).D 158).st.t=tOf (xDf s).ts:=rfl
  rw[this,tOf_shift]
  have:((xDf s).ts.map fun p=>(p.1,W7 sh p.2))=duTs:=by kernel_rfl
  rw[this]
 have hb:Tryz.f167.body=some cDu:=by kernel_rfl
 refine TV.rangeF (f:=167) (fi:=Tryz.f167) (c:=cDu) (first:=[]) (caps:=[.ptr 1700070 0 0]) (R:=fun e b=>e=.normal∧b=ofL (duB s)) ?_ Tryz.func167 hb (by kernel_rfl) (by kernel_rfl) ?_ (fun i=>?_) ?_ ?_
 ·show some ((fun i=>W7 sh (((xDf s).D 158).st.t i)) 9)=_
  rw[ht];rfl
 ·intro b k hk
  obtain⟨q,h1,rfl,_⟩:=find_b (show ofL (xDf s).bs b=some k from hk)
  show (((xDf s).us).contains q.1 || uTop q.1)=true
  simp only[Ext.us,Bool.or_eq_true,List.contains_eq_mem,decide_eq_true_eq]
  exact .inl (List.mem_map.2 ⟨q,h1,rfl⟩)
 ·have:=congrFun ht i
  rw[show W7 sh (((xDf s).D 158).st.t i)=tOf duTs i from this]
  exact tOf_ok (by rfl) i
 ·have hbb:shB ((xDf s).D 158).st.b=ofL (duB s):=bsDu s
  rw[ht,hbb]
  have e:max Tryz.f167.ntmps (([]:List V).length+1+[V.ptr 1700070 0 0].length)=50:=by kernel_rfl
  rw[e]
  exact iterDu s h
 ·intro e b' ho
  obtain⟨rfl,rfl⟩:=ho
  refine⟨.inl rfl,ofL (xDf s).bs,(bsDu s).symm,?_,rfl,?_⟩
  ·show (F3 158 (xDf s).ts (xDf s).bs (xDf s).us).known
   refine⟨fun i b hm=>?_,fun i k hk=>?_⟩
   ·have hm':b∈U2 (tOf (xDf s).ts i):=hm
    unfold tOf at hm'
    cases hf:(xDf s).ts.find? (fun p=>p.1==i) with
    | none=>rw[hf] at hm';simp[U2] at hm'
    | some p=>
     rw[hf] at hm'
     have all:((xDf s).ts.all fun p=>(U2 p.2).all fun b=>(xDf s).us.contains b)=true:=by rfl
     have:=List.all_eq_true.1 (List.all_eq_true.1 all p (List.mem_of_find?_eq_some hf)) b hm'
     show ((xDf s).us.contains b || uTop b)=true
     rw[this];rfl
   ·obtain⟨q,h1,rfl,rfl⟩:=find_b (show ofL (xDf s).bs i=some k from hk)
    refine⟨?_,fun b hm=>?_⟩
    ·show ((xDf s).us.contains q.1 || uTop q.1)=true
     simp only[Ext.us,Bool.or_eq_true,List.contains_eq_mem,decide_eq_true_eq]
     exact .inl (List.mem_map.2 ⟨q,h1,rfl⟩)
    ·have:q∈dfL2 s++(duT 1000000 s).map fun x=>(x.id,x.k):=h1
     rcases List.mem_append.1 this with h2|h2
     ·have all:((dfL2 s).all fun q=>(H9 q.2.rows.flatten).all fun b=>(xDf s).us.contains b)=true:=by rfl
      have:=List.all_eq_true.1 (List.all_eq_true.1 all q h2) b hm
      show ((xDf s).us.contains b || uTop b)=true
      rw[this];rfl
     ·have hdat:=bts_dat _ h2
      rw[hdat.refs] at hm;simp at hm
  ·show Gst GG (F3 158 (xDf s).ts (xDf s).bs (xDf s).us) _
   exact X6 (eDf s) (by rfl) rfl ⟨by rfl,by rfl⟩
def duM (s:DuS):Option Unit:=if s.ck.length=0 then some () else none
noncomputable def subDue (s:DuS):Sub Tryz.prog GG Unit:=
 ⟨.rangeFunc (.tmp 9) #[10] duAs (rBody duRn),158,xDf s,duM s,fun _=>eDf s,fun _ h=>loopDu s (by
  unfold duM at h
  split at h
  ·assumption
  ·cases h)⟩
end Go.Proofs.YtjpahkpfkohfkaaGreatDoor
namespace Go.Proofs.YtjpahkpfkohfkaaGreatDoor
open Go Go.EV
set_option maxRecDepth 100000
noncomputable def s94_1 (p0:Bool) (p1 p2 p3 p4 p5:Int) (p6 p7:List Q3) (p8:List Q9) (p9:List Int) (p10:List Bool) (p11:List Z4):EV.Spec Tryz.prog GG (Unit):=.ofFnB 94 [1000001,1000002,1000003,1000004,1000005,1000006] Q8 Tryz.func94 rfl (fun _=>rfl) (show FnB Tryz.prog GG [0,1,2] Tryz.f94 [.ptr 1000000 0 0] (Ext.of .normal (W0 [.ptr 1000000 0 0]) [(1000000,⟨13,true,[[.bool p0,.ref 1000001 0 p6.length,.ref 1000002 0 p7.length,.ref 1000003 0 p8.length,.i p1,.i p2,.i p3,.i p4,.i p5,.ref 1000004 0 p9.length,.ref 1000005 0 p10.length,.ref 1000006 0 p11.length,.nilsl]]⟩)] [BT.of 1000001 Q0 8 p6 true,BT.of 1000002 Q0 8 p7 true,BT.of 1000003 Q2 4 p8 true,BT.of 1000004 Z1 1 p9 true,BT.of 1000005 Z0 1 p10 true,BT.of 1000006 Q5 6 p11 true] (by rfl)) (
 .done ():TT (Unit)) (fun(r:Unit)=>.fn 167 [] [.ptr 1 0 0]) (fun(r:Unit)=>Ext.of .normal [] [(1,⟨1,true,[[.ptr 1000000 0 0]]⟩),(1000000,⟨13,true,[[.bool p0,.ref 1000001 0 p6.length,.ref 1000002 0 p7.length,.ref 1000003 0 p8.length,.i p1,.i p2,.i p3,.i p4,.i p5,.ref 1000004 0 p9.length,.ref 1000005 0 p10.length,.ref 1000006 0 p11.length,.nilsl]]⟩)] [BT.of 1000001 Q0 8 p6 true,BT.of 1000002 Q0 8 p7 true,BT.of 1000003 Q2 4 p8 true,BT.of 1000004 Z1 1 p9 true,BT.of 1000005 Z0 1 p10 true,BT.of 1000006 Q5 6 p11 true] (by rfl)) by unfold FnB;kernel_rfl)
noncomputable def s169 (p0:Z4) (p1:Int) (p2:Bool):EV.Spec Tryz.prog GG (Bool):=.ofFn 169 Q8 Tryz.func169 (show FnD Tryz.prog GG [0,1,2,3,4] Tryz.f169 [.agg (Q5.c p0),.snap [.i p1],.snap [.bool p2]] (
 .cnd 1 [4]
 (.br 1006 (p0.fPair==p1)
  (.done (p0.fUse==p2))
  (.done false))
 (fun(c827:Bool)=>[.bool c827]) fun c827=>
 .done c827:TT (Bool)) (fun r=>.bool r) by unfold FnD;kernel_rfl)
noncomputable def s223_1 (p0:List Z4) (p1:Int) (p2:Bool):EV.Spec Tryz.prog GG (Int):=.ofFn 223 Q8 Tryz.func223 (show FnD Tryz.prog GG [0,1,4,5,7,8,9,16] Tryz.f223 [.sl false 6 (List.map Q5.c p0),.fn 169 [] [.snap [.i p1],.snap [.bool p2]]] (
 .bind2 1
 (.lp (fun(l828:Int)=>Ext.lit .normal [(0,.sl false 6 (List.map Q5.c p0)),(1,.fn 169 [] [.snap [.i p1],.snap [.bool p2]]),(4,.i 0),(7,.i (Y5 Q5 p0)),(8,.i l828)] [])
  (fun l828=>
   .br 0 (decide (l828 < (Y5 Q5 p0)))
   (.row 4004 Q5 p0 l828.toNat (decide (0≤l828)) fun x829=>
    .call 4006 (s169 x829 p1 p2) [] [] fun r830=>
    .br 0 r830
    (.done (.inr (.inl l828)))
    (.done (.inl (Q7 (l828+1)))))
   (.done (.inr (.inr ()))))
  0)
 (fun(e831:Int)=>Ext.lit .ret [(4,.i e831)] [])
 (fun(e832:Unit)=>Ext.lit (.exit 0) [(4,.i 0)] [])
 (fun e831=>
  .done e831)
 (fun e832=>
  .done (-1)):TT (Int)) (fun r=>.int .i64 r) by unfold FnD;kernel_rfl)
noncomputable def s168_1 (p0:List Z4) (p1:Int) (p2:Bool):EV.Spec Tryz.prog GG (Int):=.ofFn 168 Q8 Tryz.func168 (show FnD Tryz.prog GG [0,1,4] Tryz.f168 [.sl false 6 (List.map Q5.c p0),.fn 169 [] [.snap [.i p1],.snap [.bool p2]]] (
 .call 1003 (s223_1 p0 p1 p2) [] [] fun r833=>
 .done r833:TT (Int)) (fun r=>.int .i64 r) by unfold FnD;kernel_rfl)
noncomputable def s95 (p0:Z4) (p1:Bool) (p2 p3 p4 p5 p6:Int) (p7 p8:List Q3) (p9:List Q9) (p10:List Int) (p11:List Bool) (p12:List Z4):EV.Spec Tryz.prog GG ((List U5)):=.ofFnB 95 [38,1000001,1000002,1000003,1000004,1000005,1000006] Q8 Tryz.func95 rfl (fun _=>rfl) (show FnB Tryz.prog GG [0,1,3,4,5] Tryz.f95 [.ptr 1000000 0 0,.agg (Q5.c p0)] (Ext.of .normal (W0 [.ptr 1000000 0 0,.agg (Q5.c p0)]) [(1000000,⟨13,true,[[.bool p1,.ref 1000001 0 p7.length,.ref 1000002 0 p8.length,.ref 1000003 0 p9.length,.i p2,.i p3,.i p4,.i p5,.i p6,.ref 1000004 0 p10.length,.ref 1000005 0 p11.length,.ref 1000006 0 p12.length,.nilsl]]⟩)] [BT.of 1000001 Q0 8 p7 true,BT.of 1000002 Q0 8 p8 true,BT.of 1000003 Q2 4 p9 true,BT.of 1000004 Z1 1 p10 true,BT.of 1000005 Z0 1 p11 true,BT.of 1000006 Q5 6 p12 true] (by rfl)) (
 .view 1004 (s75 p1 p7 p8 p9 p2 p3 p4 p5 p6 p10 p11 p12 p0.fPair) [(VwW.of 1000001 Q0 p7),(VwW.of 1000002 Q0 p8),(VwW.of 1000003 Q2 p9),(VwW.of 1000004 Z1 p10),(VwW.of 1000005 Z0 p11),(VwW.of 1000006 Q5 p12)] fun r845=>
 .view 2013 (s113 p1 p7 p8 p9 p2 p3 p4 p5 p6 p10 p11 p12 p0.fPair) [(VwW.of 1000001 Q0 p7),(VwW.of 1000002 Q0 p8),(VwW.of 1000003 Q2 p9),(VwW.of 1000004 Z1 p10),(VwW.of 1000005 Z0 p11),(VwW.of 1000006 Q5 p12)] fun r846=>
 .app 2026 Y2 [] [(U5.mk r845.1 r845.2 (Y6.mk 1 p0.fId r846 p0.fControlling p2 p0.fUse (Z2.mk ByteArray.empty 0)))] 120 false (by intro h;cases h) (.done ([]++[(U5.mk r845.1 r845.2 (Y6.mk 1 p0.fId r846 p0.fControlling p2 p0.fUse (Z2.mk ByteArray.empty 0)))])):TT ((List U5))) (fun(r:(List U5))=>.tup []) (fun(r:(List U5))=>Ext.of .normal [] [(1000000,⟨13,true,[[.bool p1,.ref 1000001 0 p7.length,.ref 1000002 0 p8.length,.ref 1000003 0 p9.length,.i p2,.i p3,.i p4,.i p5,.i p6,.ref 1000004 0 p10.length,.ref 1000005 0 p11.length,.ref 1000006 0 p12.length,.ref 38 0 r.length]]⟩)] [BT.of 38 Y2 12 r true,BT.of 1000001 Q0 8 p7 true,BT.of 1000002 Q0 8 p8 true,BT.of 1000003 Q2 4 p9 true,BT.of 1000004 Z1 1 p10 true,BT.of 1000005 Z0 1 p11 true,BT.of 1000006 Q5 6 p12 true] (by rfl)) by unfold FnB;kernel_rfl)
noncomputable def s97 (p0:Int) (p1:Bool) (p2 p3 p4 p5 p6:Int) (p7 p8:List Q3) (p9:List Q9) (p10:List Int) (p11:List Bool) (p12:List Z4):EV.Spec Tryz.prog GG ((List Z4)×(List U5)×Int×(List Q9)):=.ofFnB 97 [660000,660001,1000001,1000002,1000003,1000004,1000005] Q8 Tryz.func97 rfl (fun _=>rfl) (show FnB Tryz.prog GG [0,1,3,4,5,6,30,47] Tryz.f97 [.ptr 1000000 0 0,.i p0] (Ext.of .normal (W0 [.ptr 1000000 0 0,.i p0]) [(1000000,⟨13,true,[[.bool p1,.ref 1000001 0 p7.length,.ref 1000002 0 p8.length,.ref 1000003 0 p9.length,.i p2,.i p3,.i p4,.i p5,.i p6,.ref 1000004 0 p10.length,.ref 1000005 0 p11.length,.ref 1000006 0 p12.length,.nilsl]]⟩)] [BT.of 1000001 Q0 8 p7 true,BT.of 1000002 Q0 8 p8 true,BT.of 1000003 Q2 4 p9 true,BT.of 1000004 Z1 1 p10 true,BT.of 1000005 Z0 1 p11 true,BT.of 1000006 Q5 6 p12 true] (by rfl)) (
 .br 1008 p1
 (.chk 1014 (decide (0≤p0)&&decide (p0 < (p11.length:Int))) (.row 1015 Z0 p11 (0+p0.toNat) true fun x837=>
  .view 2007 (s168_1 p12 p0 x837) [(VwW.of 1000006 Q5 p12)] fun r838=>
  .br 0 (decide ((0:Int)≤r838))
  (.gh 0 (.ren 1000006 660000) (.gh 0 (.virtC 660001 1000000 12 12) (.done (p12,[],p5,p9))))
  (.chk 3008 (decide (0≤p0)&&decide (p0 < (p9.length:Int))) (.cnd 4 [47]
   (.br 4004 (!x837)
    (.row 4007 Q2 p9 (0+p0.toNat) true fun x839=>
     .done (x839.fState != 3))
    (.done false))
   (fun(c840:Bool)=>[.bool c840]) fun c840=>
   .bind 0
   (.br 0 c840
    (.row 5004 Q2 p9 (0+p0.toNat) true fun x841=>
     .re 5004 (ReW.put 1000003 4 Q2 p9 (0+p0.toNat) (Q9.mk x841.fLocal x841.fRemote x841.fPriority 2)) (.gh 0 (.len 1000003 ((p9.set (0+p0.toNat) (Q9.mk x841.fLocal x841.fRemote x841.fPriority 2)).length) [p9.length] (by simp)) (.done (p9.set (0+p0.toNat) (Q9.mk x841.fLocal x841.fRemote x841.fPriority 2)))))
    (.done p9))
   (fun(e842:(List Q9))=>Ext.of .normal [(0,.ptr 1000000 0 0),(3,.ptr 3 0 0),(4,.ptr 4 0 0)] [(3,⟨1,true,[[.i p0]]⟩),(4,⟨1,true,[[.bool x837]]⟩),(1000000,⟨13,true,[[.bool p1,.ref 1000001 0 p7.length,.ref 1000002 0 p8.length,.ref 1000003 0 e842.length,.i p2,.i p3,.i p4,.i p5,.i p6,.ref 1000004 0 p10.length,.ref 1000005 0 p11.length,.ref 1000006 0 p12.length,.nilsl]]⟩)] [BT.of 1000001 Q0 8 p7 true,BT.of 1000002 Q0 8 p8 true,BT.of 1000003 Q2 4 e842 true,BT.of 1000004 Z1 1 p10 true,BT.of 1000005 Z0 1 p11 true,BT.of 1000006 Q5 6 p12 true] (by rfl))
   (fun e842=>
    .app 7009 Q5 p12 [(Z4.mk p5 p0 (Q7 (p3+200)) 1 x837 p1)] 40 false (by intro h;cases h) (.call 9003 (s95 (Z4.mk p5 p0 (Q7 (p3+200)) 1 x837 p1) p1 p2 p3 p4 (Q7 (p5+1)) p6 p7 p8 e842 p10 p11 (p12++[(Z4.mk p5 p0 (Q7 (p3+200)) 1 x837 p1)])) [(1000000,1000000),(1000001,1000001),(1000002,1000002),(1000003,1000003),(1000004,1000004),(1000005,1000005),(1000006,79)] [(38,500120)] fun r847=>
    .gh 0 (.ren 79 660000) (.gh 0 (.ren 500120 660001) (.done ((p12++[(Z4.mk p5 p0 (Q7 (p3+200)) 1 x837 p1)]),r847,(Q7 (p5+1)),e842)))))))))
 (.view 2007 (s168_1 p12 p0 false) [(VwW.of 1000006 Q5 p12)] fun r848=>
  .br 0 (decide ((0:Int)≤r848))
  (.gh 0 (.ren 1000006 660000) (.gh 0 (.virtC 660001 1000000 12 12) (.done (p12,[],p5,p9))))
  (.chk 3008 (decide (0≤p0)&&decide (p0 < (p9.length:Int))) (.row 4007 Q2 p9 (0+p0.toNat) true fun x849=>
   .bind 0
   (.br 0 (x849.fState != 3)
    (.row 5004 Q2 p9 (0+p0.toNat) true fun x850=>
     .re 5004 (ReW.put 1000003 4 Q2 p9 (0+p0.toNat) (Q9.mk x850.fLocal x850.fRemote x850.fPriority 2)) (.gh 0 (.len 1000003 ((p9.set (0+p0.toNat) (Q9.mk x850.fLocal x850.fRemote x850.fPriority 2)).length) [p9.length] (by simp)) (.done (p9.set (0+p0.toNat) (Q9.mk x850.fLocal x850.fRemote x850.fPriority 2)))))
    (.done p9))
   (fun(e851:(List Q9))=>Ext.of .normal [(0,.ptr 1000000 0 0),(3,.ptr 3 0 0),(4,.ptr 4 0 0)] [(3,⟨1,true,[[.i p0]]⟩),(4,⟨1,true,[[.bool false]]⟩),(1000000,⟨13,true,[[.bool p1,.ref 1000001 0 p7.length,.ref 1000002 0 p8.length,.ref 1000003 0 e851.length,.i p2,.i p3,.i p4,.i p5,.i p6,.ref 1000004 0 p10.length,.ref 1000005 0 p11.length,.ref 1000006 0 p12.length,.nilsl]]⟩)] [BT.of 1000001 Q0 8 p7 true,BT.of 1000002 Q0 8 p8 true,BT.of 1000003 Q2 4 e851 true,BT.of 1000004 Z1 1 p10 true,BT.of 1000005 Z0 1 p11 true,BT.of 1000006 Q5 6 p12 true] (by rfl))
   (fun e851=>
    .app 7009 Q5 p12 [(Z4.mk p5 p0 (Q7 (p3+200)) 1 false p1)] 40 false (by intro h;cases h) (.call 9003 (s95 (Z4.mk p5 p0 (Q7 (p3+200)) 1 false p1) p1 p2 p3 p4 (Q7 (p5+1)) p6 p7 p8 e851 p10 p11 (p12++[(Z4.mk p5 p0 (Q7 (p3+200)) 1 false p1)])) [(1000000,1000000),(1000001,1000001),(1000002,1000002),(1000003,1000003),(1000004,1000004),(1000005,1000005),(1000006,79)] [(38,500121)] fun r854=>
    .gh 0 (.ren 79 660000) (.gh 0 (.ren 500121 660001) (.done ((p12++[(Z4.mk p5 p0 (Q7 (p3+200)) 1 false p1)]),r854,(Q7 (p5+1)),e851)))))))):TT ((List Z4)×(List U5)×Int×(List Q9))) (fun(r:(List Z4)×(List U5)×Int×(List Q9))=>.tup []) (fun(r:(List Z4)×(List U5)×Int×(List Q9))=>Ext.of .normal [] [(1000000,⟨13,true,[[.bool p1,.ref 1000001 0 p7.length,.ref 1000002 0 p8.length,.ref 1000003 0 r.2.2.2.length,.i p2,.i p3,.i p4,.i r.2.2.1,.i p6,.ref 1000004 0 p10.length,.ref 1000005 0 p11.length,.ref 660000 0 r.1.length,.ref 660001 0 r.2.1.length]]⟩)] [BT.of 660000 Q5 6 r.1 true,BT.of 660001 Y2 12 r.2.1 true,BT.of 1000001 Q0 8 p7 true,BT.of 1000002 Q0 8 p8 true,BT.of 1000003 Q2 4 r.2.2.2 true,BT.of 1000004 Z1 1 p10 true,BT.of 1000005 Z0 1 p11 true] (by rfl)) by unfold FnB;kernel_rfl)
noncomputable def s40 (p0:Bool) (p1 p2 p3 p4 p5:Int) (p6 p7:List Q3) (p8:List Q9) (p9:List Int) (p10:List Bool) (p11:List Z4):EV.Spec Tryz.prog GG ((List Int)×(List Z4)×(List U5)×Int×Int×(List Q9)×(List Bool)):=.ofFnB 40 [660000,660001,660002,1000001,1000002,1000003,1000005] Q8 Tryz.func40 rfl (fun _=>rfl) (show FnB Tryz.prog GG [0,1,2,3,4,5,6,7,9,10,22,60,104,111,142] Tryz.f40 [.ptr 1000000 0 0] (Ext.of .normal (W0 [.ptr 1000000 0 0]) [(1000000,⟨13,true,[[.bool p0,.ref 1000001 0 p6.length,.ref 1000002 0 p7.length,.ref 1000003 0 p8.length,.i p1,.i p2,.i p3,.i p4,.i p5,.ref 1000004 0 p9.length,.ref 1000005 0 p10.length,.ref 1000006 0 p11.length,.nilsl]]⟩)] [BT.of 1000001 Q0 8 p6 true,BT.of 1000002 Q0 8 p7 true,BT.of 1000003 Q2 4 p8 true,BT.of 1000004 Z1 1 p9 true,BT.of 1000005 Z0 1 p10 true,BT.of 1000006 Q5 6 p11 true] (by rfl)) (
 .call 1002 (s94_1 p0 p1 p2 p3 p4 p5 p6 p7 p8 p9 p10 p11) [(1000000,1000000),(1000001,1000001),(1000002,1000002),(1000003,1000003),(1000004,1000004),(1000005,1000005),(1000006,1000006)] [(1,500118)] fun r819=>
 .gh 1 (.ren 500118 700070) (.sub (subDue (DuS.mk p0 p1 p2 p3 p4 p5 p6 p7 p8 p9 p10 p11)) fun r820=>
 .cnd 12 [104]
 (.view 12002 (s37 p0 p6 p7 p8 p1 p2 p3 p4 p5 p9 p10 p11) [(VwW.of 1000001 Q0 p6),(VwW.of 1000002 Q0 p7),(VwW.of 1000003 Q2 p8),(VwW.of 1000004 Z1 p9),(VwW.of 1000005 Z0 p10),(VwW.of 1000006 Q5 p11)] fun r821=>
  .br 12004 r821
  (.done (decide (p3≤p2)))
  (.done false))
 (fun(c822:Bool)=>[.bool c822]) fun c822=>
 .br 0 c822
 (.bind 0
  (.br 0 (decide ((0:Int) < (p9.length:Int)))
   (.fail)
   (.view 17006 (s93 (Y8.mk p0 p6 p7 p8)) [(VwW.of 1000001 Q0 p6),(VwW.of 1000002 Q0 p7),(VwW.of 1000003 Q2 p8)] fun r829=>
    .br 0 (r829.2==0)
    (.call 19003 (s97 r829.1 p0 p1 p2 p3 p4 p5 p6 p7 p8 p9 p10 p11) [(1000000,1000000),(1000001,1000001),(1000002,1000002),(1000003,1000003),(1000004,1000004),(1000005,1000005),(1000006,1000006)] [(660000,500136),(660001,500137)] fun r834=>
     .gh 0 (.ren 1000004 600138) (.gh 0 (.ren 500136 600139) (.gh 0 (.ren 500137 600140) (.done (p9,r834.1,r834.2.1,r834.2.2.1,r834.2.2.2)))))
    (.gh 0 (.ren 1000004 600138) (.gh 0 (.ren 1000006 600139) (.gh 0 (.virtC 600140 1000000 12 12) (.done (p9,p11,[],p4,p8)))))))
  (fun(e835:(List Int)×(List Z4)×(List U5)×Int×(List Q9))=>Ext.of .normal [(1,.ptr 1 0 0)] [(1,⟨1,true,[[.ptr 1000000 0 0]]⟩),(1000000,⟨13,true,[[.bool p0,.ref 1000001 0 p6.length,.ref 1000002 0 p7.length,.ref 1000003 0 e835.2.2.2.2.length,.i p1,.i p2,.i p3,.i e835.2.2.2.1,.i p5,.ref 600138 0 e835.1.length,.ref 1000005 0 p10.length,.ref 600139 0 e835.2.1.length,.ref 600140 0 e835.2.2.1.length]]⟩)] [BT.of 600138 Z1 1 e835.1 true,BT.of 600139 Q5 6 e835.2.1 true,BT.of 600140 Y2 12 e835.2.2.1 true,BT.of 1000001 Q0 8 p6 true,BT.of 1000002 Q0 8 p7 true,BT.of 1000003 Q2 4 e835.2.2.2.2 true,BT.of 1000005 Z0 1 p10 true] (by rfl))
  (fun e835=>
   .call 21002 (s55 p0 p1 p2 (Q7 (p2+50)) e835.2.2.2.1 p5 p6 p7 e835.2.2.2.2 e835.1 p10 e835.2.1 e835.2.2.1) [(1000000,1000000),(1000001,1000001),(1000002,1000002),(1000003,1000003),(1000004,600138),(1000005,1000005),(1000006,600139),(1000007,600140)] [(660000,500141)] fun r849=>
   .gh 0 (.ren 500141 660000) (.gh 0 (.ren 600139 660001) (.gh 0 (.ren 600140 660002) (.done (r849.1,e835.2.1,e835.2.2.1,(Q7 (p2+50)),e835.2.2.2.1,e835.2.2.2.2,r849.2))))))
 (.call 21002 (s55_1 p0 p1 p2 p3 p4 p5 p6 p7 p8 p9 p10 p11) [(1000000,1000000),(1000001,1000001),(1000002,1000002),(1000003,1000003),(1000004,1000004),(1000005,1000005),(1000006,1000006)] [(660000,500142)] fun r863=>
  .gh 0 (.ren 500142 660000) (.gh 0 (.ren 1000006 660001) (.gh 0 (.virtC 660002 1000000 12 12) (.done (r863.1,p11,[],p3,p4,p8,r863.2)))))):TT ((List Int)×(List Z4)×(List U5)×Int×Int×(List Q9)×(List Bool))) (fun(r:(List Int)×(List Z4)×(List U5)×Int×Int×(List Q9)×(List Bool))=>.tup []) (fun(r:(List Int)×(List Z4)×(List U5)×Int×Int×(List Q9)×(List Bool))=>Ext.of .normal [] [(1000000,⟨13,true,[[.bool p0,.ref 1000001 0 p6.length,.ref 1000002 0 p7.length,.ref 1000003 0 r.2.2.2.2.2.1.length,.i p1,.i p2,.i r.2.2.2.1,.i r.2.2.2.2.1,.i p5,.ref 660000 0 r.1.length,.ref 1000005 0 r.2.2.2.2.2.2.length,.ref 660001 0 r.2.1.length,.ref 660002 0 r.2.2.1.length]]⟩)] [BT.of 660000 Z1 1 r.1 true,BT.of 660001 Q5 6 r.2.1 true,BT.of 660002 Y2 12 r.2.2.1 true,BT.of 1000001 Q0 8 p6 true,BT.of 1000002 Q0 8 p7 true,BT.of 1000003 Q2 4 r.2.2.2.2.2.1 true,BT.of 1000005 Z0 1 r.2.2.2.2.2.2 true] (by rfl)) by unfold FnB;kernel_rfl)
noncomputable def s12 (p0:Y7) (p1:Int):EV.Spec Tryz.prog GG (Y7×(List U5)×Int):=.ofFn 12 Q8 Tryz.func12 (show FnD Tryz.prog GG [0,1,2,4,5,6,7,8,22,24] Tryz.f12 [.agg [.bool p0.fList.fControlling,.sl false 8 (List.map Q0.c p0.fList.fLocals),.sl false 8 (List.map Q0.c p0.fList.fRemotes),.sl false 4 (List.map Q2.c p0.fList.fPairs),.i p0.fTie,.i p0.fNow,.i p0.fNext,.i p0.fSerial,.i p0.fChosen,.sl false 1 (List.map Z1.c p0.fQueue),.sl false 1 (List.map Z0.c p0.fNamed),.sl false 6 (List.map Q5.c p0.fChecks)],.i p1] (
 .call2 1002 (s36 p0) [] [(7,500110),(500053,500111),(500054,500112),(500055,500113),(500056,500114),(500057,500115),(500058,500116)] (fun r814=>
  .ff (.tt (.done ((Y7.mk (Y8.mk false [] [] []) 0 0 0 0 0 [] [] []),[],111))))
 (fun r815=>
  .call 2007 (s39 p1 p0.fNow 1099511627776) [] [] fun r816=>
  .bind 0
  (.br 0 (!r816)
   (.done 2)
   (.done 0))
  (fun(e817:Int)=>Ext.of .normal [(1,.i p1),(4,.ptr 4 0 0),(5,.nilsl),(6,.i 0),(7,.ptr 500110 0 0),(8,.i e817)] [(4,⟨12,true,[[.bool false,.nilsl,.nilsl,.nilsl,.i 0,.i 0,.i 0,.i 0,.i 0,.nilsl,.nilsl,.nilsl]]⟩),(500110,⟨13,true,[[.bool p0.fList.fControlling,.ref 500111 0 p0.fList.fLocals.length,.ref 500112 0 p0.fList.fRemotes.length,.ref 500113 0 p0.fList.fPairs.length,.i p0.fTie,.i p0.fNow,.i p0.fNext,.i p0.fSerial,.i p0.fChosen,.ref 500114 0 p0.fQueue.length,.ref 500115 0 p0.fNamed.length,.ref 500116 0 p0.fChecks.length,.nilsl]]⟩)] [BT.of 500111 Q0 8 p0.fList.fLocals true,BT.of 500112 Q0 8 p0.fList.fRemotes true,BT.of 500113 Q2 4 p0.fList.fPairs true,BT.of 500114 Z1 1 p0.fQueue true,BT.of 500115 Z0 1 p0.fNamed true,BT.of 500116 Q5 6 p0.fChecks true] (by rfl))
  (fun e817=>
   .br 0 (e817 != 0)
   (.done ((Y7.mk (Y8.mk false [] [] []) 0 0 0 0 0 [] [] []),[],e817))
   (.call 7002 (s40 p0.fList.fControlling p0.fTie p1 p0.fNext p0.fSerial p0.fChosen p0.fList.fLocals p0.fList.fRemotes p0.fList.fPairs p0.fQueue p0.fNamed p0.fChecks) [(1000000,500110),(1000001,500111),(1000002,500112),(1000003,500113),(1000004,500114),(1000005,500115),(1000006,500116)] [(660000,500143),(660001,500144),(660002,500145)] fun r864=>
    .gh 0 (.share (VwW.of 500111 Q0 p0.fList.fLocals) 1) (.gh 0 (.share (VwW.of 500112 Q0 p0.fList.fRemotes) 1) (.gh 0 (.share (VwW.of 500113 Q2 r864.2.2.2.2.2.1) 1) (.gh 0 (.share (VwW.of 500115 Z0 r864.2.2.2.2.2.2) 1) (.gh 0 (.share (VwW.of 500143 Z1 r864.1) 1) (.gh 0 (.share (VwW.of 500144 Q5 r864.2.1) 1) (.gh 0 (.share (VwW.of 500145 Y2 r864.2.2.1) 1) (.done ((Y7.mk (Y8.mk p0.fList.fControlling p0.fList.fLocals p0.fList.fRemotes r864.2.2.2.2.2.1) p0.fTie p1 r864.2.2.2.1 r864.2.2.2.2.1 p0.fChosen r864.1 r864.2.2.2.2.2.2 r864.2.1),r864.2.2.1,0))))))))))):TT (Y7×(List U5)×Int)) (fun r=>.tup [.agg [.bool r.1.fList.fControlling,.sl false 8 (List.map Q0.c r.1.fList.fLocals),.sl false 8 (List.map Q0.c r.1.fList.fRemotes),.sl false 4 (List.map Q2.c r.1.fList.fPairs),.int .i64 r.1.fTie,.int .i64 r.1.fNow,.int .i64 r.1.fNext,.int .i64 r.1.fSerial,.int .i64 r.1.fChosen,.sl false 1 (List.map Z1.c r.1.fQueue),.sl false 1 (List.map Z0.c r.1.fNamed),.sl false 6 (List.map Q5.c r.1.fChecks)],.sl false 12 (List.map Y2.c r.2.1),.int .i64 r.2.2]) by unfold FnD;kernel_rfl)
end Go.Proofs.YtjpahkpfkohfkaaGreatDoor
namespace Go.Proofs.YtjpahkpfkohfkaaGreatDoor
open Go Go.EV
set_option maxRecDepth 100000
noncomputable def g8 :TT (Bool):=
 .call 1001 s27 [] [] fun r865=>
 .call 2001 s28 [] [] fun r866=>
 .call 3002 (s11 r865.1) [] [] fun r867=>
 .call 4002 (s12 r865.1 0) [] [] fun r868=>
 .call 5002 s29 [] [] fun r869=>
 .call 5003 (s17 r866.1 5 r869) [] [] fun r870=>
 .call 6001 (s30 2) [] [] fun r871=>
 .call 6003 (s30 1) [] [] fun r872=>
 .call 6005 (s30 1) [] [] fun r873=>
 .call 7003 (s17 r868.1 10 (U5.mk r871.fAddr r872.fAddr (Y6.mk 2 0 0 false 0 false r873.fAddr))) [] [] fun r874=>
 .call 8002 (s14 r874.1) [] [] fun r875=>
 .call 9001 s29 [] [] fun r876=>
 .call 9003 (s19 r876.fProbe (bs [107,101,121])) [] [] fun r877=>
 .call 10002 (s20 r877.1 (bs [107,101,121])) [] [] fun r878=>
 .call 11002 (s20 r877.1 (bs [111,116,104,101,114])) [] [] fun r879=>
 .cnd 12 [0]
 (.br 12004 (r865.2==0)
  (.br 12008 (r866.2==0)
   (.br 12012 (r867.2==0)
    (.br 12016 (r867.1==0)
     (.br 12020 (r868.2.2==0)
      (.call 12021 s29 [] [] fun r880=>
       .view 12023 (s31 r868.2.1 [r880]) [] fun r881=>
       .br 12026 r881
       (.br 12030 (r870.2.2==0)
        (.view 12033 (s31 r870.2.1 [(U5.mk r871.fAddr r872.fAddr (Y6.mk 2 0 0 false 0 false r873.fAddr))]) [] fun r882=>
         .br 12036 r882
         (.view 12039 (s32 r870.1.fQueue [0]) [] fun r883=>
          .br 12042 r883
          (.br 12046 (r874.2.2==0)
           (.br 12051 ((Y5 Y2 r874.2.1)==0)
            (.br 12055 (r875.2==0)
             (.br 12059 (r875.1==2)
              (.br 12063 (r877.2==0)
               (.br 12067 (r878.2==0)
                (.call 12068 s29 [] [] fun r884=>
                 .br 12073 ((r878.1.fKind==r884.fProbe.fKind)&&((r878.1.fId==r884.fProbe.fId)&&((r878.1.fPriority==r884.fProbe.fPriority)&&((r878.1.fControlling==r884.fProbe.fControlling)&&((r878.1.fTie==r884.fProbe.fTie)&&((r878.1.fUse==r884.fProbe.fUse)&&((decide (r878.1.fSeen.fHost=r884.fProbe.fSeen.fHost))&&((r878.1.fSeen.fPort==r884.fProbe.fSeen.fPort)&&true))))))))
                 (.br 12077 (r879.2==9)
                  (.call 12078 (s13 r868.1) [] [] fun r885=>
                   .br 12082 (r885==0)
                   (.call 12083 (s13 (Y7.mk (Y8.mk false [] [] []) 0 0 0 0 0 [] [] [])) [] [] fun r886=>
                    .done (r886==111))
                   (.done false))
                  (.done false))
                 (.done false))
                (.done false))
               (.done false))
              (.done false))
             (.done false))
            (.done false))
           (.done false))
          (.done false))
         (.done false))
        (.done false))
       (.done false))
      (.done false))
     (.done false))
    (.done false))
   (.done false))
  (.done false))
 (fun(c887:Bool)=>[.bool c887]) fun c887=>
 .done c887
noncomputable def s8 :EV.Spec Tryz.prog GG (Bool):=.ofFn 8 Q8 Tryz.func8 (show FnD Tryz.prog GG [0,1,2,3,4,5,6,7,8,9,10,11,12,13,14,15,16,17,18,19,20,22] Tryz.f8 [] (g8) (fun r=>.bool r) by unfold FnD;kernel_rfl)
end Go.Proofs.YtjpahkpfkohfkaaGreatDoor
