/- Guides and contracts, printed by a program.
   Guides and contracts, printed by a program.
   Guides and contracts, printed by a program.
   The deliveries up to a time: a range over a function, put together by hand.
   Guides and contracts, printed by a program.
   Guides and contracts, printed by a program.
   Guides and contracts, printed by a program.
   Guides and contracts, printed by a program.
   What the functions of nat and of its reference say of a NAT's validity: one condition for both. Conditions: lists no longer than a machine holds.
   What nat and its reference say of whole NATs: one condition, Valid, for both. Conditions: lists no longer than a machine holds.
   What the reference says of whole NATs. Conditions: lists no longer than a machine holds.
   Errors, Check, start, Expire, At and Same of a NAT. Conditions: lists no longer than a machine holds.
   The NATs that the laws look at: they come to be, and are small. Conditions: a number of eight bits is one.
   Small facts of tables. No conditions.
   What In and the reference's In say. Conditions: lists no longer than a machine holds.
   What Out says: the ports, the bindings' place, and what becomes of it. Conditions: lists no longer than a machine holds.
   What nat's Out and the reference's Out say: one and the same. Conditions: lists no longer than a machine holds.
   A NAT that lets something out stays valid. No conditions but those.
   The drafted NAT: it is valid, and of one kind. Conditions: numbers of eight and sixteen bits are such.
   What network and its reference hold for a valid network: one condition for both. Conditions: lists no longer than a machine holds.
   A valid network is found valid, by network and by its reference. Conditions: the network is valid. -/
import Derived.Test.YtdiagiflihpidaaDoorS9
import Derived.Test.YtdiagiflihpidaaDoorS6
import Derived.Test.YtdiagiflihpidaaDoorS7
import Derived.KernelRfl
namespace Go.Proofs.YtdiagiflihpidaaDoor
open Go Go.EV
set_option maxRecDepth 100000
noncomputable def g104 (p0 : Int) (p1 : Int) (p2 : (List SFlight)) : TT ((List SFlight) × Nat) :=
 .opr 1006 (Rule.cap3 (ty := tySFlight) (t := 75) (e := 144) (z := 9) (.tmp 8) (.tmp 9) (.tmp 10) (.tmp 12) 13 1000000 p2.length p2 .i64 .i64 .i64 p0 p1 (p2.length : Int) (by kernel_rfl) (by kernel_rfl)) fun _ =>
 .br 0 (p0 == p1)
 (.gh 0 (.ren 1000000 26) (.done (p2, p2.length)))
 (.chk 5003 (decide (0 ≤ p0) && decide (p0 ≤ (p2.length : Int))) (.chk 5006 (decide (0 ≤ p1) && decide (p1 ≤ (p2.length : Int)))
  (.opr 5007 (Rule.appSame (ty := tySFlight) (t := 75) (t2 := 75) (e := 144) (e2 := 144) (z := 9) (.tmp 22) (.tmp 25) 26 1000000 p0.toNat p1.toNat (p2.length - p1.toNat) p2 (by kernel_rfl) (by kernel_rfl) (by kernel_rfl) (fun _ => rfl)) fun _ =>
  .opr 6005 (Rule.cap2 (ty := tySFlight) (t := 75) (e := 144) (z := 9) (.tmp 27) (.tmp 29) (.tmp 30) 31 1000000 (p0.toNat + (p2.length - p1.toNat)) (over p2 p0.toNat ((p2.drop p1.toNat).take (p2.length - p1.toNat))) .i64 .i64 (((p0.toNat + (p2.length - p1.toNat)) : Nat) : Int) (p2.length : Int) (by kernel_rfl) (by kernel_rfl)) fun _ =>
  .opr 6006 (Rule.clear (ty := tySFlight) (t := 75) (e := 144) (z := 9) (.tmp 31) 1000000 ((((p0.toNat + (p2.length - p1.toNat)) : Nat) : Int)).toNat ((p2.length : Int).toNat - ((((p0.toNat + (p2.length - p1.toNat)) : Nat) : Int)).toNat) (over p2 p0.toNat ((p2.drop p1.toNat).take (p2.length - p1.toNat))) (SFlight.mk 0 0 0 0 (SAddr.mk ByteArray.empty 0) (SAddr.mk ByteArray.empty 0) ByteArray.empty) (by kernel_rfl) (by kernel_rfl) (by kernel_rfl) (by rfl) (fun _ => rfl)) fun _ =>
  .gh 0 (.ren 1000000 26) (.done ((over (over p2 p0.toNat ((p2.drop p1.toNat).take (p2.length - p1.toNat))) ((((p0.toNat + (p2.length - p1.toNat)) : Nat) : Int)).toNat (List.replicate ((p2.length : Int).toNat - ((((p0.toNat + (p2.length - p1.toNat)) : Nat) : Int)).toNat) (SFlight.mk 0 0 0 0 (SAddr.mk ByteArray.empty 0) (SAddr.mk ByteArray.empty 0) ByteArray.empty))), (p0.toNat + (p2.length - p1.toNat)))))))
theorem k104 (p0 : Int) (p1 : Int) (p2 : (List SFlight)) : FnB Tryd.prog GG [0, 1, 2, 6, 7, 16] Tryd.f104 [.ref 1000000 0 p2.length, .int .i64 p0, .int .i64 p1] (Ext.of .normal (argTs [.ref 1000000 0 p2.length, .int .i64 p0, .int .i64 p1]) [] [BT.of 1000000 tySFlight 9 p2 true] (by rfl)) (g104 p0 p1 p2) (fun (r : (List SFlight) × Nat) => .ref 26 0 r.2) (fun (r : (List SFlight) × Nat) => Ext.of .normal [] [] [BT.of 26 tySFlight 9 r.1 true] (by rfl)) := by unfold FnB; kernel_rfl
noncomputable def s104 (p0 : Int) (p1 : Int) (p2 : (List SFlight)) : EV.Spec Tryd.prog GG ((List SFlight)) := Spec.trim (.ofFnB 104 [26] mixed Tryd.func104 rfl (fun _ => rfl) (k104 p0 p1 p2)) tySFlight 26 9 (by decide) (fun _ => rfl) (fun _ => rfl) (fun _ => rfl)
noncomputable def g105 (p0 : SCarrier) (p1 : SFlight) : TT (Int × SAddr × Bool) :=
 .call 1008 (s95 p0 (SPlace.mk p1.fWithin p1.fTo.fHost)) [] [] fun r623 =>
 .done (r623, p1.fTo, (decide ((0 : Int) ≤ p1.fWithin)))
theorem k105 (p0 : SCarrier) (p1 : SFlight) : FnD Tryd.prog GG [0, 1, 3, 4, 5, 6] Tryd.f105 [.snap [.sl false 5 (List.map tySHost1.c p0.fNetwork.fHosts), .sl false 9 (List.map tySNat.c p0.fNetwork.fNats), .sl false 9 (List.map tySFlight.c p0.fNetwork.fQueue), .int .i64 p0.fNetwork.fNow, .int .i64 p0.fNetwork.fSerial], .agg [.int .i64 p1.fDue, .int .i64 p1.fSerial, .int .i64 p1.fVia, .int .i64 p1.fWithin, .str p1.fFrom.fHost, .int .i64 p1.fFrom.fPort, .str p1.fTo.fHost, .int .i64 p1.fTo.fPort, .str p1.fData]] (g105 p0 p1) (fun r => .tup [.int .i64 r.1, .agg [.str r.2.1.fHost, .int .i64 r.2.1.fPort], .bool r.2.2]) := by unfold FnD; kernel_rfl
noncomputable def s105 (p0 : SCarrier) (p1 : SFlight) : EV.Spec Tryd.prog GG (Int × SAddr × Bool) := .ofFn 105 mixed Tryd.func105 (k105 p0 p1)
noncomputable def g106 (p0 : SCarrier) (p1 : SFlight) : TT (Int × SAddr × Bool) :=
 .call 1006 (s95 p0 (SPlace.mk (-1) p1.fTo.fHost)) [] [] fun r624 =>
 .done (r624, p1.fTo, (decide ((0 : Int) ≤ r624)))
theorem k106 (p0 : SCarrier) (p1 : SFlight) : FnD Tryd.prog GG [0, 1, 3, 4, 5, 6, 7] Tryd.f106 [.snap [.sl false 5 (List.map tySHost1.c p0.fNetwork.fHosts), .sl false 9 (List.map tySNat.c p0.fNetwork.fNats), .sl false 9 (List.map tySFlight.c p0.fNetwork.fQueue), .int .i64 p0.fNetwork.fNow, .int .i64 p0.fNetwork.fSerial], .agg [.int .i64 p1.fDue, .int .i64 p1.fSerial, .int .i64 p1.fVia, .int .i64 p1.fWithin, .str p1.fFrom.fHost, .int .i64 p1.fFrom.fPort, .str p1.fTo.fHost, .int .i64 p1.fTo.fPort, .str p1.fData]] (g106 p0 p1) (fun r => .tup [.int .i64 r.1, .agg [.str r.2.1.fHost, .int .i64 r.2.1.fPort], .bool r.2.2]) := by unfold FnD; kernel_rfl
noncomputable def s106 (p0 : SCarrier) (p1 : SFlight) : EV.Spec Tryd.prog GG (Int × SAddr × Bool) := .ofFn 106 mixed Tryd.func106 (k106 p0 p1)
noncomputable def g124 (p0 : SNat) (p1 : SFlight) : TT (Bool) :=
 .done (decide (p0.fHost = p1.fTo.fHost))
theorem k124 (p0 : SNat) (p1 : SFlight) : FnD Tryd.prog GG [0, 1, 2, 3] Tryd.f124 [.agg [.int .i64 p0.fMapping, .int .i64 p0.fFilter, .int .i64 p0.fTimeout, .bool p0.fHairpin, .str p0.fHost, .int .i64 p0.fLow, .int .i64 p0.fHigh, .int .i64 p0.fNow, .sl false 7 (List.map tySBinding.c p0.fTable)], .snap [.int .i64 p1.fDue, .int .i64 p1.fSerial, .int .i64 p1.fVia, .int .i64 p1.fWithin, .str p1.fFrom.fHost, .int .i64 p1.fFrom.fPort, .str p1.fTo.fHost, .int .i64 p1.fTo.fPort, .str p1.fData]] (g124 p0 p1) (fun r => .bool r) := by unfold FnD; kernel_rfl
noncomputable def s124 (p0 : SNat) (p1 : SFlight) : EV.Spec Tryd.prog GG (Bool) := .ofFn 124 mixed Tryd.func124 (k124 p0 p1)
noncomputable def g123 (p0 : (List SNat)) (p1 : SFlight) : TT (Int) :=
 .bind2 1
 (.lp (fun (l628 : Int) => Ext.lit .normal [(0, .sl false 9 (List.map tySNat.c p0)), (1, .fn 124 [] [.snap [.int .i64 p1.fDue, .int .i64 p1.fSerial, .int .i64 p1.fVia, .int .i64 p1.fWithin, .str p1.fFrom.fHost, .int .i64 p1.fFrom.fPort, .str p1.fTo.fHost, .int .i64 p1.fTo.fPort, .str p1.fData]]), (4, .int .i64 0), (7, .int .i64 (mlen tySNat p0)), (8, .int .i64 l628)] [])
  (fun l628 =>
   .br 0 (decide (l628 < (mlen tySNat p0)))
   (.row 4004 tySNat p0 l628.toNat (decide (0 ≤ l628)) fun x629 =>
    .call 4006 (s124 x629 p1) [] [] fun r630 =>
    .br 0 r630
    (.done (.inr (.inl l628)))
    (.done (.inl (wi64 (l628 + 1)))))
   (.done (.inr (.inr ()))))
  0)
 (fun (e631 : Int) => Ext.lit .ret [(4, .int .i64 e631)] [])
 (fun (_ : Unit) => Ext.lit (.exit 0) [(4, .int .i64 0)] [])
 (fun e631 =>
  .done e631)
 (fun _ =>
  .done (-1))
theorem k123 (p0 : (List SNat)) (p1 : SFlight) : FnD Tryd.prog GG [0, 1, 4, 5, 7, 8, 9, 16] Tryd.f123 [.sl false 9 (List.map tySNat.c p0), .fn 124 [] [.snap [.int .i64 p1.fDue, .int .i64 p1.fSerial, .int .i64 p1.fVia, .int .i64 p1.fWithin, .str p1.fFrom.fHost, .int .i64 p1.fFrom.fPort, .str p1.fTo.fHost, .int .i64 p1.fTo.fPort, .str p1.fData]]] (g123 p0 p1) (fun r => .int .i64 r) := by unfold FnD; kernel_rfl
noncomputable def s123 (p0 : (List SNat)) (p1 : SFlight) : EV.Spec Tryd.prog GG (Int) := .ofFn 123 mixed Tryd.func123 (k123 p0 p1)
noncomputable def g107 (p0 : SFlight) (p1 : Int) (p2 : Int) (p3 : (List SHost1)) (p4 : (List SNat)) (p5 : (List SFlight)) : TT ((List SNat) × ByteArray × Int × Int) :=
 .view 1007 (s123 p4 p0) [(VwW.of 1000002 tySNat p4)] fun r639 =>
 .cnd 2 [37]
 (.br 2004 (decide (r639 < 0))
  (.done true)
  (.br 2009 (r639 == p0.fVia)
   (.chk 2015 (decide (0 ≤ r639) && decide (r639 < (p4.length : Int))) (.row 2017 tySNat p4 (0 + r639.toNat) true fun x640 =>
    .done (!x640.fHairpin)))
   (.done false)))
 (fun (c641 : Bool) => [.bool c641]) fun c641 =>
 .br 0 c641
 (.done (p4, p0.fTo.fHost, p0.fTo.fPort, (-1)))
 (.chk 4007 (decide (0 ≤ r639) && decide (r639 < (p4.length : Int))) (.row 4008 tySNat p4 (0 + r639.toNat) true fun x642 =>
  .call 4018 (s27 x642 p1 p0.fFrom p0.fTo) [] [] fun r643 =>
  .br 0 (r643.2.2 != 0)
  (.done (p4, p0.fTo.fHost, p0.fTo.fPort, (-1)))
  (.chk 7008 (decide (0 ≤ r639) && decide (r639 < (p4.length : Int))) (.row 7009 tySNat p4 (0 + r639.toNat) true fun x644 =>
   .re 7009 (ReW.put 1000002 9 tySNat p4 (0 + r639.toNat) r643.1) (.gh 10 (.len 1000002 ((p4.set (0 + r639.toNat) r643.1).length) [p4.length] (by simp)) (.view 8006 (s95 (SCarrier.mk (SNetwork.mk p3 (p4.set (0 + r639.toNat) r643.1) p5 p1 p2)) (SPlace.mk r639 r643.2.1.fHost)) [(VwW.of 1000001 tySHost1 p3), (VwW.of 1000002 tySNat (p4.set (0 + r639.toNat) r643.1)), (VwW.of 1000003 tySFlight p5)] fun r645 =>
   .done ((p4.set (0 + r639.toNat) r643.1), r643.2.1.fHost, r643.2.1.fPort, r645)))))))
theorem k107 (p0 : SFlight) (p1 : Int) (p2 : Int) (p3 : (List SHost1)) (p4 : (List SNat)) (p5 : (List SFlight)) : FnB Tryd.prog GG [0, 1, 3, 4, 5, 6, 7, 8, 9, 10, 37, 63] Tryd.f107 [.ptr 1000000 0 0, .agg [.int .i64 p0.fDue, .int .i64 p0.fSerial, .int .i64 p0.fVia, .int .i64 p0.fWithin, .str p0.fFrom.fHost, .int .i64 p0.fFrom.fPort, .str p0.fTo.fHost, .int .i64 p0.fTo.fPort, .str p0.fData]] (Ext.of .normal (argTs [.ptr 1000000 0 0, .agg [.int .i64 p0.fDue, .int .i64 p0.fSerial, .int .i64 p0.fVia, .int .i64 p0.fWithin, .str p0.fFrom.fHost, .int .i64 p0.fFrom.fPort, .str p0.fTo.fHost, .int .i64 p0.fTo.fPort, .str p0.fData]]) [(1000000, ⟨5, true, [[.ref 1000001 0 p3.length, .ref 1000002 0 p4.length, .ref 1000003 0 p5.length, .int .i64 p1, .int .i64 p2]]⟩)] [BT.of 1000001 tySHost1 5 p3 true, BT.of 1000002 tySNat 9 p4 true, BT.of 1000003 tySFlight 9 p5 true] (by rfl)) (g107 p0 p1 p2 p3 p4 p5) (fun (r : (List SNat) × ByteArray × Int × Int) => .tup [.int .i64 r.2.2.2, .agg [.str r.2.1, .int .i64 r.2.2.1], .bool true]) (fun (r : (List SNat) × ByteArray × Int × Int) => Ext.of .normal [] [(1000000, ⟨5, true, [[.ref 1000001 0 p3.length, .ref 1000002 0 r.1.length, .ref 1000003 0 p5.length, .int .i64 p1, .int .i64 p2]]⟩)] [BT.of 1000001 tySHost1 5 p3 true, BT.of 1000002 tySNat 9 r.1 true, BT.of 1000003 tySFlight 9 p5 true] (by rfl)) := by unfold FnB; kernel_rfl
noncomputable def s107 (p0 : SFlight) (p1 : Int) (p2 : Int) (p3 : (List SHost1)) (p4 : (List SNat)) (p5 : (List SFlight)) : EV.Spec Tryd.prog GG ((List SNat) × ByteArray × Int × Int) := .ofFnB 107 [1000001, 1000002, 1000003] mixed Tryd.func107 rfl (fun _ => rfl) (k107 p0 p1 p2 p3 p4 p5)
noncomputable def g77 (p0 : Int) (p1 : Int) (p2 : (List SHost1)) (p3 : (List SNat)) (p4 : (List SFlight)) : TT ((List SNat) × Int × ByteArray × Int × (List SFlight) × Int × ByteArray × Int × ByteArray) :=
 .view 1002 (s76 (SCarrier.mk (SNetwork.mk p2 p3 p4 p0 p1))) [(VwW.of 1000001 tySHost1 p2), (VwW.of 1000002 tySNat p3), (VwW.of 1000003 tySFlight p4)] fun r620 =>
 .chk 2007 (decide (0 ≤ r620) && decide (r620 < (p4.length : Int))) (.row 2008 tySFlight p4 (0 + r620.toNat) true fun x621 =>
 .call 3010 (s104 r620 (wi64 (r620 + 1)) p4) [(1000000, 1000003)] [(26, 500120)] fun r622 =>
 .tt (.view 9003 (s105 (SCarrier.mk (SNetwork.mk p2 p3 r622 (if x621.fDue > p0 then x621.fDue else p0) p1)) x621) [(VwW.of 1000001 tySHost1 p2), (VwW.of 1000002 tySNat p3), (VwW.of 500120 tySFlight r622)] fun r623 =>
 .br 0 r623.2.2
 (.done (p3, r623.1, r623.2.1.fHost, r623.2.1.fPort, r622, (if x621.fDue > p0 then x621.fDue else p0), x621.fFrom.fHost, x621.fFrom.fPort, x621.fData))
 (.tt (.gh 11 (.drop [9]) (.view 9003 (s106 (SCarrier.mk (SNetwork.mk p2 p3 r622 (if x621.fDue > p0 then x621.fDue else p0) p1)) x621) [(VwW.of 1000001 tySHost1 p2), (VwW.of 1000002 tySNat p3), (VwW.of 500120 tySFlight r622)] fun r624 =>
  .br 0 r624.2.2
  (.done (p3, r624.1, r624.2.1.fHost, r624.2.1.fPort, r622, (if x621.fDue > p0 then x621.fDue else p0), x621.fFrom.fHost, x621.fFrom.fPort, x621.fData))
  (.tt (.gh 11 (.drop [9]) (.call 9003 (s107 x621 (if x621.fDue > p0 then x621.fDue else p0) p1 p2 p3 r622) [(1000000, 1000000), (1000001, 1000001), (1000002, 1000002), (1000003, 500120)] [] fun r631 =>
   .tt (.done (r631.1, r631.2.2.2, r631.2.1, r631.2.2.1, r622, (if x621.fDue > p0 then x621.fDue else p0), x621.fFrom.fHost, x621.fFrom.fPort, x621.fData))))))))))
theorem k77 (p0 : Int) (p1 : Int) (p2 : (List SHost1)) (p3 : (List SNat)) (p4 : (List SFlight)) : FnB Tryd.prog GG [0, 2, 3, 4, 5, 7, 8, 9, 10, 59, 60, 61, 70] Tryd.f77 [.ptr 1000000 0 0] (Ext.of .normal (argTs [.ptr 1000000 0 0]) [(1000000, ⟨5, true, [[.ref 1000001 0 p2.length, .ref 1000002 0 p3.length, .ref 1000003 0 p4.length, .int .i64 p0, .int .i64 p1]]⟩)] [BT.of 1000001 tySHost1 5 p2 true, BT.of 1000002 tySNat 9 p3 true, BT.of 1000003 tySFlight 9 p4 true] (by rfl)) (g77 p0 p1 p2 p3 p4) (fun (r : (List SNat) × Int × ByteArray × Int × (List SFlight) × Int × ByteArray × Int × ByteArray) => .agg [.int .i64 r.2.1, .str r.2.2.2.2.2.2.1, .int .i64 r.2.2.2.2.2.2.2.1, .str r.2.2.1, .int .i64 r.2.2.2.1, .str r.2.2.2.2.2.2.2.2]) (fun (r : (List SNat) × Int × ByteArray × Int × (List SFlight) × Int × ByteArray × Int × ByteArray) => Ext.of .normal [] [(1000000, ⟨5, true, [[.ref 1000001 0 p2.length, .ref 1000002 0 r.1.length, .ref 500120 0 r.2.2.2.2.1.length, .int .i64 r.2.2.2.2.2.1, .int .i64 p1]]⟩)] [BT.of 500120 tySFlight 9 r.2.2.2.2.1 true, BT.of 1000001 tySHost1 5 p2 true, BT.of 1000002 tySNat 9 r.1 true] (by rfl)) := by unfold FnB; kernel_rfl
noncomputable def s77 (p0 : Int) (p1 : Int) (p2 : (List SHost1)) (p3 : (List SNat)) (p4 : (List SFlight)) : EV.Spec Tryd.prog GG ((List SNat) × Int × ByteArray × Int × (List SFlight) × Int × ByteArray × Int × ByteArray) := .ofFnB 77 [500120, 1000001, 1000002] mixed Tryd.func77 rfl (fun _ => rfl) (k77 p0 p1 p2 p3 p4)
noncomputable def g48 (p0 : SNetwork) : TT (SNetwork × SDelivery × Int) :=
 .call2 1002 (s67 p0) [] [(7, 500116), (500100, 500117), (500101, 500118), (500102, 500119)] (fun r615 =>
  .ff (.tt (.done ((SNetwork.mk [] [] [] 0 0), (SDelivery.mk 0 (SAddr.mk ByteArray.empty 0) (SAddr.mk ByteArray.empty 0) ByteArray.empty), 140))))
 (fun r616 =>
  .bind 0
  (.br 0 ((p0.fQueue.length : Int) == 0)
   (.done 4)
   (.done 0))
  (fun (e617 : Int) => Ext.of .normal [(2, .ptr 2 0 0), (3, .ptr 3 0 0), (4, .int .i64 0), (5, .ptr 500116 0 0), (6, .int .i64 e617)] [(2, ⟨5, true, [[.nilsl, .nilsl, .nilsl, .int .i64 0, .int .i64 0]]⟩), (3, ⟨6, true, [[.int .i64 0, .str ByteArray.empty, .int .i64 0, .str ByteArray.empty, .int .i64 0, .str ByteArray.empty]]⟩), (500116, ⟨5, true, [[.ref 500117 0 p0.fHosts.length, .ref 500118 0 p0.fNats.length, .ref 500119 0 p0.fQueue.length, .int .i64 p0.fNow, .int .i64 p0.fSerial]]⟩)] [BT.of 500117 tySHost1 5 p0.fHosts true, BT.of 500118 tySNat 9 p0.fNats true, BT.of 500119 tySFlight 9 p0.fQueue true] (by rfl))
  (fun e617 =>
   .br 0 (e617 != 0)
   (.done ((SNetwork.mk [] [] [] 0 0), (SDelivery.mk 0 (SAddr.mk ByteArray.empty 0) (SAddr.mk ByteArray.empty 0) ByteArray.empty), e617))
   (.call 6002 (s77 p0.fNow p0.fSerial p0.fHosts p0.fNats p0.fQueue) [(1000000, 500116), (1000001, 500117), (1000002, 500118), (1000003, 500119)] [(500120, 500121)] fun r632 =>
    .gh 0 (.share (VwW.of 500117 tySHost1 p0.fHosts) 1) (.gh 0 (.share (VwW.of 500118 tySNat r632.1) 1) (.gh 0 (.share (VwW.of 500121 tySFlight r632.2.2.2.2.1) 1) (.done ((SNetwork.mk p0.fHosts r632.1 r632.2.2.2.2.1 r632.2.2.2.2.2.1 p0.fSerial), (SDelivery.mk r632.2.1 (SAddr.mk r632.2.2.2.2.2.2.1 r632.2.2.2.2.2.2.2.1) (SAddr.mk r632.2.2.1 r632.2.2.2.1) r632.2.2.2.2.2.2.2.2), 0)))))))
theorem k48 (p0 : SNetwork) : FnD Tryd.prog GG [0, 1, 2, 3, 4, 5, 6, 7, 23, 25] Tryd.f48 [.agg [.sl false 5 (List.map tySHost1.c p0.fHosts), .sl false 9 (List.map tySNat.c p0.fNats), .sl false 9 (List.map tySFlight.c p0.fQueue), .int .i64 p0.fNow, .int .i64 p0.fSerial]] (g48 p0) (fun r => .tup [.agg [.sl false 5 (List.map tySHost1.c r.1.fHosts), .sl false 9 (List.map tySNat.c r.1.fNats), .sl false 9 (List.map tySFlight.c r.1.fQueue), .int .i64 r.1.fNow, .int .i64 r.1.fSerial], .agg [.int .i64 r.2.1.fHost, .str r.2.1.fFrom.fHost, .int .i64 r.2.1.fFrom.fPort, .str r.2.1.fTo.fHost, .int .i64 r.2.1.fTo.fPort, .str r.2.1.fData], .int .i64 r.2.2]) := by unfold FnD; kernel_rfl
noncomputable def s48 (p0 : SNetwork) : EV.Spec Tryd.prog GG (SNetwork × SDelivery × Int) := .ofFn 48 mixed Tryd.func48 (k48 p0)
end Go.Proofs.YtdiagiflihpidaaDoor
namespace Go.Proofs.YtdiagiflihpidaaDoor
open Go Go.EV
set_option maxRecDepth 100000
structure SBend1 where
 fWhat : Int
 fAt : Int
 fN : Int
 fS : ByteArray
 fA : SAddr
 fNat : SBend
noncomputable def g51 (p0 : SBend1) (p1 : SNetwork) : TT (SNetwork) :=
 .call 1002 (s78 p1) [] [(9, 500134), (13, 500135), (17, 500136)] fun r696 =>
 .bind 0
 (.br 0 (decide ((0 : Int) < (r696.1.length : Int)))
  (.chk 4007 (!((r696.1.length : Int) == 0)) (.chk 4008 (decide (0 ≤ (Int.tmod (wi64 p0.fAt) (r696.1.length : Int))) && decide ((Int.tmod (wi64 p0.fAt) (r696.1.length : Int)) < (r696.1.length : Int))) (.br 0 ((Int.tmod p0.fWhat 18) == 0)
   (.row 7006 tySHost1 r696.1 (0 + (Int.tmod (wi64 p0.fAt) (r696.1.length : Int)).toNat) true fun x697 =>
    .re 7006 (ReW.put 500134 5 tySHost1 r696.1 (0 + (Int.tmod (wi64 p0.fAt) (r696.1.length : Int)).toNat) (SHost1.mk p0.fS x697.fNat x697.fDelay x697.fLose x697.fCount)) (.gh 0 (.len 500134 ((r696.1.set (0 + (Int.tmod (wi64 p0.fAt) (r696.1.length : Int)).toNat) (SHost1.mk p0.fS x697.fNat x697.fDelay x697.fLose x697.fCount)).length) [r696.1.length] (by simp)) (.gh 0 (.ren 500134 600137) (.done (r696.1.set (0 + (Int.tmod (wi64 p0.fAt) (r696.1.length : Int)).toNat) (SHost1.mk p0.fS x697.fNat x697.fDelay x697.fLose x697.fCount))))))
   (.br 0 ((Int.tmod p0.fWhat 18) == 1)
    (.row 9006 tySHost1 r696.1 (0 + (Int.tmod (wi64 p0.fAt) (r696.1.length : Int)).toNat) true fun x698 =>
     .re 9006 (ReW.put 500134 5 tySHost1 r696.1 (0 + (Int.tmod (wi64 p0.fAt) (r696.1.length : Int)).toNat) (SHost1.mk x698.fIp p0.fN x698.fDelay x698.fLose x698.fCount)) (.gh 0 (.len 500134 ((r696.1.set (0 + (Int.tmod (wi64 p0.fAt) (r696.1.length : Int)).toNat) (SHost1.mk x698.fIp p0.fN x698.fDelay x698.fLose x698.fCount)).length) [r696.1.length] (by simp)) (.gh 0 (.ren 500134 600137) (.done (r696.1.set (0 + (Int.tmod (wi64 p0.fAt) (r696.1.length : Int)).toNat) (SHost1.mk x698.fIp p0.fN x698.fDelay x698.fLose x698.fCount))))))
    (.br 0 ((Int.tmod p0.fWhat 18) == 2)
     (.row 11006 tySHost1 r696.1 (0 + (Int.tmod (wi64 p0.fAt) (r696.1.length : Int)).toNat) true fun x699 =>
      .re 11006 (ReW.put 500134 5 tySHost1 r696.1 (0 + (Int.tmod (wi64 p0.fAt) (r696.1.length : Int)).toNat) (SHost1.mk x699.fIp x699.fNat p0.fN x699.fLose x699.fCount)) (.gh 0 (.len 500134 ((r696.1.set (0 + (Int.tmod (wi64 p0.fAt) (r696.1.length : Int)).toNat) (SHost1.mk x699.fIp x699.fNat p0.fN x699.fLose x699.fCount)).length) [r696.1.length] (by simp)) (.gh 0 (.ren 500134 600137) (.done (r696.1.set (0 + (Int.tmod (wi64 p0.fAt) (r696.1.length : Int)).toNat) (SHost1.mk x699.fIp x699.fNat p0.fN x699.fLose x699.fCount))))))
     (.br 0 ((Int.tmod p0.fWhat 18) == 3)
      (.row 13006 tySHost1 r696.1 (0 + (Int.tmod (wi64 p0.fAt) (r696.1.length : Int)).toNat) true fun x700 =>
       .re 13006 (ReW.put 500134 5 tySHost1 r696.1 (0 + (Int.tmod (wi64 p0.fAt) (r696.1.length : Int)).toNat) (SHost1.mk x700.fIp x700.fNat x700.fDelay p0.fN x700.fCount)) (.gh 0 (.len 500134 ((r696.1.set (0 + (Int.tmod (wi64 p0.fAt) (r696.1.length : Int)).toNat) (SHost1.mk x700.fIp x700.fNat x700.fDelay p0.fN x700.fCount)).length) [r696.1.length] (by simp)) (.gh 0 (.ren 500134 600137) (.done (r696.1.set (0 + (Int.tmod (wi64 p0.fAt) (r696.1.length : Int)).toNat) (SHost1.mk x700.fIp x700.fNat x700.fDelay p0.fN x700.fCount))))))
      (.br 0 ((Int.tmod p0.fWhat 18) == 4)
       (.row 15006 tySHost1 r696.1 (0 + (Int.tmod (wi64 p0.fAt) (r696.1.length : Int)).toNat) true fun x701 =>
        .re 15006 (ReW.put 500134 5 tySHost1 r696.1 (0 + (Int.tmod (wi64 p0.fAt) (r696.1.length : Int)).toNat) (SHost1.mk x701.fIp x701.fNat x701.fDelay x701.fLose p0.fN)) (.gh 0 (.len 500134 ((r696.1.set (0 + (Int.tmod (wi64 p0.fAt) (r696.1.length : Int)).toNat) (SHost1.mk x701.fIp x701.fNat x701.fDelay x701.fLose p0.fN)).length) [r696.1.length] (by simp)) (.gh 0 (.ren 500134 600137) (.done (r696.1.set (0 + (Int.tmod (wi64 p0.fAt) (r696.1.length : Int)).toNat) (SHost1.mk x701.fIp x701.fNat x701.fDelay x701.fLose p0.fN))))))
       (.br 0 ((Int.tmod p0.fWhat 18) == 5)
        (.row 17005 tySHost1 r696.1 (0 + (Int.tmod (wi64 p0.fAt) (r696.1.length : Int)).toNat) true fun x702 =>
         .app 17007 tySHost1 r696.1 [x702] 48 false (by intro h; cases h) (.gh 0 (.ren 71 600137) (.done (r696.1 ++ [x702]))))
        (.br 0 ((Int.tmod p0.fWhat 18) == 6)
         (.chk 19003 (decide (0 ≤ (1 : Int)) && decide ((1 : Int) ≤ (r696.1.length : Int))) (.cutg 0 500134 tySHost1 r696.1 1 (fun _ => rfl) (.gh 0 (.len 500134 ((r696.1.drop 1).length) [(r696.1.length - 1)] (by simp)) (.gh 0 (.ren 500134 600137) (.done (r696.1.drop 1))))))
         (.gh 0 (.ren 500134 600137) (.done r696.1)))))))))))
  (.gh 0 (.ren 500134 600137) (.done r696.1)))
 (fun (e703 : (List SHost1)) => Ext.of .normal [(2, .ptr 2 0 0), (3, .ptr 3 0 0), (4, .ptr 4 0 0), (5, .int .i64 (wi64 p0.fAt))] [(2, ⟨12, true, [[.int .u8 p0.fWhat, .int .u8 p0.fAt, .int .i64 p0.fN, .str p0.fS, .str p0.fA.fHost, .int .i64 p0.fA.fPort, .int .u8 p0.fNat.fWhat, .int .u8 p0.fNat.fAt, .int .i64 p0.fNat.fN, .str p0.fNat.fA.fHost, .int .i64 p0.fNat.fA.fPort, .str p0.fNat.fS]]⟩), (3, ⟨5, true, [[.ref 600137 0 e703.length, .ref 500135 0 r696.2.1.length, .ref 500136 0 r696.2.2.length, .int .i64 p1.fNow, .int .i64 p1.fSerial]]⟩), (4, ⟨5, true, [[.nilsl, .nilsl, .nilsl, .int .i64 0, .int .i64 0]]⟩)] [BT.of 500135 tySNat 9 r696.2.1 true, BT.of 500136 tySFlight 9 r696.2.2 true, BT.of 600137 tySHost1 5 e703 true] (by rfl))
 (fun e703 =>
  .bind 0
  (.br 0 (decide ((0 : Int) < (r696.2.1.length : Int)))
   (.br 0 ((Int.tmod p0.fWhat 18) == 7)
    (.chk 23007 (!((r696.2.1.length : Int) == 0)) (.chk 23016 (!((r696.2.1.length : Int) == 0)) (.chk 23017 (decide (0 ≤ (Int.tmod (wi64 p0.fAt) (r696.2.1.length : Int))) && decide ((Int.tmod (wi64 p0.fAt) (r696.2.1.length : Int)) < (r696.2.1.length : Int))) (.row 23018 tySNat r696.2.1 (0 + (Int.tmod (wi64 p0.fAt) (r696.2.1.length : Int)).toNat) true fun x704 =>
     .call 23019 (s35 p0.fNat x704) [] [] fun r705 =>
     .chk 23020 (decide (0 ≤ (Int.tmod (wi64 p0.fAt) (r696.2.1.length : Int))) && decide ((Int.tmod (wi64 p0.fAt) (r696.2.1.length : Int)) < (r696.2.1.length : Int))) (.row 23021 tySNat r696.2.1 (0 + (Int.tmod (wi64 p0.fAt) (r696.2.1.length : Int)).toNat) true fun x706 =>
     .re 23021 (ReW.put 500135 9 tySNat r696.2.1 (0 + (Int.tmod (wi64 p0.fAt) (r696.2.1.length : Int)).toNat) r705) (.gh 0 (.len 500135 ((r696.2.1.set (0 + (Int.tmod (wi64 p0.fAt) (r696.2.1.length : Int)).toNat) r705).length) [r696.2.1.length] (by simp)) (.gh 0 (.ren 500135 600138) (.done (r696.2.1.set (0 + (Int.tmod (wi64 p0.fAt) (r696.2.1.length : Int)).toNat) r705)))))))))
    (.br 0 ((Int.tmod p0.fWhat 18) == 8)
     (.chk 25005 (decide (0 ≤ (0 : Int)) && decide ((0 : Int) < (r696.2.1.length : Int))) (.row 25006 tySNat r696.2.1 0 true fun x707 =>
      .app 25008 tySNat r696.2.1 [x707] 96 false (by intro h; cases h) (.gh 0 (.ren 117 600138) (.done (r696.2.1 ++ [x707])))))
     (.gh 0 (.ren 500135 600138) (.done r696.2.1))))
   (.gh 0 (.ren 500135 600138) (.done r696.2.1)))
  (fun (e708 : (List SNat)) => Ext.of .normal [(2, .ptr 2 0 0), (3, .ptr 3 0 0), (4, .ptr 4 0 0), (5, .int .i64 (wi64 p0.fAt))] [(2, ⟨12, true, [[.int .u8 p0.fWhat, .int .u8 p0.fAt, .int .i64 p0.fN, .str p0.fS, .str p0.fA.fHost, .int .i64 p0.fA.fPort, .int .u8 p0.fNat.fWhat, .int .u8 p0.fNat.fAt, .int .i64 p0.fNat.fN, .str p0.fNat.fA.fHost, .int .i64 p0.fNat.fA.fPort, .str p0.fNat.fS]]⟩), (3, ⟨5, true, [[.ref 600137 0 e703.length, .ref 600138 0 e708.length, .ref 500136 0 r696.2.2.length, .int .i64 p1.fNow, .int .i64 p1.fSerial]]⟩), (4, ⟨5, true, [[.nilsl, .nilsl, .nilsl, .int .i64 0, .int .i64 0]]⟩)] [BT.of 500136 tySFlight 9 r696.2.2 true, BT.of 600137 tySHost1 5 e703 true, BT.of 600138 tySNat 9 e708 true] (by rfl))
  (fun e708 =>
   .bind 0
   (.br 0 (decide ((0 : Int) < (r696.2.2.length : Int)))
    (.chk 27007 (!((r696.2.2.length : Int) == 0)) (.chk 27008 (decide (0 ≤ (Int.tmod (wi64 p0.fAt) (r696.2.2.length : Int))) && decide ((Int.tmod (wi64 p0.fAt) (r696.2.2.length : Int)) < (r696.2.2.length : Int))) (.br 0 ((Int.tmod p0.fWhat 18) == 9)
     (.row 30006 tySFlight r696.2.2 (0 + (Int.tmod (wi64 p0.fAt) (r696.2.2.length : Int)).toNat) true fun x709 =>
      .re 30006 (ReW.put 500136 9 tySFlight r696.2.2 (0 + (Int.tmod (wi64 p0.fAt) (r696.2.2.length : Int)).toNat) (SFlight.mk p0.fN x709.fSerial x709.fVia x709.fWithin x709.fFrom x709.fTo x709.fData)) (.gh 0 (.len 500136 ((r696.2.2.set (0 + (Int.tmod (wi64 p0.fAt) (r696.2.2.length : Int)).toNat) (SFlight.mk p0.fN x709.fSerial x709.fVia x709.fWithin x709.fFrom x709.fTo x709.fData)).length) [r696.2.2.length] (by simp)) (.done (r696.2.2.set (0 + (Int.tmod (wi64 p0.fAt) (r696.2.2.length : Int)).toNat) (SFlight.mk p0.fN x709.fSerial x709.fVia x709.fWithin x709.fFrom x709.fTo x709.fData)))))
     (.br 0 ((Int.tmod p0.fWhat 18) == 10)
      (.row 32006 tySFlight r696.2.2 (0 + (Int.tmod (wi64 p0.fAt) (r696.2.2.length : Int)).toNat) true fun x710 =>
       .re 32006 (ReW.put 500136 9 tySFlight r696.2.2 (0 + (Int.tmod (wi64 p0.fAt) (r696.2.2.length : Int)).toNat) (SFlight.mk x710.fDue p0.fN x710.fVia x710.fWithin x710.fFrom x710.fTo x710.fData)) (.gh 0 (.len 500136 ((r696.2.2.set (0 + (Int.tmod (wi64 p0.fAt) (r696.2.2.length : Int)).toNat) (SFlight.mk x710.fDue p0.fN x710.fVia x710.fWithin x710.fFrom x710.fTo x710.fData)).length) [r696.2.2.length] (by simp)) (.done (r696.2.2.set (0 + (Int.tmod (wi64 p0.fAt) (r696.2.2.length : Int)).toNat) (SFlight.mk x710.fDue p0.fN x710.fVia x710.fWithin x710.fFrom x710.fTo x710.fData)))))
      (.br 0 ((Int.tmod p0.fWhat 18) == 11)
       (.row 34006 tySFlight r696.2.2 (0 + (Int.tmod (wi64 p0.fAt) (r696.2.2.length : Int)).toNat) true fun x711 =>
        .re 34006 (ReW.put 500136 9 tySFlight r696.2.2 (0 + (Int.tmod (wi64 p0.fAt) (r696.2.2.length : Int)).toNat) (SFlight.mk x711.fDue x711.fSerial p0.fN x711.fWithin x711.fFrom x711.fTo x711.fData)) (.gh 0 (.len 500136 ((r696.2.2.set (0 + (Int.tmod (wi64 p0.fAt) (r696.2.2.length : Int)).toNat) (SFlight.mk x711.fDue x711.fSerial p0.fN x711.fWithin x711.fFrom x711.fTo x711.fData)).length) [r696.2.2.length] (by simp)) (.done (r696.2.2.set (0 + (Int.tmod (wi64 p0.fAt) (r696.2.2.length : Int)).toNat) (SFlight.mk x711.fDue x711.fSerial p0.fN x711.fWithin x711.fFrom x711.fTo x711.fData)))))
       (.br 0 ((Int.tmod p0.fWhat 18) == 12)
        (.row 36006 tySFlight r696.2.2 (0 + (Int.tmod (wi64 p0.fAt) (r696.2.2.length : Int)).toNat) true fun x712 =>
         .re 36006 (ReW.put 500136 9 tySFlight r696.2.2 (0 + (Int.tmod (wi64 p0.fAt) (r696.2.2.length : Int)).toNat) (SFlight.mk x712.fDue x712.fSerial x712.fVia p0.fN x712.fFrom x712.fTo x712.fData)) (.gh 0 (.len 500136 ((r696.2.2.set (0 + (Int.tmod (wi64 p0.fAt) (r696.2.2.length : Int)).toNat) (SFlight.mk x712.fDue x712.fSerial x712.fVia p0.fN x712.fFrom x712.fTo x712.fData)).length) [r696.2.2.length] (by simp)) (.done (r696.2.2.set (0 + (Int.tmod (wi64 p0.fAt) (r696.2.2.length : Int)).toNat) (SFlight.mk x712.fDue x712.fSerial x712.fVia p0.fN x712.fFrom x712.fTo x712.fData)))))
        (.br 0 ((Int.tmod p0.fWhat 18) == 13)
         (.row 38006 tySFlight r696.2.2 (0 + (Int.tmod (wi64 p0.fAt) (r696.2.2.length : Int)).toNat) true fun x713 =>
          .re 38006 (ReW.put 500136 9 tySFlight r696.2.2 (0 + (Int.tmod (wi64 p0.fAt) (r696.2.2.length : Int)).toNat) (SFlight.mk x713.fDue x713.fSerial x713.fVia x713.fWithin p0.fA x713.fTo x713.fData)) (.gh 0 (.len 500136 ((r696.2.2.set (0 + (Int.tmod (wi64 p0.fAt) (r696.2.2.length : Int)).toNat) (SFlight.mk x713.fDue x713.fSerial x713.fVia x713.fWithin p0.fA x713.fTo x713.fData)).length) [r696.2.2.length] (by simp)) (.done (r696.2.2.set (0 + (Int.tmod (wi64 p0.fAt) (r696.2.2.length : Int)).toNat) (SFlight.mk x713.fDue x713.fSerial x713.fVia x713.fWithin p0.fA x713.fTo x713.fData)))))
         (.br 0 ((Int.tmod p0.fWhat 18) == 14)
          (.row 40006 tySFlight r696.2.2 (0 + (Int.tmod (wi64 p0.fAt) (r696.2.2.length : Int)).toNat) true fun x714 =>
           .re 40006 (ReW.put 500136 9 tySFlight r696.2.2 (0 + (Int.tmod (wi64 p0.fAt) (r696.2.2.length : Int)).toNat) (SFlight.mk x714.fDue x714.fSerial x714.fVia x714.fWithin x714.fFrom p0.fA x714.fData)) (.gh 0 (.len 500136 ((r696.2.2.set (0 + (Int.tmod (wi64 p0.fAt) (r696.2.2.length : Int)).toNat) (SFlight.mk x714.fDue x714.fSerial x714.fVia x714.fWithin x714.fFrom p0.fA x714.fData)).length) [r696.2.2.length] (by simp)) (.done (r696.2.2.set (0 + (Int.tmod (wi64 p0.fAt) (r696.2.2.length : Int)).toNat) (SFlight.mk x714.fDue x714.fSerial x714.fVia x714.fWithin x714.fFrom p0.fA x714.fData)))))
          (.br 0 ((Int.tmod p0.fWhat 18) == 15)
           (.row 42006 tySFlight r696.2.2 (0 + (Int.tmod (wi64 p0.fAt) (r696.2.2.length : Int)).toNat) true fun x715 =>
            .re 42006 (ReW.put 500136 9 tySFlight r696.2.2 (0 + (Int.tmod (wi64 p0.fAt) (r696.2.2.length : Int)).toNat) (SFlight.mk x715.fDue x715.fSerial x715.fVia x715.fWithin x715.fFrom x715.fTo p0.fS)) (.gh 0 (.len 500136 ((r696.2.2.set (0 + (Int.tmod (wi64 p0.fAt) (r696.2.2.length : Int)).toNat) (SFlight.mk x715.fDue x715.fSerial x715.fVia x715.fWithin x715.fFrom x715.fTo p0.fS)).length) [r696.2.2.length] (by simp)) (.done (r696.2.2.set (0 + (Int.tmod (wi64 p0.fAt) (r696.2.2.length : Int)).toNat) (SFlight.mk x715.fDue x715.fSerial x715.fVia x715.fWithin x715.fFrom x715.fTo p0.fS)))))
           (.done r696.2.2))))))))))
    (.done r696.2.2))
   (fun (e716 : (List SFlight)) => Ext.of .normal [(2, .ptr 2 0 0), (3, .ptr 3 0 0), (4, .ptr 4 0 0)] [(2, ⟨12, true, [[.int .u8 p0.fWhat, .int .u8 p0.fAt, .int .i64 p0.fN, .str p0.fS, .str p0.fA.fHost, .int .i64 p0.fA.fPort, .int .u8 p0.fNat.fWhat, .int .u8 p0.fNat.fAt, .int .i64 p0.fNat.fN, .str p0.fNat.fA.fHost, .int .i64 p0.fNat.fA.fPort, .str p0.fNat.fS]]⟩), (3, ⟨5, true, [[.ref 600137 0 e703.length, .ref 600138 0 e708.length, .ref 500136 0 e716.length, .int .i64 p1.fNow, .int .i64 p1.fSerial]]⟩), (4, ⟨5, true, [[.nilsl, .nilsl, .nilsl, .int .i64 0, .int .i64 0]]⟩)] [BT.of 500136 tySFlight 9 e716 true, BT.of 600137 tySHost1 5 e703 true, BT.of 600138 tySNat 9 e708 true] (by rfl))
   (fun e716 =>
    .br 0 ((Int.tmod p0.fWhat 18) == 16)
    (.gh 0 (.share (VwW.of 500136 tySFlight e716) 1) (.gh 0 (.share (VwW.of 600137 tySHost1 e703) 1) (.gh 0 (.share (VwW.of 600138 tySNat e708) 1) (.done (SNetwork.mk e703 e708 e716 p0.fN p1.fSerial)))))
    (.br 0 ((Int.tmod p0.fWhat 18) == 17)
     (.gh 0 (.share (VwW.of 500136 tySFlight e716) 1) (.gh 0 (.share (VwW.of 600137 tySHost1 e703) 1) (.gh 0 (.share (VwW.of 600138 tySNat e708) 1) (.done (SNetwork.mk e703 e708 e716 p1.fNow p0.fN)))))
     (.gh 0 (.share (VwW.of 500136 tySFlight e716) 1) (.gh 0 (.share (VwW.of 600137 tySHost1 e703) 1) (.gh 0 (.share (VwW.of 600138 tySNat e708) 1) (.done (SNetwork.mk e703 e708 e716 p1.fNow p1.fSerial)))))))))
theorem k51 (p0 : SBend1) (p1 : SNetwork) : FnD Tryd.prog GG [0, 1, 2, 3, 4, 5, 6, 7, 16, 27, 28, 35, 42, 49, 56, 63, 73, 82, 85, 86, 108, 122, 133, 134, 141, 148, 155, 162, 169, 176, 185, 186, 191] Tryd.f51 [.agg [.int .u8 p0.fWhat, .int .u8 p0.fAt, .int .i64 p0.fN, .str p0.fS, .str p0.fA.fHost, .int .i64 p0.fA.fPort, .int .u8 p0.fNat.fWhat, .int .u8 p0.fNat.fAt, .int .i64 p0.fNat.fN, .str p0.fNat.fA.fHost, .int .i64 p0.fNat.fA.fPort, .str p0.fNat.fS], .agg [.sl false 5 (List.map tySHost1.c p1.fHosts), .sl false 9 (List.map tySNat.c p1.fNats), .sl false 9 (List.map tySFlight.c p1.fQueue), .int .i64 p1.fNow, .int .i64 p1.fSerial]] (g51 p0 p1) (fun r => .agg [.sl false 5 (List.map tySHost1.c r.fHosts), .sl false 9 (List.map tySNat.c r.fNats), .sl false 9 (List.map tySFlight.c r.fQueue), .int .i64 r.fNow, .int .i64 r.fSerial]) := by unfold FnD; kernel_rfl
noncomputable def s51 (p0 : SBend1) (p1 : SNetwork) : EV.Spec Tryd.prog GG (SNetwork) := .ofFn 51 mixed Tryd.func51 (k51 p0 p1)
end Go.Proofs.YtdiagiflihpidaaDoor
namespace Go.Proofs.YtdiagiflihpidaaDoor
open Go Go.EV
set_option maxRecDepth 100000
noncomputable def g104_1 (p0 : Nat) (p1 : Int) (p2 : Int) (p3 : (List SFlight)) : TT (((List SFlight) × Nat)) :=
 .opr 1006 (Rule.cap3u (ty := tySFlight) (t := 75) (e := 144) (z := 9) (.tmp 8) (.tmp 9) (.tmp 10) (.tmp 12) 13 1000000 p0 p3 .i64 .i64 .i64 p1 p2 (p0 : Int) (by kernel_rfl) (by kernel_rfl)) fun _ =>
 .br 0 (p1 == p2)
 (.done (p3, p0))
 (.chk 5003 (decide (0 ≤ p1) && decide (p1 ≤ (p0 : Int))) (.chk 5006 (decide (0 ≤ p2) && decide (p2 ≤ (p0 : Int)))
  (.opr 5007 (Rule.appSame (ty := tySFlight) (t := 75) (t2 := 75) (e := 144) (e2 := 144) (z := 9) (.tmp 22) (.tmp 25) 26 1000000 p1.toNat p2.toNat (p0 - p2.toNat) p3 (by kernel_rfl) (by kernel_rfl) (by kernel_rfl) (fun _ => rfl)) fun _ =>
  .opr 6005 (Rule.cap2 (ty := tySFlight) (t := 75) (e := 144) (z := 9) (.tmp 27) (.tmp 29) (.tmp 30) 31 1000000 (p1.toNat + (p0 - p2.toNat)) (over p3 p1.toNat ((p3.drop p2.toNat).take (p0 - p2.toNat))) .i64 .i64 (((p1.toNat + (p0 - p2.toNat)) : Nat) : Int) (p0 : Int) (by kernel_rfl) (by kernel_rfl)) fun _ =>
  .opr 6006 (Rule.clear (ty := tySFlight) (t := 75) (e := 144) (z := 9) (.tmp 31) 1000000 ((((p1.toNat + (p0 - p2.toNat)) : Nat) : Int)).toNat ((p0 : Int).toNat - ((((p1.toNat + (p0 - p2.toNat)) : Nat) : Int)).toNat) (over p3 p1.toNat ((p3.drop p2.toNat).take (p0 - p2.toNat))) (SFlight.mk 0 0 0 0 (SAddr.mk ByteArray.empty 0) (SAddr.mk ByteArray.empty 0) ByteArray.empty) (by kernel_rfl) (by kernel_rfl) (by kernel_rfl) (by rfl) (fun _ => rfl)) fun _ =>
  .done ((over (over p3 p1.toNat ((p3.drop p2.toNat).take (p0 - p2.toNat))) ((((p1.toNat + (p0 - p2.toNat)) : Nat) : Int)).toNat (List.replicate ((p0 : Int).toNat - ((((p1.toNat + (p0 - p2.toNat)) : Nat) : Int)).toNat) (SFlight.mk 0 0 0 0 (SAddr.mk ByteArray.empty 0) (SAddr.mk ByteArray.empty 0) ByteArray.empty))), (p1.toNat + (p0 - p2.toNat))))))
theorem k104_1 (p0 : Nat) (p1 : Int) (p2 : Int) (p3 : (List SFlight)) : FnB Tryd.prog GG [0, 1, 2, 6, 7, 16] Tryd.f104 [.ref 1000000 0 p0, .int .i64 p1, .int .i64 p2] (Ext.of .normal (argTs [.ref 1000000 0 p0, .int .i64 p1, .int .i64 p2]) [] [BT.of 1000000 tySFlight 9 p3 true] (by rfl)) (g104_1 p0 p1 p2 p3) (fun (r : ((List SFlight) × Nat)) => .ref 1000000 0 r.2) (fun (r : ((List SFlight) × Nat)) => Ext.of .normal [] [] [BT.of 1000000 tySFlight 9 r.1 true] (by rfl)) := by unfold FnB; kernel_rfl
noncomputable def s104_1 (p0 : Nat) (p1 : Int) (p2 : Int) (p3 : (List SFlight)) : EV.Spec Tryd.prog GG (((List SFlight) × Nat)) := .ofFnB 104 [1000000] mixed Tryd.func104 rfl (fun _ => rfl) (k104_1 p0 p1 p2 p3)
noncomputable def g107_1 (p0 : SFlight) (p1 : Nat) (p2 : Int) (p3 : Int) (p4 : (List SHost1)) (p5 : (List SNat)) (p6 : (List SFlight)) : TT ((List SNat) × ByteArray × Int × Int × Nat) :=
 .view 1007 (s123 p5 p0) [(VwW.of 1000002 tySNat p5)] fun r728 =>
 .cnd 2 [37]
 (.br 2004 (decide (r728 < 0))
  (.done true)
  (.br 2009 (r728 == p0.fVia)
   (.chk 2015 (decide (0 ≤ r728) && decide (r728 < (p5.length : Int))) (.row 2017 tySNat p5 (0 + r728.toNat) true fun x729 =>
    .done (!x729.fHairpin)))
   (.done false)))
 (fun (c730 : Bool) => [.bool c730]) fun c730 =>
 .br 0 c730
 (.done (p5, p0.fTo.fHost, p0.fTo.fPort, (-1), p1))
 (.chk 4007 (decide (0 ≤ r728) && decide (r728 < (p5.length : Int))) (.row 4008 tySNat p5 (0 + r728.toNat) true fun x731 =>
  .call 4018 (s27 x731 p2 p0.fFrom p0.fTo) [] [] fun r732 =>
  .br 0 (r732.2.2 != 0)
  (.done (p5, p0.fTo.fHost, p0.fTo.fPort, (-1), p1))
  (.chk 7008 (decide (0 ≤ r728) && decide (r728 < (p5.length : Int))) (.row 7009 tySNat p5 (0 + r728.toNat) true fun x733 =>
   .re 7009 (ReW.put 1000002 9 tySNat p5 (0 + r728.toNat) r732.1) (.gh 10 (.len 1000002 ((p5.set (0 + r728.toNat) r732.1).length) [p5.length] (by simp)) (.view 8006 (s95 (SCarrier.mk (SNetwork.mk p4 (p5.set (0 + r728.toNat) r732.1) (p6.take p1) p2 p3)) (SPlace.mk r728 r732.2.1.fHost)) [(VwW.of 1000001 tySHost1 p4), (VwW.of 1000002 tySNat (p5.set (0 + r728.toNat) r732.1)), (VwW.part 1000003 tySFlight p6 p1)] fun r734 =>
   .done ((p5.set (0 + r728.toNat) r732.1), r732.2.1.fHost, r732.2.1.fPort, r734, p1)))))))
theorem k107_1 (p0 : SFlight) (p1 : Nat) (p2 : Int) (p3 : Int) (p4 : (List SHost1)) (p5 : (List SNat)) (p6 : (List SFlight)) : FnB Tryd.prog GG [0, 1, 3, 4, 5, 6, 7, 8, 9, 10, 37, 63] Tryd.f107 [.ptr 1000000 0 0, .agg [.int .i64 p0.fDue, .int .i64 p0.fSerial, .int .i64 p0.fVia, .int .i64 p0.fWithin, .str p0.fFrom.fHost, .int .i64 p0.fFrom.fPort, .str p0.fTo.fHost, .int .i64 p0.fTo.fPort, .str p0.fData]] (Ext.of .normal (argTs [.ptr 1000000 0 0, .agg [.int .i64 p0.fDue, .int .i64 p0.fSerial, .int .i64 p0.fVia, .int .i64 p0.fWithin, .str p0.fFrom.fHost, .int .i64 p0.fFrom.fPort, .str p0.fTo.fHost, .int .i64 p0.fTo.fPort, .str p0.fData]]) [(1000000, ⟨5, true, [[.ref 1000001 0 p4.length, .ref 1000002 0 p5.length, .ref 1000003 0 p1, .int .i64 p2, .int .i64 p3]]⟩)] [BT.of 1000001 tySHost1 5 p4 true, BT.of 1000002 tySNat 9 p5 true, BT.of 1000003 tySFlight 9 p6 true] (by rfl)) (g107_1 p0 p1 p2 p3 p4 p5 p6) (fun (r : (List SNat) × ByteArray × Int × Int × Nat) => .tup [.int .i64 r.2.2.2.1, .agg [.str r.2.1, .int .i64 r.2.2.1], .bool true]) (fun (r : (List SNat) × ByteArray × Int × Int × Nat) => Ext.of .normal [] [(1000000, ⟨5, true, [[.ref 1000001 0 p4.length, .ref 1000002 0 r.1.length, .ref 1000003 0 r.2.2.2.2, .int .i64 p2, .int .i64 p3]]⟩)] [BT.of 1000001 tySHost1 5 p4 true, BT.of 1000002 tySNat 9 r.1 true, BT.of 1000003 tySFlight 9 p6 true] (by rfl)) := by unfold FnB; kernel_rfl
noncomputable def s107_1 (p0 : SFlight) (p1 : Nat) (p2 : Int) (p3 : Int) (p4 : (List SHost1)) (p5 : (List SNat)) (p6 : (List SFlight)) : EV.Spec Tryd.prog GG ((List SNat) × ByteArray × Int × Int × Nat) := .ofFnB 107 [1000001, 1000002, 1000003] mixed Tryd.func107 rfl (fun _ => rfl) (k107_1 p0 p1 p2 p3 p4 p5 p6)
noncomputable def g77_1 (p0 : Nat) (p1 : Int) (p2 : Int) (p3 : (List SHost1)) (p4 : (List SNat)) (p5 : (List SFlight)) : TT ((List SNat) × Int × ByteArray × Int × Nat × (List SFlight) × Int × ByteArray × Int × ByteArray) :=
 .view 1002 (s76 (SCarrier.mk (SNetwork.mk p3 p4 (p5.take p0) p1 p2))) [(VwW.of 1000001 tySHost1 p3), (VwW.of 1000002 tySNat p4), (VwW.part 1000003 tySFlight p5 p0)] fun r717 =>
 .chk 2007 (decide (0 ≤ r717) && decide (r717 < (p0 : Int))) (.row 2008 tySFlight p5 (0 + r717.toNat) true fun x718 =>
 .call 3010 (s104_1 p0 r717 (wi64 (r717 + 1)) p5) [(1000000, 1000003)] [] fun r719 =>
 .tt (.view 9003 (s105 (SCarrier.mk (SNetwork.mk p3 p4 (r719.1.take r719.2) (if x718.fDue > p1 then x718.fDue else p1) p2)) x718) [(VwW.of 1000001 tySHost1 p3), (VwW.of 1000002 tySNat p4), (VwW.part 1000003 tySFlight r719.1 r719.2)] fun r720 =>
 .br 0 r720.2.2
 (.done (p4, r720.1, r720.2.1.fHost, r720.2.1.fPort, r719.2, r719.1, (if x718.fDue > p1 then x718.fDue else p1), x718.fFrom.fHost, x718.fFrom.fPort, x718.fData))
 (.tt (.gh 11 (.drop [9]) (.view 9003 (s106 (SCarrier.mk (SNetwork.mk p3 p4 (r719.1.take r719.2) (if x718.fDue > p1 then x718.fDue else p1) p2)) x718) [(VwW.of 1000001 tySHost1 p3), (VwW.of 1000002 tySNat p4), (VwW.part 1000003 tySFlight r719.1 r719.2)] fun r721 =>
  .br 0 r721.2.2
  (.done (p4, r721.1, r721.2.1.fHost, r721.2.1.fPort, r719.2, r719.1, (if x718.fDue > p1 then x718.fDue else p1), x718.fFrom.fHost, x718.fFrom.fPort, x718.fData))
  (.tt (.gh 11 (.drop [9]) (.call 9003 (s107_1 x718 r719.2 (if x718.fDue > p1 then x718.fDue else p1) p2 p3 p4 r719.1) [(1000000, 1000000), (1000001, 1000001), (1000002, 1000002), (1000003, 1000003)] [] fun r728 =>
   .tt (.done (r728.1, r728.2.2.2.1, r728.2.1, r728.2.2.1, r728.2.2.2.2, r719.1, (if x718.fDue > p1 then x718.fDue else p1), x718.fFrom.fHost, x718.fFrom.fPort, x718.fData))))))))))
theorem k77_1 (p0 : Nat) (p1 : Int) (p2 : Int) (p3 : (List SHost1)) (p4 : (List SNat)) (p5 : (List SFlight)) : FnB Tryd.prog GG [0, 2, 3, 4, 5, 7, 8, 9, 10, 59, 60, 61, 70] Tryd.f77 [.ptr 1000000 0 0] (Ext.of .normal (argTs [.ptr 1000000 0 0]) [(1000000, ⟨5, true, [[.ref 1000001 0 p3.length, .ref 1000002 0 p4.length, .ref 1000003 0 p0, .int .i64 p1, .int .i64 p2]]⟩)] [BT.of 1000001 tySHost1 5 p3 true, BT.of 1000002 tySNat 9 p4 true, BT.of 1000003 tySFlight 9 p5 true] (by rfl)) (g77_1 p0 p1 p2 p3 p4 p5) (fun (r : (List SNat) × Int × ByteArray × Int × Nat × (List SFlight) × Int × ByteArray × Int × ByteArray) => .agg [.int .i64 r.2.1, .str r.2.2.2.2.2.2.2.1, .int .i64 r.2.2.2.2.2.2.2.2.1, .str r.2.2.1, .int .i64 r.2.2.2.1, .str r.2.2.2.2.2.2.2.2.2]) (fun (r : (List SNat) × Int × ByteArray × Int × Nat × (List SFlight) × Int × ByteArray × Int × ByteArray) => Ext.of .normal [] [(1000000, ⟨5, true, [[.ref 1000001 0 p3.length, .ref 1000002 0 r.1.length, .ref 1000003 0 r.2.2.2.2.1, .int .i64 r.2.2.2.2.2.2.1, .int .i64 p2]]⟩)] [BT.of 1000001 tySHost1 5 p3 true, BT.of 1000002 tySNat 9 r.1 true, BT.of 1000003 tySFlight 9 r.2.2.2.2.2.1 true] (by rfl)) := by unfold FnB; kernel_rfl
noncomputable def s77_1 (p0 : Nat) (p1 : Int) (p2 : Int) (p3 : (List SHost1)) (p4 : (List SNat)) (p5 : (List SFlight)) : EV.Spec Tryd.prog GG ((List SNat) × Int × ByteArray × Int × Nat × (List SFlight) × Int × ByteArray × Int × ByteArray) := .ofFnB 77 [1000001, 1000002, 1000003] mixed Tryd.func77 rfl (fun _ => rfl) (k77_1 p0 p1 p2 p3 p4 p5)
end Go.Proofs.YtdiagiflihpidaaDoor
namespace Go.Proofs.YtdiagiflihpidaaDoor
open Go Go.EV
set_option maxRecDepth 100000
structure RnS where
 ns : List SNat
 q : List SFlight
 m : Nat
 now : Int
 out : List SDelivery
def dlC (d : SDelivery) : List V := [.int .i64 d.fHost, .str d.fFrom.fHost, .int .i64 d.fFrom.fPort, .str d.fTo.fHost, .int .i64 d.fTo.fPort, .str d.fData]
def rnTs (u : Int) : List (Nat × V) := [(1, .int .i64 u), (4, .ptr 1000004 0 0), (7, .ptr 1000061 0 0), (9, .ptr 1000009 0 0), (31, .fn 96 [] [.ptr 1000065 0 0, .ptr 1000066 0 0])]
def rnL (hs : List SHost1) (serial u : Int) (s : RnS) (o : V) : List (Nat × Blk) :=
 [(1000004, ⟨5, true, [[.nilsl, .nilsl, .nilsl, .int .i64 0, .int .i64 0]]⟩), (1000009, ⟨1, true, [[o]]⟩), (1000061, ⟨5, true, [[.ref 1000062 0 hs.length, .ref 1000063 0 s.ns.length, .ref 1000064 0 s.m, .int .i64 s.now, .int .i64 serial]]⟩), (1000065, ⟨1, true, [[.ptr 1000061 0 0]]⟩), (1000066, ⟨1, true, [[.int .i64 u]]⟩)]
def rnT (hs : List SHost1) (s : RnS) : List BT := [BT.of 1000062 tySHost1 5 hs true, BT.of 1000063 tySNat 9 s.ns true, BT.of 1000064 tySFlight 9 s.q true]
def rnO (out : List SDelivery) : V := .sl true 6 (List.map tySDelivery.c out)
def rnX (ex : Exit) (ts : List (Nat × V)) (hs : List SHost1) (serial u : Int) (s : RnS) : Ext := Ext.of ex ts (rnL hs serial u s (rnO s.out)) (rnT hs s) (by rfl)
def rnB (hs : List SHost1) (serial u : Int) (s : RnS) : List (Nat × Blk) := (rnX .normal [] hs serial u s).bs
theorem gst_to {st : St} (x : Ext) {n : Nat} (hok : x.ok = true) (hn : st.n = n) (h : extTs x st = x.ts ∧ extBs x st = x.bs.map fun p => (p.1, some p.2)) : Gst GG st (x.D n).st := by
 subst hn; exact ext_ghost hok h.1 h.2
def cRn : Code → Code
 | .seq _ (.seq _ (.seq _ (.seq _ (.seq _ (.seq (.seq _ (.block _ c)) _))))) => c
 | _ => .skip
noncomputable def rnR : Code := cRn (Tryd.f41.body.getD .skip)
noncomputable def rnAs : Code := rAssign rnR
noncomputable def rnBd : Code := rBody rnR
def xRa (hs : List SHost1) (serial u : Int) (s : RnS) (d : SDelivery) : Ext := rnX .normal ((32, .agg (dlC d)) :: rnTs u) hs serial u s
def xRb (hs : List SHost1) (serial u : Int) (s : RnS) (d : SDelivery) : Ext := Ext.of .normal (rnTs u ++ [(10, .ptr 10 0 0)]) ((10, ⟨6, true, [dlC d]⟩) :: rnL hs serial u s (rnO s.out)) (rnT hs s) (by rfl)
def xRc (hs : List SHost1) (serial u : Int) (s : RnS) (d : SDelivery) : Ext := Ext.of .normal (rnTs u ++ [(10, .ptr 10 0 0)]) ((10, ⟨6, true, [dlC d]⟩) :: rnL hs serial u s (.ref 70 0 s.out.length)) (BT.of 70 tySDelivery 6 s.out false :: rnT hs s) (by rfl)
def xRd (hs : List SHost1) (serial u : Int) (s : RnS) (d : SDelivery) (b : Bool) : Ext := bif b then Ext.of .normal [] (rnL hs serial u s (.ref 39 0 (s.out ++ [d]).length)) (BT.of 39 tySDelivery 6 (s.out ++ [d]) false :: rnT hs s) (by rfl) else Ext.of .normal [] (rnL hs serial u s (.ref 70 0 s.out.length)) (BT.of 70 tySDelivery 6 s.out false :: rnT hs s) (by rfl)
theorem kRa (hs : List SHost1) (serial u : Int) (s : RnS) (d : SDelivery) : Piece Tryd.prog GG [1, 4, 7, 9, 10, 31] 50 rnAs (xRa hs serial u s d) (.done () : TT Unit) (fun _ => xRb hs serial u s d) := by unfold Piece; kernel_rfl
def gRd (s : RnS) (d : SDelivery) : TT Bool :=
 .br 0 (decide ((0 : Int) ≤ d.fHost))
 (.app 10004 tySDelivery s.out [d] 72 false (by intro h; cases h) (.done true))
 (.done false)
theorem kRd (hs : List SHost1) (serial u : Int) (s : RnS) (d : SDelivery) : Piece Tryd.prog GG [35] 50 rnBd (xRc hs serial u s d) (gRd s d) (xRd hs serial u s d) := by unfold Piece; kernel_rfl
theorem strip_c (l : List SDelivery) : (List.map tySDelivery.c l).map (·.map V.strip) = List.map tySDelivery.c l := by
 rw [List.map_map]
 exact List.map_congr_left fun x _ => tySDelivery.st x
theorem nest9 {hs : List SHost1} {serial u : Int} {s : RnS} {o : List SDelivery} {d : Nat} (hd : d = 39 ∨ d = 70) {g : St} (h : Gst GG g ((Ext.of .normal [] (rnL hs serial u s (.ref d 0 o.length)) (BT.of d tySDelivery 6 o false :: rnT hs s) (by rcases hd with rfl | rfl <;> rfl)).D 50).st) :
  Gst GG g (susp 50 (fun _ => .undef) (ofL (rnB hs serial u { s with out := o }))) := by
 refine Gst.trans h (Gst.trans (Gst.nest (b := 1000009) (d := d) (i := 0) (j := 0) (off := 0) (k := ⟨1, true, [[.ref d 0 o.length]]⟩) (kd := ⟨6, false, List.map tySDelivery.c o⟩) (row := [.ref d 0 o.length]) ?_ ?_ (by show 1 < MAPS; decide) ?_ rfl (Nat.zero_le _) ?_ (tySDelivery.data o)) ?_)
 ·rcases hd with rfl | rfl <;> decide
 ·rcases hd with rfl | rfl <;> rfl
 ·rcases hd with rfl | rfl <;> rfl
 ·simp
 ·have e := ext_susp (x := rnX .normal [] hs serial u { s with out := o }) (by rfl) 50
  show Gst GG _ (susp 50 (tOf (rnX .normal [] hs serial u { s with out := o }).ts) (ofL (rnX .normal [] hs serial u { s with out := o }).bs))
  rw [← e]
  rcases hd with rfl | rfl
  ·exact gst_to _ (by rfl) rfl ⟨by rfl, by rfl⟩
  ·exact gst_to _ (by rfl) rfl ⟨by rfl, by rfl⟩
def rnOut (s : RnS) (d : SDelivery) (b : Bool) : RnS := { s with out := bif b then s.out ++ [d] else s.out }
theorem take9 {hs : List SHost1} {serial u : Int} {s : RnS} {d : SDelivery} {g : St} (h : Gst GG g ((xRb hs serial u s d).D 50).st) : Gst GG g ((xRc hs serial u s d).D 50).st := by
 refine Gst.trans h (Gst.trans (Gst.take (b := 1000009) (d := 70) (i := 0) (j := 0) (size := 6) (k := ⟨1, true, [[rnO s.out]]⟩) (row := [rnO s.out]) (rows := List.map tySDelivery.c s.out) rfl rfl (by decide) rfl rfl (by show 1 < MAPS; decide) (by decide)) ?_)
 unfold takeRef
 rw [strip_c, List.length_map]
 exact gst_to _ (by rfl) rfl ⟨by rfl, by rfl⟩
theorem round41 (hs : List SHost1) (serial u : Int) (s : RnS) (d : SDelivery) {b : Bool} (hb : (gRd s d).run = some b) :
  RoundT Tryd.prog GG 50 (tOf (rnTs u)) [32] rnAs rnBd (ofL (rnB hs serial u s)) [.agg (dlC d)] (fun e b' => e = .normal ∧ b' = ofL (rnB hs serial u (rnOut s d b))) := by
 refine ⟨((xRc hs serial u s d).D 50).st, ?_, ?_⟩
 ·have h := (kRa hs serial u s d).tv mixed (r := ()) rfl (by rfl)
  have e : ((xRa hs serial u s d).D 50).st = setP (susp 50 (tOf (rnTs u)) (ofL (rnB hs serial u s))) ([32].zip [.agg (dlC d)]) := by
   rw [ext_susp (by rfl)]
   exact (setP_susp 50 (rnTs u) _ 32 (.agg (dlC d))).symm
  rw [e] at h
  exact h.mono fun e s' hg => ⟨hg.1, take9 hg.2⟩
 ·refine ((kRd hs serial u s d).tv mixed hb (by cases b <;> rfl)).mono fun e s' hg => ?_
  obtain ⟨rfl, g⟩ := hg
  cases b with
  | true => exact ⟨_, 50, ⟨rfl, rfl⟩, nest9 (.inl rfl) g⟩
  | false => exact ⟨_, 50, ⟨rfl, rfl⟩, nest9 (.inr rfl) g⟩
def rnArgs (l : Nat) : List V := [.yld l, .ptr 1000065 0 0, .ptr 1000066 0 0]
noncomputable def c96 : Code := Tryd.f96.body.getD .skip
noncomputable def cLq : Code := cB (cB c96)
noncomputable def cR0 : Code := cL (cL cLq)
noncomputable def ops96 : Array Oper := rOps (cL (cB (cR cLq)))
theorem e96 : c96 = .block 0 (.loop cLq) := by kernel_rfl
theorem e96b : cLq = .seq (.seq cR0 (.cond (.tmp 24) .skip (.exit 0))) (.block 1 (.seq (.region 1 ops96 false) (.cond (.tmp 29) .ret .skip))) := by kernel_rfl
noncomputable def gR0 (hs : List SHost1) (serial u : Int) (s : RnS) : TT Bool :=
 .cnd 0 [24]
 (.br 9 (decide ((0 : Int) < (s.m : Int)))
  (.view 15 (s76 (SCarrier.mk (SNetwork.mk hs s.ns (s.q.take s.m) s.now serial))) [(VwW.of 1000062 tySHost1 hs), (VwW.of 1000063 tySNat s.ns), (VwW.part 1000064 tySFlight s.q s.m)] fun r =>
   .chk 16 (decide (0 ≤ r) && decide (r < (s.m : Int))) (.row 18 tySFlight s.q (0 + r.toNat) true fun x =>
   .done (decide (x.fDue ≤ u))))
  (.done false))
 (fun (c : Bool) => [.bool c]) fun c =>
 .done c
def xN (l : Nat) (hs : List SHost1) (serial u : Int) (s : RnS) : Ext := rnX .normal (argTs (rnArgs l)) hs serial u s
def xN0 (l : Nat) (hs : List SHost1) (serial u : Int) (s : RnS) (b : Bool) : Ext := rnX .normal (argTs (rnArgs l) ++ [(24, .bool b)]) hs serial u s
theorem kR0 (l : Nat) (hs : List SHost1) (serial u : Int) (s : RnS) : Piece Tryd.prog GG [0, 1, 2, 24] 30 cR0 (xN l hs serial u s) (gR0 hs serial u s) (xN0 l hs serial u s) := by unfold Piece; kernel_rfl
abbrev R77 := (List SNat) × Int × ByteArray × Int × Nat × (List SFlight) × Int × ByteArray × Int × ByteArray
def rnD (r : R77) : SDelivery := ⟨r.2.1, ⟨r.2.2.2.2.2.2.2.1, r.2.2.2.2.2.2.2.2.1⟩, ⟨r.2.2.1, r.2.2.2.1⟩, r.2.2.2.2.2.2.2.2.2⟩
def rnN (s : RnS) (r : R77) : RnS := ⟨r.1, r.2.2.2.2.2.1, r.2.2.2.2.1, r.2.2.2.2.2.2.1, s.out⟩
noncomputable def gR1 (hs : List SHost1) (serial : Int) (s : RnS) : TT R77 :=
 .call 1003 (s77_1 s.m s.now serial hs s.ns s.q) [(1000000, 1000061), (1000001, 1000062), (1000002, 1000063), (1000003, 1000064)] [] fun r => .done r
def xN1 (l : Nat) (hs : List SHost1) (serial u : Int) (s : RnS) (r : R77) : Ext := rnX .normal (argTs (rnArgs l) ++ [(25, .yld l), (27, .agg (dlC (rnD r)))]) hs serial u (rnN s r)
theorem kR1 (l : Nat) (hs : List SHost1) (serial u : Int) (s : RnS) : PieceOps Tryd.prog GG [0, 1, 2, 25, 27] 30 1 ops96 3 (xN l hs serial u s) (gR1 hs serial s) (xN1 l hs serial u s) := by unfold PieceOps; kernel_rfl
noncomputable def rnStep (hs : List SHost1) (serial u : Int) (s : RnS) : Option (RnS ⊕ RnS) :=
 match (gR0 hs serial u s).run with
 | none => none
 | some c => bif c then (match (gR1 hs serial s).run with
  | none => none
  | some r => match (gRd (rnN s r) (rnD r)).run with
   | none => none
   | some b => some (.inl (rnOut (rnN s r) (rnD r) b))) else some (.inr s)
noncomputable def runM (hs : List SHost1) (serial u : Int) (s : RnS) : Option RnS := iter (rnStep hs serial u) FUEL s
noncomputable def rnYL (u : Int) : YL := ⟨50, tOf (rnTs u), #[32], rnAs, rnBd⟩
theorem iter96 (hs : List SHost1) (serial u : Int) (s0 : RnS) {r : RnS} (h : runM hs serial u s0 = some r) :
  IterT Tryd.prog GG c96 30 rnArgs (ofL (rnB hs serial u s0)) (rnYL u) (fun e b => e = .normal ∧ b = ofL (rnB hs serial u r)) := by
 refine IterT.of fun l => ?_
 have e0 : entry 30 (rnArgs l) (ofL (rnB hs serial u s0)) = ((xN l hs serial u s0).D 30).st := (entry_ext (x := xN l hs serial u s0) (by rfl) (by rfl) 30).symm
 rw [e0, e96]
 refine YT.block ?_
 refine YT.loop (fun m s => s.x = .normal ∧ ∃ y : RnS, Gst GG s.st ((xN l hs serial u y).D 30).st ∧ iter (rnStep hs serial u) m y = some r) (fun m s hI => ?_) (n := FUEL) ⟨rfl, s0, Gst.same _, h⟩
 obtain ⟨x, st⟩ := s
 obtain ⟨rfl, y, g, hit⟩ := hI
 refine YT.gst g ?_
 cases m with
 | zero => simp [iter] at hit
 | succ m =>
  rw [iter_succ] at hit
  rw [e96b]
  cases hc : (gR0 hs serial u y).run with
  | none =>
   have hs0 : rnStep hs serial u y = none := by unfold rnStep; rw [hc]
   rw [hs0] at hit; simp at hit
  | some c =>
   refine YT.seq (YT.seq (YT.piece (kR0 l hs serial u y) mixed hc (by rfl) fun s g => ?_))
   show YT _ _ _ _ _ _ _
   refine YT.gst g ?_
   cases c with
   | false =>
    have hs0 : rnStep hs serial u y = some (.inr y) := by unfold rnStep; rw [hc]; rfl
    rw [hs0] at hit
    obtain rfl : y = r := Option.some.inj hit
    refine YT.cond (b := false) rfl (YT.exit ?_)
    refine ⟨.inl rfl, 30, tOf (xN0 l hs serial u y false).ts, ofL (rnB hs serial u y), ?_, rfl, rfl⟩
    show Gst GG ((xN0 l hs serial u y false).D 30).st _
    rw [ext_susp (by rfl) 30]
    exact Gst.same _
   | true =>
    refine YT.cond (b := true) rfl (YT.skip ?_)
    show YT _ _ _ _ _ _ _
    cases h1 : (gR1 hs serial y).run with
    | none =>
     have hs0 : rnStep hs serial u y = none := by unfold rnStep; rw [hc]; simp only [cond_true]; rw [h1]
     rw [hs0] at hit; simp at hit
    | some a =>
     cases h2 : (gRd (rnN y a) (rnD a)).run with
     | none =>
      have hs0 : rnStep hs serial u y = none := by unfold rnStep; rw [hc]; simp only [cond_true]; rw [h1]; simp only; rw [h2]
      rw [hs0] at hit; simp at hit
     | some b =>
      have hs0 : rnStep hs serial u y = some (.inl (rnOut (rnN y a) (rnD a) b)) := by unfold rnStep; rw [hc]; simp only [cond_true]; rw [h1]; simp only; rw [h2]
      rw [hs0] at hit
      refine YT.gst (st' := ((xN l hs serial u y).D 30).st) (gst_to (xN l hs serial u y) (by rfl) rfl ⟨by rfl, by rfl⟩) ?_
      refine YT.block (YT.seq (YT.region ?_))
      show YTops _ _ _ _ _ ([0, 1, 2] ++ [3, 4]) _ _
      refine YTops.tv ((kR1 l hs serial u y).tv mixed h1 (by rfl)) fun e st hq => ⟨hq.1, YTops.gst hq.2 ?_⟩
      rw [ext_susp (x := xN1 l hs serial u y a) (by rfl) 30]
      refine YTops.yield (hi := rfl) rfl rfl rfl rfl rfl rfl rfl ?_ ?_ ?_ rfl (round41 hs serial u (rnN y a) (rnD a) h2) ?_ ?_
      ·exact fun i => tOf_ok (by rfl) i
      ·exact fun i => tOf_ok (by rfl) i
      ·intro p hp
       have : p ∈ [32] := hp
       simp at this
       subst this
       exact (by decide : 32 < 50)
      ·exact fun e b' h => .inl h.1
      ·intro e b' h
       obtain ⟨rfl, rfl⟩ := h
       refine YTops.step rfl (YTops.nil ?_)
       show YT _ _ _ _ _ _ _
       refine YT.cond (b := false) rfl (YT.skip ?_)
       refine ⟨m, Nat.lt_succ_self m, rfl, rnOut (rnN y a) (rnD a) b, ?_, hit⟩
       exact gst_to (xN l hs serial u (rnOut (rnN y a) (rnD a) b)) (by rfl) rfl ⟨by rfl, by rfl⟩
def rnFTs (u : Int) : List (Nat × V) := [(1, .int .i64 u), (4, .ptr 4 0 0), (7, .ptr 61 0 0), (9, .ptr 9 0 0)]
def rnFL (hs : List SHost1) (serial : Int) (s : RnS) : List (Nat × Blk) :=
 [(4, ⟨5, true, [[.nilsl, .nilsl, .nilsl, .int .i64 0, .int .i64 0]]⟩), (9, ⟨1, true, [[rnO s.out]]⟩), (61, ⟨5, true, [[.ref 62 0 hs.length, .ref 63 0 s.ns.length, .ref 64 0 s.m, .int .i64 s.now, .int .i64 serial]]⟩)]
def rnFC (u : Int) : List (Nat × Blk) := [(65, ⟨1, true, [[.ptr 61 0 0]]⟩), (66, ⟨1, true, [[.int .i64 u]]⟩)]
def rnFT (hs : List SHost1) (s : RnS) : List BT := [BT.of 62 tySHost1 5 hs true, BT.of 63 tySNat 9 s.ns true, BT.of 64 tySFlight 9 s.q true]
def xRun (hs : List SHost1) (serial u : Int) (s : RnS) : Ext := Ext.of .normal (rnFTs u ++ [(31, .fn 96 [] [.ptr 65 0 0, .ptr 66 0 0])]) (rnFL hs serial s ++ rnFC u) (rnFT hs s) (by rfl)
def eRun (hs : List SHost1) (serial u : Int) (s : RnS) : Ext := Ext.of .normal (rnFTs u) (rnFL hs serial s) (rnFT hs s) (by rfl)
theorem sh_rows {α : Type} (ty : Ty α) (l : List α) : (List.map ty.c l).map (renL sh) = List.map ty.c l := by
 have h : DataRows (l.map ty.c) := ty.data l
 have : (⟨0, true, List.map ty.c l⟩ : Blk).ren sh = ⟨0, true, List.map ty.c l⟩ := DataRows.ren (k := ⟨0, true, List.map ty.c l⟩) h sh
 have := congrArg Blk.rows this
 exact this
theorem bs41 (hs : List SHost1) (serial u : Int) (s : RnS) : shB (ofL (xRun hs serial u s).bs) = ofL (rnB hs serial u s) := by
 rw [shB_ofL]
 have : ((xRun hs serial u s).bs.map fun p => (sh p.1, p.2.ren sh)) = rnB hs serial u s := by
  simp only [xRun, Ext.of, rnFL, rnFC, rnFT, List.cons_append, List.nil_append, List.map_cons, List.map_nil, BT.of, Blk.ren, sh_rows]
  kernel_rfl
 rw [this]
theorem loop41 (hs : List SHost1) (serial u : Int) (s : RnS) {r : RnS} (h : runM hs serial u s = some r) :
  TV Tryd.prog GG (.rangeFunc (.tmp 31) #[32] rnAs rnBd) ((xRun hs serial u s).D 50).st (fun e st => e = .normal ∧ Gst GG st ((eRun hs serial u r).D 50).st) := by
 have ht : (fun i => renV sh (((xRun hs serial u s).D 50).st.t i)) = tOf (rnTs u) := by
  have : ((xRun hs serial u s).D 50).st.t = tOf (xRun hs serial u s).ts := rfl
  rw [this, tOf_shift]
  have : ((xRun hs serial u s).ts.map fun p => (p.1, renV sh p.2)) = rnTs u := by kernel_rfl
  rw [this]
 have hb : Tryd.f96.body = some c96 := by kernel_rfl
 refine TV.range (f := 96) (fi := Tryd.f96) (c := c96) (caps := [.ptr 1000065 0 0, .ptr 1000066 0 0]) (R := fun e b => e = .normal ∧ b = ofL (rnB hs serial u r)) ?_ Tryd.func96 hb (by kernel_rfl) (by kernel_rfl) ?_ ?_ ?_
 ·show some ((fun i => renV sh (((xRun hs serial u s).D 50).st.t i)) 31) = _
  rw [ht]; rfl
 ·intro b k hk
  obtain ⟨q, h1, rfl, _⟩ := find_b (show ofL (xRun hs serial u s).bs b = some k from hk)
  show (((xRun hs serial u s).us).contains q.1 || uTop q.1) = true
  simp only [Ext.us, Bool.or_eq_true, List.contains_eq_mem, decide_eq_true_eq]
  exact .inl (List.mem_map.2 ⟨q, h1, rfl⟩)
 ·have hbb : shB ((xRun hs serial u s).D 50).st.b = ofL (rnB hs serial u s) := bs41 hs serial u s
  rw [ht, hbb]
  have e : max Tryd.f96.ntmps (1 + [V.ptr 1000065 0 0, V.ptr 1000066 0 0].length) = 30 := by kernel_rfl
  rw [e]
  exact iter96 hs serial u s h
 ·intro e b' ho
  obtain ⟨rfl, rfl⟩ := ho
  refine ⟨.inl rfl, ofL (xRun hs serial u r).bs, (bs41 hs serial u r).symm, ?_, rfl, ?_⟩
  ·show (stOf 50 (xRun hs serial u s).ts (xRun hs serial u r).bs (xRun hs serial u s).us).known
   refine ⟨fun i b hm => ?_, fun i k hk => ?_⟩
   ·have hm' : b ∈ refsV (tOf (xRun hs serial u s).ts i) := hm
    unfold tOf at hm'
    cases hf : (xRun hs serial u s).ts.find? (fun p => p.1 == i) with
    | none => rw [hf] at hm'; simp [refsV] at hm'
    | some p =>
     rw [hf] at hm'
     have all : ((xRun hs serial u s).ts.all fun p => (refsV p.2).all fun b => (xRun hs serial u s).us.contains b) = true := by rfl
     have := List.all_eq_true.1 (List.all_eq_true.1 all p (List.mem_of_find?_eq_some hf)) b hm'
     show ((xRun hs serial u s).us.contains b || uTop b) = true
     rw [this]; rfl
   ·obtain ⟨q, h1, rfl, rfl⟩ := find_b (show ofL (xRun hs serial u r).bs i = some k from hk)
    have husl : (xRun hs serial u r).us = (xRun hs serial u s).us := rfl
    refine ⟨?_, fun b hm => ?_⟩
    ·show ((xRun hs serial u s).us.contains q.1 || uTop q.1) = true
     rw [← husl]
     simp only [Ext.us, Bool.or_eq_true, List.contains_eq_mem, decide_eq_true_eq]
     exact .inl (List.mem_map.2 ⟨q, h1, rfl⟩)
    ·have : q ∈ (rnFL hs serial r ++ rnFC u) ++ (rnFT hs r).map fun x => (x.id, x.k) := h1
     rcases List.mem_append.1 this with h2 | h2
     ·have all : ((rnFL hs serial r ++ rnFC u).all fun q => (refsL q.2.rows.flatten).all fun b => (xRun hs serial u s).us.contains b) = true := by rfl
      have := List.all_eq_true.1 (List.all_eq_true.1 all q h2) b hm
      show ((xRun hs serial u s).us.contains b || uTop b) = true
      rw [this]; rfl
     ·have hdat := bts_dat _ h2
      rw [hdat.refs] at hm; simp at hm
  ·show Gst GG (stOf 50 (xRun hs serial u s).ts (xRun hs serial u r).bs (xRun hs serial u s).us) _
   exact gst_to (eRun hs serial u r) (by rfl) rfl ⟨by rfl, by rfl⟩
noncomputable def subRun (hs : List SHost1) (ns : List SNat) (q : List SFlight) (now serial u : Int) : Sub Tryd.prog GG RnS :=
 ⟨.rangeFunc (.tmp 31) #[32] rnAs rnBd, 50, xRun hs serial u ⟨ns, q, q.length, now, []⟩, runM hs serial u ⟨ns, q, q.length, now, []⟩, eRun hs serial u, fun _ h => loop41 hs serial u _ h⟩
end Go.Proofs.YtdiagiflihpidaaDoor
namespace Go.Proofs.YtdiagiflihpidaaDoor
open Go Go.EV
set_option maxRecDepth 100000
noncomputable def g71_1 (_ : Int) (_ : Int) (_ : Int) (_ : (List SHost1)) (_ : (List SNat)) (_ : (List SFlight)) : TT (Unit) :=
 .done ()
theorem k71_1 (p0 : Int) (p1 : Int) (p2 : Int) (p3 : (List SHost1)) (p4 : (List SNat)) (p5 : (List SFlight)) : FnB Tryd.prog GG [0, 1, 2, 3, 4] Tryd.f71 [.ptr 1000000 0 0, .int .i64 p0] (Ext.of .normal (argTs [.ptr 1000000 0 0, .int .i64 p0]) [(1000000, ⟨5, true, [[.ref 1000001 0 p3.length, .ref 1000002 0 p4.length, .ref 1000003 0 p5.length, .int .i64 p1, .int .i64 p2]]⟩)] [BT.of 1000001 tySHost1 5 p3 true, BT.of 1000002 tySNat 9 p4 true, BT.of 1000003 tySFlight 9 p5 true] (by rfl)) (g71_1 p0 p1 p2 p3 p4 p5) (fun (_ : Unit) => .fn 96 [] [.ptr 2 0 0, .ptr 3 0 0]) (fun (_ : Unit) => Ext.of .normal [] [(2, ⟨1, true, [[.ptr 1000000 0 0]]⟩), (3, ⟨1, true, [[.int .i64 p0]]⟩), (1000000, ⟨5, true, [[.ref 1000001 0 p3.length, .ref 1000002 0 p4.length, .ref 1000003 0 p5.length, .int .i64 p1, .int .i64 p2]]⟩)] [BT.of 1000001 tySHost1 5 p3 true, BT.of 1000002 tySNat 9 p4 true, BT.of 1000003 tySFlight 9 p5 true] (by rfl)) := by unfold FnB; kernel_rfl
noncomputable def s71_1 (p0 : Int) (p1 : Int) (p2 : Int) (p3 : (List SHost1)) (p4 : (List SNat)) (p5 : (List SFlight)) : EV.Spec Tryd.prog GG (Unit) := .ofFnB 71 [1000001, 1000002, 1000003] mixed Tryd.func71 rfl (fun _ => rfl) (k71_1 p0 p1 p2 p3 p4 p5)
noncomputable def g41 (p0 : SNetwork) (p1 : Int) : TT (SNetwork × (List SDelivery) × Int) :=
 .call2 1002 (s67 p0) [] [(7, 500139), (500100, 500140), (500101, 500141), (500102, 500142)] (fun r729 =>
  .ff (.tt (.done ((SNetwork.mk [] [] [] 0 0), [], 140))))
 (fun r730 =>
  .call 2007 (s68 p1 p0.fNow 1099511627776) [] [] fun r731 =>
  .bind 0
  (.br 0 (!r731)
   (.done 2)
   (.done 0))
  (fun (e732 : Int) => Ext.of .normal [(1, .int .i64 p1), (4, .ptr 4 0 0), (5, .nilsl), (6, .int .i64 0), (7, .ptr 500139 0 0), (8, .int .i64 e732)] [(4, ⟨5, true, [[.nilsl, .nilsl, .nilsl, .int .i64 0, .int .i64 0]]⟩), (500139, ⟨5, true, [[.ref 500140 0 p0.fHosts.length, .ref 500141 0 p0.fNats.length, .ref 500142 0 p0.fQueue.length, .int .i64 p0.fNow, .int .i64 p0.fSerial]]⟩)] [BT.of 500140 tySHost1 5 p0.fHosts true, BT.of 500141 tySNat 9 p0.fNats true, BT.of 500142 tySFlight 9 p0.fQueue true] (by rfl))
  (fun e732 =>
   .br 0 (e732 != 0)
   (.done ((SNetwork.mk [] [] [] 0 0), [], e732))
   (.call 7003 (s71_1 p1 p0.fNow p0.fSerial p0.fHosts p0.fNats p0.fQueue) [(1000000, 500139), (1000001, 500140), (1000002, 500141), (1000003, 500142)] [(2, 500143), (3, 500144)] fun r733 =>
    .gh 1 (.ren 500139 61) (.gh 1 (.ren 500140 62) (.gh 1 (.ren 500141 63) (.gh 1 (.ren 500142 64) (.gh 1 (.ren 500143 65) (.gh 1 (.ren 500144 66) (.gh 1 (.tell 9 [[.sl true 6 []]]) (.sub (subRun p0.fHosts p0.fNats p0.fQueue p0.fNow p0.fSerial p1) fun r734 =>
    .gh 0 (.share (VwW.of 62 tySHost1 p0.fHosts) 1) (.gh 0 (.share (VwW.of 63 tySNat r734.ns) 1) (.gh 0 (.share (VwW.part 64 tySFlight r734.q r734.m) 1) (.done ((SNetwork.mk p0.fHosts r734.ns (r734.q.take r734.m) p1 p0.fSerial), r734.out, 0))))))))))))))
theorem k41 (p0 : SNetwork) (p1 : Int) : FnD Tryd.prog GG [0, 1, 2, 4, 5, 6, 7, 8, 9, 10, 24, 26, 31, 32, 35] Tryd.f41 [.agg [.sl false 5 (List.map tySHost1.c p0.fHosts), .sl false 9 (List.map tySNat.c p0.fNats), .sl false 9 (List.map tySFlight.c p0.fQueue), .int .i64 p0.fNow, .int .i64 p0.fSerial], .int .i64 p1] (g41 p0 p1) (fun r => .tup [.agg [.sl false 5 (List.map tySHost1.c r.1.fHosts), .sl false 9 (List.map tySNat.c r.1.fNats), .sl false 9 (List.map tySFlight.c r.1.fQueue), .int .i64 r.1.fNow, .int .i64 r.1.fSerial], .sl false 6 (List.map tySDelivery.c r.2.1), .int .i64 r.2.2]) := by unfold FnD; kernel_rfl
noncomputable def s41 (p0 : SNetwork) (p1 : Int) : EV.Spec Tryd.prog GG (SNetwork × (List SDelivery) × Int) := .ofFn 41 mixed Tryd.func41 (k41 p0 p1)
end Go.Proofs.YtdiagiflihpidaaDoor
namespace Go.Proofs.YtdiagiflihpidaaDoor
open Go Go.EV
set_option maxRecDepth 100000
noncomputable def g37  : TT (Bool) :=
 .call 1001 s50 [] [] fun r735 =>
 .call 1002 (s49 198 51 100 1 80) [] [] fun r736 =>
 .call 1003 (s40 r735 0 1 5000 r736 (bs [120])) [] [] fun r737 =>
 .call 2002 (s47 r737.1) [] [] fun r738 =>
 .call 3002 (s48 r737.1) [] [] fun r739 =>
 .call 4002 (s41 r737.1 30) [] [] fun r740 =>
 .call 5001 (s49 192 0 2 9 5000) [] [] fun r741 =>
 .call 5002 (s49 198 51 100 1 80) [] [] fun r742 =>
 .cnd 6 [0]
 (.br 6004 (r737.2 == 0)
  (.br 6008 (r738.2 == 0)
   (.br 6012 (r738.1 == 20)
    (.br 6016 (r739.2.2 == 0)
     (.br 6021 ((r739.2.1.fHost == 0) && ((decide (r739.2.1.fFrom.fHost = r741.fHost)) && ((r739.2.1.fFrom.fPort == r741.fPort) && ((decide (r739.2.1.fTo.fHost = r742.fHost)) && ((r739.2.1.fTo.fPort == r742.fPort) && ((decide (r739.2.1.fData = (bs [120]))) && true))))))
      (.br 6026 (r739.1.fNow == 20)
       (.br 6030 (r740.2.2 == 0)
        (.br 6035 (r740.1.fNow == 30)
         (.view 6038 (s45 r740.2.1 [(SDelivery.mk 0 r741 r742 (bs [120]))]) [] fun r743 =>
          .br 6041 r743
          (.call 6042 (s43 r737.1) [] [] fun r744 =>
           .br 6046 (r744 == 0)
           (.call 6047 (s43 (SNetwork.mk [] [] [] 0 0)) [] [] fun r745 =>
            .done (r745 == 140))
           (.done false))
          (.done false))
         (.done false))
        (.done false))
       (.done false))
      (.done false))
     (.done false))
    (.done false))
   (.done false))
  (.done false))
 (fun (c746 : Bool) => [.bool c746]) fun c746 =>
 .done c746
theorem k37  : FnD Tryd.prog GG [0, 1, 2, 3, 4, 5, 6, 7, 8, 9, 10, 11] Tryd.f37 [] (g37) (fun r => .bool r) := by unfold FnD; kernel_rfl
noncomputable def s37  : EV.Spec Tryd.prog GG (Bool) := .ofFn 37 mixed Tryd.func37 (k37)
end Go.Proofs.YtdiagiflihpidaaDoor
namespace Go.Proofs.YtdiagiflihpidaaDoor
open Go Go.EV
set_option maxRecDepth 100000
end Go.Proofs.YtdiagiflihpidaaDoor
namespace Go.Proofs.YtdiagiflihpidaaDoor
open Go Go.EV
set_option maxRecDepth 100000
def ty_u8 : Ty Int := ⟨fun x => [.int .u8 x], fun x => [.int .u8 x], fun _ => rfl, fun _ => rfl, fun _ _ => rfl, fun _ => rfl⟩
noncomputable def g15  : TT (Bool) :=
  .call 1001 s37 [] [] fun r786 =>
  .br 0 (!r786)
  (.done false)
  (.call 3001 (s49 192 0 2 9 5000) [] [] fun r787 =>
    .call 3002 (s49 198 51 100 1 80) [] [] fun r788 =>
    .call 4001 s50 [] [] fun r789 =>
    .call 4003 (s40 r789 0 1 5000 r788 (bs [120])) [] [] fun r790 =>
    .call 5002 (s48 r790.1) [] [] fun r791 =>
    .call 6003 (s40 r791.1 20 0 80 r787 (bs [121])) [] [] fun r792 =>
    .call 7002 (s48 r792.1) [] [] fun r793 =>
    .call 8001 s50 [] [] fun r794 =>
    .call 8003 (s40 r794 0 0 80 r787 (bs [121])) [] [] fun r795 =>
    .call 9002 (s48 r795.1) [] [] fun r796 =>
    .call 10001 s50 [] [] fun r797 =>
    .call 10002 (s49 10 0 0 1 9) [] [] fun r798 =>
    .call 10003 (s40 r797 0 2 7 r798 (bs [122])) [] [] fun r799 =>
    .call 11002 (s49 10 0 0 1 9) [] [] fun r800 =>
    .call 11003 (s40 r799.1 0 2 7 r800 (bs [122])) [] [] fun r801 =>
    .call 12002 (s41 r801.1 100) [] [] fun r802 =>
    .call 13001 s50 [] [] fun r803 =>
    .call 13002 (s47 r803) [] [] fun r804 =>
    .call 14001 s50 [] [] fun r805 =>
    .call 14003 (s40 r805 0 3 1 r788 ByteArray.empty) [] [] fun r806 =>
    .call 15001 s50 [] [] fun r807 =>
    .call 15002 (s41 r807 (-1)) [] [] fun r808 =>
    .call 16001 s50 [] [] fun r809 =>
    .call 16003 (s40 r809 0 0 0 r788 ByteArray.empty) [] [] fun r810 =>
    .call 17001 s50 [] [] fun r811 =>
    .call 17002 (s49 198 51 100 1 0) [] [] fun r812 =>
    .call 17003 (s40 r811 0 0 1 r812 ByteArray.empty) [] [] fun r813 =>
    .call 18001 s50 [] [] fun r814 =>
    .opr 18003 (Rule.makeNums (ty := ty_u8) (t := 57) (e := 5) (k := .u8) (.const (.int .i64 1201)) (.const (.int .i64 1201)) 139 1201 1 (by kernel_rfl) (by kernel_rfl) (by kernel_rfl) (by decide) (fun _ => rfl)) fun _ =>
    .opr 18004 (Rule.textOf (ty := ty_u8) (s := 57) (t := 9) (e := 5) (.tmp 139) 140 139 (List.replicate 1201 (0 : Int)) 1201 (by kernel_rfl) (by kernel_rfl) (by kernel_rfl) (by simp) (fun _ => rfl)) fun _ =>
    .call 18005 (s40 r814 0 0 1 r788 (strOfNums (List.replicate 1201 (0 : Int)))) [] [] fun r815 =>
    .call 19001 s50 [] [] fun r816 =>
    .call 19002 (s48 r816) [] [] fun r817 =>
    .call 20001 s50 [] [] fun r818 =>
    .tt (.call 24003 (s40 r818 0 0 1 r788 ByteArray.empty) [] [] fun r819 =>
    .br 0 (r819.2 != 0)
    (.done false)
    (.tt (.call 24003 (s40 r819.1 0 0 1 r788 ByteArray.empty) [] [] fun r820 =>
      .br 0 (r820.2 != 0)
      (.done false)
      (.tt (.call 24003 (s40 r820.1 0 0 1 r788 ByteArray.empty) [] [] fun r821 =>
        .br 0 (r821.2 != 0)
        (.done false)
        (.tt (.call 24003 (s40 r821.1 0 0 1 r788 ByteArray.empty) [] [] fun r822 =>
          .br 0 (r822.2 != 0)
          (.done false)
          (.tt (.call 24003 (s40 r822.1 0 0 1 r788 ByteArray.empty) [] [] fun r823 =>
            .br 0 (r823.2 != 0)
            (.done false)
            (.tt (.call 24003 (s40 r823.1 0 0 1 r788 ByteArray.empty) [] [] fun r824 =>
              .br 0 (r824.2 != 0)
              (.done false)
              (.tt (.call 24003 (s40 r824.1 0 0 1 r788 ByteArray.empty) [] [] fun r825 =>
                .br 0 (r825.2 != 0)
                (.done false)
                (.tt (.call 24003 (s40 r825.1 0 0 1 r788 ByteArray.empty) [] [] fun r826 =>
                  .br 0 (r826.2 != 0)
                  (.done false)
                  (.tt (.call 24003 (s40 r826.1 0 0 1 r788 ByteArray.empty) [] [] fun r827 =>
                    .br 0 (r827.2 != 0)
                    (.done false)
                    (.tt (.call 24003 (s40 r827.1 0 0 1 r788 ByteArray.empty) [] [] fun r828 =>
                      .br 0 (r828.2 != 0)
                      (.done false)
                      (.tt (.call 24003 (s40 r828.1 0 0 1 r788 ByteArray.empty) [] [] fun r829 =>
                        .br 0 (r829.2 != 0)
                        (.done false)
                        (.tt (.call 24003 (s40 r829.1 0 0 1 r788 ByteArray.empty) [] [] fun r830 =>
                          .br 0 (r830.2 != 0)
                          (.done false)
                          (.tt (.call 24003 (s40 r830.1 0 0 1 r788 ByteArray.empty) [] [] fun r831 =>
                            .br 0 (r831.2 != 0)
                            (.done false)
                            (.tt (.call 24003 (s40 r831.1 0 0 1 r788 ByteArray.empty) [] [] fun r832 =>
                              .br 0 (r832.2 != 0)
                              (.done false)
                              (.tt (.call 24003 (s40 r832.1 0 0 1 r788 ByteArray.empty) [] [] fun r833 =>
                                .br 0 (r833.2 != 0)
                                (.done false)
                                (.tt (.call 24003 (s40 r833.1 0 0 1 r788 ByteArray.empty) [] [] fun r834 =>
                                  .br 0 (r834.2 != 0)
                                  (.done false)
                                  (.tt (.call 24003 (s40 r834.1 0 0 1 r788 ByteArray.empty) [] [] fun r835 =>
                                    .br 0 (r835.2 != 0)
                                    (.done false)
                                    (.tt (.call 24003 (s40 r835.1 0 0 1 r788 ByteArray.empty) [] [] fun r836 =>
                                      .br 0 (r836.2 != 0)
                                      (.done false)
                                      (.tt (.call 24003 (s40 r836.1 0 0 1 r788 ByteArray.empty) [] [] fun r837 =>
                                        .br 0 (r837.2 != 0)
                                        (.done false)
                                        (.tt (.call 24003 (s40 r837.1 0 0 1 r788 ByteArray.empty) [] [] fun r838 =>
                                          .br 0 (r838.2 != 0)
                                          (.done false)
                                          (.tt (.call 24003 (s40 r838.1 0 0 1 r788 ByteArray.empty) [] [] fun r839 =>
                                            .br 0 (r839.2 != 0)
                                            (.done false)
                                            (.tt (.call 24003 (s40 r839.1 0 0 1 r788 ByteArray.empty) [] [] fun r840 =>
                                              .br 0 (r840.2 != 0)
                                              (.done false)
                                              (.tt (.call 24003 (s40 r840.1 0 0 1 r788 ByteArray.empty) [] [] fun r841 =>
                                                .br 0 (r841.2 != 0)
                                                (.done false)
                                                (.tt (.call 24003 (s40 r841.1 0 0 1 r788 ByteArray.empty) [] [] fun r842 =>
                                                  .br 0 (r842.2 != 0)
                                                  (.done false)
                                                  (.tt (.call 24003 (s40 r842.1 0 0 1 r788 ByteArray.empty) [] [] fun r843 =>
                                                    .br 0 (r843.2 != 0)
                                                    (.done false)
                                                    (.tt (.call 24003 (s40 r843.1 0 0 1 r788 ByteArray.empty) [] [] fun r844 =>
                                                      .br 0 (r844.2 != 0)
                                                      (.done false)
                                                      (.tt (.call 24003 (s40 r844.1 0 0 1 r788 ByteArray.empty) [] [] fun r845 =>
                                                        .br 0 (r845.2 != 0)
                                                        (.done false)
                                                        (.tt (.call 24003 (s40 r845.1 0 0 1 r788 ByteArray.empty) [] [] fun r846 =>
                                                          .br 0 (r846.2 != 0)
                                                          (.done false)
                                                          (.tt (.call 24003 (s40 r846.1 0 0 1 r788 ByteArray.empty) [] [] fun r847 =>
                                                            .br 0 (r847.2 != 0)
                                                            (.done false)
                                                            (.tt (.call 24003 (s40 r847.1 0 0 1 r788 ByteArray.empty) [] [] fun r848 =>
                                                              .br 0 (r848.2 != 0)
                                                              (.done false)
                                                              (.tt (.call 24003 (s40 r848.1 0 0 1 r788 ByteArray.empty) [] [] fun r849 =>
                                                                .br 0 (r849.2 != 0)
                                                                (.done false)
                                                                (.tt (.call 24003 (s40 r849.1 0 0 1 r788 ByteArray.empty) [] [] fun r850 =>
                                                                  .br 0 (r850.2 != 0)
                                                                  (.done false)
                                                                  (.tt (.call 24003 (s40 r850.1 0 0 1 r788 ByteArray.empty) [] [] fun r851 =>
                                                                    .br 0 (r851.2 != 0)
                                                                    (.done false)
                                                                    (.tt (.call 24003 (s40 r851.1 0 0 1 r788 ByteArray.empty) [] [] fun r852 =>
                                                                      .br 0 (r852.2 != 0)
                                                                      (.done false)
                                                                      (.tt (.call 24003 (s40 r852.1 0 0 1 r788 ByteArray.empty) [] [] fun r853 =>
                                                                        .br 0 (r853.2 != 0)
                                                                        (.done false)
                                                                        (.tt (.call 24003 (s40 r853.1 0 0 1 r788 ByteArray.empty) [] [] fun r854 =>
                                                                          .br 0 (r854.2 != 0)
                                                                          (.done false)
                                                                          (.tt (.call 24003 (s40 r854.1 0 0 1 r788 ByteArray.empty) [] [] fun r855 =>
                                                                            .br 0 (r855.2 != 0)
                                                                            (.done false)
                                                                            (.tt (.call 24003 (s40 r855.1 0 0 1 r788 ByteArray.empty) [] [] fun r856 =>
                                                                              .br 0 (r856.2 != 0)
                                                                              (.done false)
                                                                              (.tt (.call 24003 (s40 r856.1 0 0 1 r788 ByteArray.empty) [] [] fun r857 =>
                                                                                .br 0 (r857.2 != 0)
                                                                                (.done false)
                                                                                (.tt (.call 24003 (s40 r857.1 0 0 1 r788 ByteArray.empty) [] [] fun r858 =>
                                                                                  .br 0 (r858.2 != 0)
                                                                                  (.done false)
                                                                                  (.tt (.call 24003 (s40 r858.1 0 0 1 r788 ByteArray.empty) [] [] fun r859 =>
                                                                                    .br 0 (r859.2 != 0)
                                                                                    (.done false)
                                                                                    (.tt (.call 24003 (s40 r859.1 0 0 1 r788 ByteArray.empty) [] [] fun r860 =>
                                                                                      .br 0 (r860.2 != 0)
                                                                                      (.done false)
                                                                                      (.tt (.call 24003 (s40 r860.1 0 0 1 r788 ByteArray.empty) [] [] fun r861 =>
                                                                                        .br 0 (r861.2 != 0)
                                                                                        (.done false)
                                                                                        (.tt (.call 24003 (s40 r861.1 0 0 1 r788 ByteArray.empty) [] [] fun r862 =>
                                                                                          .br 0 (r862.2 != 0)
                                                                                          (.done false)
                                                                                          (.tt (.call 24003 (s40 r862.1 0 0 1 r788 ByteArray.empty) [] [] fun r863 =>
                                                                                            .br 0 (r863.2 != 0)
                                                                                            (.done false)
                                                                                            (.tt (.call 24003 (s40 r863.1 0 0 1 r788 ByteArray.empty) [] [] fun r864 =>
                                                                                              .br 0 (r864.2 != 0)
                                                                                              (.done false)
                                                                                              (.tt (.call 24003 (s40 r864.1 0 0 1 r788 ByteArray.empty) [] [] fun r865 =>
                                                                                                .br 0 (r865.2 != 0)
                                                                                                (.done false)
                                                                                                (.tt (.call 24003 (s40 r865.1 0 0 1 r788 ByteArray.empty) [] [] fun r866 =>
                                                                                                  .br 0 (r866.2 != 0)
                                                                                                  (.done false)
                                                                                                  (.tt (.call 24003 (s40 r866.1 0 0 1 r788 ByteArray.empty) [] [] fun r867 =>
                                                                                                    .br 0 (r867.2 != 0)
                                                                                                    (.done false)
                                                                                                    (.tt (.call 24003 (s40 r867.1 0 0 1 r788 ByteArray.empty) [] [] fun r868 =>
                                                                                                      .br 0 (r868.2 != 0)
                                                                                                      (.done false)
                                                                                                      (.tt (.call 24003 (s40 r868.1 0 0 1 r788 ByteArray.empty) [] [] fun r869 =>
                                                                                                        .br 0 (r869.2 != 0)
                                                                                                        (.done false)
                                                                                                        (.tt (.call 24003 (s40 r869.1 0 0 1 r788 ByteArray.empty) [] [] fun r870 =>
                                                                                                          .br 0 (r870.2 != 0)
                                                                                                          (.done false)
                                                                                                          (.tt (.call 24003 (s40 r870.1 0 0 1 r788 ByteArray.empty) [] [] fun r871 =>
                                                                                                            .br 0 (r871.2 != 0)
                                                                                                            (.done false)
                                                                                                            (.tt (.call 24003 (s40 r871.1 0 0 1 r788 ByteArray.empty) [] [] fun r872 =>
                                                                                                              .br 0 (r872.2 != 0)
                                                                                                              (.done false)
                                                                                                              (.tt (.call 24003 (s40 r872.1 0 0 1 r788 ByteArray.empty) [] [] fun r873 =>
                                                                                                                .br 0 (r873.2 != 0)
                                                                                                                (.done false)
                                                                                                                (.tt (.call 24003 (s40 r873.1 0 0 1 r788 ByteArray.empty) [] [] fun r874 =>
                                                                                                                  .br 0 (r874.2 != 0)
                                                                                                                  (.done false)
                                                                                                                  (.tt (.call 24003 (s40 r874.1 0 0 1 r788 ByteArray.empty) [] [] fun r875 =>
                                                                                                                    .br 0 (r875.2 != 0)
                                                                                                                    (.done false)
                                                                                                                    (.tt (.call 24003 (s40 r875.1 0 0 1 r788 ByteArray.empty) [] [] fun r876 =>
                                                                                                                      .br 0 (r876.2 != 0)
                                                                                                                      (.done false)
                                                                                                                      (.tt (.call 24003 (s40 r876.1 0 0 1 r788 ByteArray.empty) [] [] fun r877 =>
                                                                                                                        .br 0 (r877.2 != 0)
                                                                                                                        (.done false)
                                                                                                                        (.tt (.call 24003 (s40 r877.1 0 0 1 r788 ByteArray.empty) [] [] fun r878 =>
                                                                                                                          .br 0 (r878.2 != 0)
                                                                                                                          (.done false)
                                                                                                                          (.tt (.call 24003 (s40 r878.1 0 0 1 r788 ByteArray.empty) [] [] fun r879 =>
                                                                                                                            .br 0 (r879.2 != 0)
                                                                                                                            (.done false)
                                                                                                                            (.tt (.call 24003 (s40 r879.1 0 0 1 r788 ByteArray.empty) [] [] fun r880 =>
                                                                                                                              .br 0 (r880.2 != 0)
                                                                                                                              (.done false)
                                                                                                                              (.tt (.call 24003 (s40 r880.1 0 0 1 r788 ByteArray.empty) [] [] fun r881 =>
                                                                                                                                .br 0 (r881.2 != 0)
                                                                                                                                (.done false)
                                                                                                                                (.tt (.call 24003 (s40 r881.1 0 0 1 r788 ByteArray.empty) [] [] fun r882 =>
                                                                                                                                  .br 0 (r882.2 != 0)
                                                                                                                                  (.done false)
                                                                                                                                  (.ff (.call 28003 (s40 r882.1 0 0 1 r788 ByteArray.empty) [] [] fun r883 =>
                                                                                                                                    .call 29001 s50 [] [] fun r884 =>
                                                                                                                                    .call 29003 (s40 r884 1099511627767 0 1 r788 ByteArray.empty) [] [] fun r885 =>
                                                                                                                                    .call 30001 s50 [] [] fun r886 =>
                                                                                                                                    .call 30003 (s40 r886 1099511627766 0 1 r788 ByteArray.empty) [] [] fun r887 =>
                                                                                                                                    .cnd 31 [232]
                                                                                                                                    (.br 31006 ((mlen tySFlight r882.1.fQueue) != 64)
                                                                                                                                      (.done true)
                                                                                                                                      (.br 31010 (r883.2 != 0)
                                                                                                                                        (.done true)
                                                                                                                                        (.br 31016 ((mlen tySFlight r883.1.fQueue) != 64)
                                                                                                                                          (.done true)
                                                                                                                                          (.br 31021 (r883.1.fSerial != 64)
                                                                                                                                            (.done true)
                                                                                                                                            (.br 31027 ((mlen tySHost1 r883.1.fHosts) != 3)
                                                                                                                                              (.done true)
                                                                                                                                              (.row 31029 tySHost1 r883.1.fHosts 0 true fun x888 =>
                                                                                                                                                .br 31035 (x888.fCount != 65)
                                                                                                                                                (.done true)
                                                                                                                                                (.br 31039 (r885.2 != 0)
                                                                                                                                                  (.done true)
                                                                                                                                                  (.br 31045 ((mlen tySFlight r885.1.fQueue) != 0)
                                                                                                                                                    (.done true)
                                                                                                                                                    (.br 31049 (r887.2 != 0)
                                                                                                                                                      (.done true)
                                                                                                                                                      (.done ((mlen tySFlight r887.1.fQueue) != 1)))))))))))
                                                                                                                                    (fun (c889 : Bool) => [.bool c889]) fun c889 =>
                                                                                                                                    .br 0 c889
                                                                                                                                    (.done false)
                                                                                                                                    (.opr 33018 (Rule.makeNums (ty := ty_u8) (t := 57) (e := 5) (k := .u8) (.const (.int .i64 1201)) (.const (.int .i64 1201)) 250 1201 1 (by kernel_rfl) (by kernel_rfl) (by kernel_rfl) (by decide) (fun _ => rfl)) fun _ =>
                                                                                                                                      .opr 33019 (Rule.textOf (ty := ty_u8) (s := 57) (t := 9) (e := 5) (.tmp 250) 251 250 (List.replicate 1201 (0 : Int)) 1201 (by kernel_rfl) (by kernel_rfl) (by kernel_rfl) (by simp) (fun _ => rfl)) fun _ =>
                                                                                                                                      .tt (.call 36003 (s51 (SBend1.mk 0 0 0 (bs [97, 98, 99]) (SAddr.mk ByteArray.empty 0) (SBend.mk 0 0 0 (SAddr.mk ByteArray.empty 0) ByteArray.empty)) r882.1) [] [] fun r890 =>
                                                                                                                                      .call 36004 (s43 r890) [] [] fun r891 =>
                                                                                                                                      .br 0 (r891 != 140)
                                                                                                                                      (.done false)
                                                                                                                                      (.tt (.gh 37 (.drop [47]) (.call 36003 (s51 (SBend1.mk 0 0 0 r787.fHost (SAddr.mk ByteArray.empty 0) (SBend.mk 0 0 0 (SAddr.mk ByteArray.empty 0) ByteArray.empty)) r882.1) [] [] fun r892 =>
                                                                                                                                        .call 36004 (s43 r892) [] [] fun r893 =>
                                                                                                                                        .br 0 (r893 != 140)
                                                                                                                                        (.done false)
                                                                                                                                        (.tt (.gh 37 (.drop [47]) (.call 36003 (s51 (SBend1.mk 1 0 1 ByteArray.empty (SAddr.mk ByteArray.empty 0) (SBend.mk 0 0 0 (SAddr.mk ByteArray.empty 0) ByteArray.empty)) r882.1) [] [] fun r894 =>
                                                                                                                                          .call 36004 (s43 r894) [] [] fun r895 =>
                                                                                                                                          .br 0 (r895 != 140)
                                                                                                                                          (.done false)
                                                                                                                                          (.tt (.gh 37 (.drop [47]) (.call 36003 (s51 (SBend1.mk 1 0 (-2) ByteArray.empty (SAddr.mk ByteArray.empty 0) (SBend.mk 0 0 0 (SAddr.mk ByteArray.empty 0) ByteArray.empty)) r882.1) [] [] fun r896 =>
                                                                                                                                            .call 36004 (s43 r896) [] [] fun r897 =>
                                                                                                                                            .br 0 (r897 != 140)
                                                                                                                                            (.done false)
                                                                                                                                            (.tt (.gh 37 (.drop [47]) (.call 36003 (s51 (SBend1.mk 2 0 10001 ByteArray.empty (SAddr.mk ByteArray.empty 0) (SBend.mk 0 0 0 (SAddr.mk ByteArray.empty 0) ByteArray.empty)) r882.1) [] [] fun r898 =>
                                                                                                                                              .call 36004 (s43 r898) [] [] fun r899 =>
                                                                                                                                              .br 0 (r899 != 140)
                                                                                                                                              (.done false)
                                                                                                                                              (.tt (.gh 37 (.drop [47]) (.call 36003 (s51 (SBend1.mk 3 0 101 ByteArray.empty (SAddr.mk ByteArray.empty 0) (SBend.mk 0 0 0 (SAddr.mk ByteArray.empty 0) ByteArray.empty)) r882.1) [] [] fun r900 =>
                                                                                                                                                .call 36004 (s43 r900) [] [] fun r901 =>
                                                                                                                                                .br 0 (r901 != 140)
                                                                                                                                                (.done false)
                                                                                                                                                (.tt (.gh 37 (.drop [47]) (.call 36003 (s51 (SBend1.mk 4 0 (-1) ByteArray.empty (SAddr.mk ByteArray.empty 0) (SBend.mk 0 0 0 (SAddr.mk ByteArray.empty 0) ByteArray.empty)) r882.1) [] [] fun r902 =>
                                                                                                                                                  .call 36004 (s43 r902) [] [] fun r903 =>
                                                                                                                                                  .br 0 (r903 != 140)
                                                                                                                                                  (.done false)
                                                                                                                                                  (.tt (.gh 37 (.drop [47]) (.call 36003 (s51 (SBend1.mk 5 0 0 ByteArray.empty (SAddr.mk ByteArray.empty 0) (SBend.mk 0 0 0 (SAddr.mk ByteArray.empty 0) ByteArray.empty)) r882.1) [] [] fun r904 =>
                                                                                                                                                    .call 36004 (s43 r904) [] [] fun r905 =>
                                                                                                                                                    .br 0 (r905 != 140)
                                                                                                                                                    (.done false)
                                                                                                                                                    (.tt (.gh 37 (.drop [47]) (.call 36003 (s51 (SBend1.mk 8 0 0 ByteArray.empty (SAddr.mk ByteArray.empty 0) (SBend.mk 0 0 0 (SAddr.mk ByteArray.empty 0) ByteArray.empty)) r882.1) [] [] fun r906 =>
                                                                                                                                                      .call 36004 (s43 r906) [] [] fun r907 =>
                                                                                                                                                      .br 0 (r907 != 140)
                                                                                                                                                      (.done false)
                                                                                                                                                      (.tt (.gh 37 (.drop [47]) (.call 36003 (s51 (SBend1.mk 9 0 (-1) ByteArray.empty (SAddr.mk ByteArray.empty 0) (SBend.mk 0 0 0 (SAddr.mk ByteArray.empty 0) ByteArray.empty)) r882.1) [] [] fun r908 =>
                                                                                                                                                        .call 36004 (s43 r908) [] [] fun r909 =>
                                                                                                                                                        .br 0 (r909 != 140)
                                                                                                                                                        (.done false)
                                                                                                                                                        (.tt (.gh 37 (.drop [47]) (.call 36003 (s51 (SBend1.mk 10 0 65 ByteArray.empty (SAddr.mk ByteArray.empty 0) (SBend.mk 0 0 0 (SAddr.mk ByteArray.empty 0) ByteArray.empty)) r882.1) [] [] fun r910 =>
                                                                                                                                                          .call 36004 (s43 r910) [] [] fun r911 =>
                                                                                                                                                          .br 0 (r911 != 140)
                                                                                                                                                          (.done false)
                                                                                                                                                          (.tt (.gh 37 (.drop [47]) (.call 36003 (s51 (SBend1.mk 11 0 1 ByteArray.empty (SAddr.mk ByteArray.empty 0) (SBend.mk 0 0 0 (SAddr.mk ByteArray.empty 0) ByteArray.empty)) r882.1) [] [] fun r912 =>
                                                                                                                                                            .call 36004 (s43 r912) [] [] fun r913 =>
                                                                                                                                                            .br 0 (r913 != 140)
                                                                                                                                                            (.done false)
                                                                                                                                                            (.tt (.gh 37 (.drop [47]) (.call 36003 (s51 (SBend1.mk 13 0 0 ByteArray.empty (SAddr.mk ByteArray.empty 0) (SBend.mk 0 0 0 (SAddr.mk ByteArray.empty 0) ByteArray.empty)) r882.1) [] [] fun r914 =>
                                                                                                                                                              .call 36004 (s43 r914) [] [] fun r915 =>
                                                                                                                                                              .br 0 (r915 != 140)
                                                                                                                                                              (.done false)
                                                                                                                                                              (.tt (.gh 37 (.drop [47]) (.call 36003 (s51 (SBend1.mk 14 0 0 ByteArray.empty (SAddr.mk (bs [48, 49, 50, 51, 52, 53, 54, 55, 56, 57, 97, 98, 99, 100, 101, 102]) 1) (SBend.mk 0 0 0 (SAddr.mk ByteArray.empty 0) ByteArray.empty)) r882.1) [] [] fun r916 =>
                                                                                                                                                                .call 36004 (s43 r916) [] [] fun r917 =>
                                                                                                                                                                .br 0 (r917 != 140)
                                                                                                                                                                (.done false)
                                                                                                                                                                (.tt (.gh 37 (.drop [47]) (.call 36003 (s51 (SBend1.mk 15 0 0 (strOfNums (List.replicate 1201 (0 : Int))) (SAddr.mk ByteArray.empty 0) (SBend.mk 0 0 0 (SAddr.mk ByteArray.empty 0) ByteArray.empty)) r882.1) [] [] fun r918 =>
                                                                                                                                                                  .call 36004 (s43 r918) [] [] fun r919 =>
                                                                                                                                                                  .br 0 (r919 != 140)
                                                                                                                                                                  (.done false)
                                                                                                                                                                  (.tt (.gh 37 (.drop [47]) (.call 36003 (s51 (SBend1.mk 16 0 (-1) ByteArray.empty (SAddr.mk ByteArray.empty 0) (SBend.mk 0 0 0 (SAddr.mk ByteArray.empty 0) ByteArray.empty)) r882.1) [] [] fun r920 =>
                                                                                                                                                                    .call 36004 (s43 r920) [] [] fun r921 =>
                                                                                                                                                                    .br 0 (r921 != 140)
                                                                                                                                                                    (.done false)
                                                                                                                                                                    (.tt (.gh 37 (.drop [47]) (.call 36003 (s51 (SBend1.mk 17 0 63 ByteArray.empty (SAddr.mk ByteArray.empty 0) (SBend.mk 0 0 0 (SAddr.mk ByteArray.empty 0) ByteArray.empty)) r882.1) [] [] fun r922 =>
                                                                                                                                                                      .call 36004 (s43 r922) [] [] fun r923 =>
                                                                                                                                                                      .br 0 (r923 != 140)
                                                                                                                                                                      (.done false)
                                                                                                                                                                      (.ff (.cnd 39 [48]
                                                                                                                                                                        (.br 39004 (r804.2 == 4)
                                                                                                                                                                          (.br 39008 (r806.2 == 2)
                                                                                                                                                                            (.br 39012 (r808.2.2 == 2)
                                                                                                                                                                              (.br 39016 (r810.2 == 2)
                                                                                                                                                                                (.br 39020 (r813.2 == 2)
                                                                                                                                                                                  (.br 39024 (r815.2 == 3)
                                                                                                                                                                                    (.done (r817.2.2 == 4))
                                                                                                                                                                                    (.done false))
                                                                                                                                                                                  (.done false))
                                                                                                                                                                                (.done false))
                                                                                                                                                                              (.done false))
                                                                                                                                                                            (.done false))
                                                                                                                                                                          (.done false))
                                                                                                                                                                        (fun (c924 : Bool) => [.bool c924]) fun c924 =>
                                                                                                                                                                        .cnd 40 [0]
                                                                                                                                                                        (.br 40003 c924
                                                                                                                                                                          (.br 40007 (r790.2 == 0)
                                                                                                                                                                            (.br 40011 (r791.2.2 == 0)
                                                                                                                                                                              (.br 40015 (r792.2 == 0)
                                                                                                                                                                                (.br 40019 (r793.2.2 == 0)
                                                                                                                                                                                  (.call 40021 (s49 10 0 0 1 5000) [] [] fun r925 =>
                                                                                                                                                                                    .br 40026 ((r793.2.1.fHost == 1) && ((decide (r793.2.1.fFrom.fHost = r788.fHost)) && ((r793.2.1.fFrom.fPort == r788.fPort) && ((decide (r793.2.1.fTo.fHost = r925.fHost)) && ((r793.2.1.fTo.fPort == r925.fPort) && ((decide (r793.2.1.fData = (bs [121]))) && true))))))
                                                                                                                                                                                    (.br 40030 (r795.2 == 0)
                                                                                                                                                                                      (.br 40034 (r796.2.2 == 0)
                                                                                                                                                                                        (.br 40039 (r796.2.1.fHost == (-1))
                                                                                                                                                                                          (.br 40043 (r799.2 == 0)
                                                                                                                                                                                            (.br 40047 (r801.2 == 0)
                                                                                                                                                                                              (.br 40051 (r802.2.2 == 0)
                                                                                                                                                                                                (.call 40052 (s49 10 0 0 2 7) [] [] fun r926 =>
                                                                                                                                                                                                  .call 40053 (s49 10 0 0 1 9) [] [] fun r927 =>
                                                                                                                                                                                                  .view 40056 (s45 r802.2.1 [(SDelivery.mk 1 r926 r927 (bs [122]))]) [] fun r928 =>
                                                                                                                                                                                                  .done r928)
                                                                                                                                                                                                (.done false))
                                                                                                                                                                                              (.done false))
                                                                                                                                                                                            (.done false))
                                                                                                                                                                                          (.done false))
                                                                                                                                                                                        (.done false))
                                                                                                                                                                                      (.done false))
                                                                                                                                                                                    (.done false))
                                                                                                                                                                                  (.done false))
                                                                                                                                                                                (.done false))
                                                                                                                                                                              (.done false))
                                                                                                                                                                            (.done false))
                                                                                                                                                                          (.done false))
                                                                                                                                                                        (fun (c929 : Bool) => [.bool c929]) fun c929 =>
                                                                                                                                                                        .done c929))))))))))))))))))))))))))))))))))))))))))))))))))))))))))))))))))))))))))))))))))))))))))))))))))))))))))))))))))))))))))))))))))))))))))))))))))))))))))))))))))))))))))))))))))))))
theorem k15  : FnD Tryd.prog GG [0, 1, 2, 3, 4, 6, 7, 9, 10, 11, 12, 14, 15, 16, 17, 18, 20, 21, 23, 25, 28, 30, 32, 34, 37, 38, 39, 40, 41, 42, 43, 44, 45, 47, 48, 50, 151, 152, 160, 232, 255, 256, 257, 258, 265] Tryd.f15 [] (g15) (fun r => .bool r) := by unfold FnD; kernel_rfl
noncomputable def s15  : EV.Spec Tryd.prog GG (Bool) := .ofFn 15 mixed Tryd.func15 (k15)
end Go.Proofs.YtdiagiflihpidaaDoor
namespace Go.Proofs.YtdiagiflihpidaaDoor
open Go Go.EV
set_option maxRecDepth 100000
theorem fuel {n : Nat} (h : n ≤ 140737488355329) : n < FUEL := by unfold FUEL; omega
end Go.Proofs.YtdiagiflihpidaaDoor
namespace Go.Proofs.YtdiagiflihpidaaDoor
open Go Go.EV
set_option maxRecDepth 100000
end Go.Proofs.YtdiagiflihpidaaDoor
namespace Go.Proofs.YtdiagiflihpidaaDoor
open Go Go.EV
set_option maxRecDepth 100000
end Go.Proofs.YtdiagiflihpidaaDoor
namespace Go.Proofs.YtdiagiflihpidaaDoor
open Go Go.EV
set_option maxRecDepth 100000
end Go.Proofs.YtdiagiflihpidaaDoor
namespace Go.Proofs.YtdiagiflihpidaaDoor
open Go Go.EV
set_option maxRecDepth 100000
end Go.Proofs.YtdiagiflihpidaaDoor
namespace Go.Proofs.YtdiagiflihpidaaDoor
open Go Go.EV
set_option maxRecDepth 100000
end Go.Proofs.YtdiagiflihpidaaDoor
namespace Go.Proofs.YtdiagiflihpidaaDoor
open Go Go.EV
set_option maxRecDepth 100000
end Go.Proofs.YtdiagiflihpidaaDoor
namespace Go.Proofs.YtdiagiflihpidaaDoor
open Go Go.EV
set_option maxRecDepth 100000
def first (n : SNat) (own : Int) : Int := if n.fLow ≤ own ∧ own ≤ n.fHigh then own else n.fLow
end Go.Proofs.YtdiagiflihpidaaDoor
namespace Go.Proofs.YtdiagiflihpidaaDoor
open Go Go.EV
set_option maxRecDepth 100000
section
variable {P : Program} {G : Nat → Option (List V)} {ρ : Type} {Q : ρ → Prop} {id : Nat} {A B C D E : T P G ρ}
end
end Go.Proofs.YtdiagiflihpidaaDoor
namespace Go.Proofs.YtdiagiflihpidaaDoor
open Go Go.EV
set_option maxRecDepth 100000
end Go.Proofs.YtdiagiflihpidaaDoor
namespace Go.Proofs.YtdiagiflihpidaaDoor
open Go Go.EV
set_option maxRecDepth 100000
end Go.Proofs.YtdiagiflihpidaaDoor
namespace Go.Proofs.YtdiagiflihpidaaDoor
open Go Go.EV
set_option maxRecDepth 100000
def place (h : SHost1) : Int × ByteArray := (h.fNat, h.fIp)
end Go.Proofs.YtdiagiflihpidaaDoor
namespace Go.Proofs.YtdiagiflihpidaaDoor
open Go Go.EV
set_option maxRecDepth 100000
section
variable {P : Program} {G : Nat → Option (List V)} {ρ : Type} {Q : ρ → Prop}
theorem Ok.opr {β : Type} {a : Nat} {R : Rule P G β} {k : β → T P G ρ} {r : β} (hr : R.o = some r) (h : Ok (k r) Q) : Ok (.opr a R k) Q := by
 obtain ⟨x, e, hq⟩ := h
 exact ⟨x, by simp only [T.run, hr]; exact e, hq⟩
theorem Ok.brF {a : Nat} {c : Bool} {x y : T P G ρ} (hc : c = false) (h : Ok y Q) : Ok (.br a c x y) Q := Ok.br (fun e => by rw [hc] at e; simp at e) fun _ => h
end
end Go.Proofs.YtdiagiflihpidaaDoor
