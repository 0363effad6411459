/- Guides and contracts, printed by a program.
   Guides and contracts, printed by a program.
   Guides and contracts, printed by a program.
   Guides and contracts, printed by a program.
   What the functions of nat and of its reference say of a NAT's validity: one condition for both. Conditions: lists no longer than a machine holds.
   What nat and its reference say of whole NATs: one condition, Valid, for both. Conditions: lists no longer than a machine holds.
   What the reference says of whole NATs. Conditions: lists no longer than a machine holds.
   Errors, Check, start, Expire, At and Same of a NAT. Conditions: lists no longer than a machine holds.
   The NATs that the laws look at: they come to be, and are small. Conditions: a number of eight bits is one.
   Small facts of tables. No conditions. -/
import Derived.Test.YtdiagiflihpidaaDoorV9
import Derived.Test.YtdiagiflihpidaaDoorV7
import Derived.KernelRfl
namespace Go.Proofs.YtdiagiflihpidaaDoor
open Go Go.EV
set_option maxRecDepth 100000
noncomputable def g66 (p0 : SNetwork) (p1 : Int) (p2 : ByteArray) : TT (Int) :=
 .bind2 1
 (.lp (fun (l420 : Int) => Ext.lit .normal [(1, .int .i64 p1), (2, .str p2), (3, .ptr 3 0 0), (6, .int .i64 0), (7, .int .i64 l420)] [(3, ⟨5, true, [[.sl false 5 (List.map tySHost1.c p0.fHosts), .sl false 9 (List.map tySNat.c p0.fNats), .sl false 9 (List.map tySFlight.c p0.fQueue), .int .i64 p0.fNow, .int .i64 p0.fSerial]]⟩)])
  (fun l420 =>
   .br 0 (decide (l420 < (mlen tySHost1 p0.fHosts)))
   (.cnd 4 [32]
    (.row 4004 tySHost1 p0.fHosts l420.toNat (decide (0 ≤ l420)) fun x421 =>
     .br 4010 (x421.fNat == p1)
     (.row 4013 tySHost1 p0.fHosts l420.toNat (decide (0 ≤ l420)) fun x422 =>
      .done (decide (x422.fIp = p2)))
     (.done false))
    (fun (c423 : Bool) => [.bool c423]) fun c423 =>
    .br 0 c423
    (.done (.inr (.inl l420)))
    (.done (.inl (wi64 (l420 + 1)))))
   (.done (.inr (.inr ()))))
  0)
 (fun (e424 : Int) => Ext.lit .ret [(6, .int .i64 e424)] [])
 (fun (_ : Unit) => Ext.lit (.exit 0) [(6, .int .i64 0)] [])
 (fun e424 =>
  .done e424)
 (fun _ =>
  .done (-1))
theorem k66 (p0 : SNetwork) (p1 : Int) (p2 : ByteArray) : FnD Tryd.prog GG [0, 1, 2, 3, 6, 7, 12, 32] Tryd.f66 [.agg [.sl false 5 (List.map tySHost1.c p0.fHosts), .sl false 9 (List.map tySNat.c p0.fNats), .sl false 9 (List.map tySFlight.c p0.fQueue), .int .i64 p0.fNow, .int .i64 p0.fSerial], .int .i64 p1, .str p2] (g66 p0 p1 p2) (fun r => .int .i64 r) := by unfold FnD; kernel_rfl
noncomputable def s66 (p0 : SNetwork) (p1 : Int) (p2 : ByteArray) : EV.Spec Tryd.prog GG (Int) := .ofFn 66 mixed Tryd.func66 (k66 p0 p1 p2)
noncomputable def g98 (p0 : Int) (p1 : Int) (p2 : Int) : TT (Bool) :=
 .cnd 1 [6]
 (.br 1005 (decide (p1 ≤ p0))
  (.done (decide (p0 ≤ p2)))
  (.done false))
 (fun (c426 : Bool) => [.bool c426]) fun c426 =>
 .done c426
theorem k98 (p0 : Int) (p1 : Int) (p2 : Int) : FnD Tryd.prog GG [0, 1, 2, 6] Tryd.f98 [.int .i64 p0, .int .i64 p1, .int .i64 p2] (g98 p0 p1 p2) (fun r => .bool r) := by unfold FnD; kernel_rfl
noncomputable def s98 (p0 : Int) (p1 : Int) (p2 : Int) : EV.Spec Tryd.prog GG (Bool) := .ofFn 98 mixed Tryd.func98 (k98 p0 p1 p2)
noncomputable def g121 (p0 : SNetwork) : TT (Bool) :=
 .row 1003 tySHost1 p0.fHosts 0 true fun x427 =>
 .cnd 2 [22]
 (.br 2004 ((x427.fIp.size : Int) != 4)
  (.done ((x427.fIp.size : Int) != 16))
  (.done false))
 (fun (c428 : Bool) => [.bool c428]) fun c428 =>
 .br 0 c428
 (.done false)
 (.bind2 1
  (.lp (fun (l453 : Int × Int) => Ext.lit .normal [(1, .ptr 1 0 0), (2, .bool false), (3, .int .i64 l453.1), (4, .int .i64 l453.2)] [(1, ⟨5, true, [[.sl false 5 (List.map tySHost1.c p0.fHosts), .sl false 9 (List.map tySNat.c p0.fNats), .sl false 9 (List.map tySFlight.c p0.fQueue), .int .i64 p0.fNow, .int .i64 p0.fSerial]]⟩)])
   (fun l453 =>
    .br 0 (decide (l453.2 < (mlen tySHost1 p0.fHosts)))
    (.row 7004 tySHost1 p0.fHosts l453.2.toNat (decide (0 ≤ l453.2)) fun x454 =>
     .cnd 8 [67]
     (.br 8007 ((x454.fIp.size : Int) != l453.1)
      (.done true)
      (.call 8013 (s98 x454.fNat (-1) (wi64 ((mlen tySNat p0.fNats) - 1))) [] [] fun r455 =>
       .br 8017 (!r455)
       (.done true)
       (.call 8019 (s98 x454.fDelay 0 10000) [] [] fun r456 =>
        .br 8023 (!r456)
        (.done true)
        (.call 8025 (s98 x454.fLose 0 100) [] [] fun r457 =>
         .br 8029 (!r457)
         (.done true)
         (.call 8031 (s98 x454.fCount 0 1099511627776) [] [] fun r458 =>
          .done (!r458))))))
     (fun (c459 : Bool) => [.bool c459]) fun c459 =>
     .br 0 c459
     (.done (.inr (.inl l453.1)))
     (.bind2 1
      (.lp (fun (l464 : Int) => Ext.lit .normal [(1, .ptr 1 0 0), (2, .bool false), (3, .int .i64 l453.1), (4, .int .i64 l453.2), (5, .ptr 5 0 0), (6, .int .i64 l464)] [(1, ⟨5, true, [[.sl false 5 (List.map tySHost1.c p0.fHosts), .sl false 9 (List.map tySNat.c p0.fNats), .sl false 9 (List.map tySFlight.c p0.fQueue), .int .i64 p0.fNow, .int .i64 p0.fSerial]]⟩), (5, ⟨5, true, [[.str x454.fIp, .int .i64 x454.fNat, .int .i64 x454.fDelay, .int .i64 x454.fLose, .int .i64 x454.fCount]]⟩)])
       (fun l464 =>
        .br 0 (decide (l464 < l453.2))
        (.cnd 13 [92]
         (.row 13004 tySHost1 p0.fHosts l464.toNat (decide (0 ≤ l464)) fun x465 =>
          .br 13011 (x465.fNat == x454.fNat)
          (.row 13014 tySHost1 p0.fHosts l464.toNat (decide (0 ≤ l464)) fun x466 =>
           .done (decide (x466.fIp = x454.fIp)))
          (.done false))
         (fun (c467 : Bool) => [.bool c467]) fun c467 =>
         .br 0 c467
         (.done (.inr (.inl ())))
         (.done (.inl (wi64 (l464 + 1)))))
        (.done (.inr (.inr ()))))
       0)
      (fun (_ : Unit) => Ext.lit .ret [(1, .ptr 1 0 0), (2, .bool false), (3, .int .i64 l453.1), (4, .int .i64 l453.2)] [(1, ⟨5, true, [[.sl false 5 (List.map tySHost1.c p0.fHosts), .sl false 9 (List.map tySNat.c p0.fNats), .sl false 9 (List.map tySFlight.c p0.fQueue), .int .i64 p0.fNow, .int .i64 p0.fSerial]]⟩)])
      (fun (_ : Unit) => Ext.lit (.exit 2) [(1, .ptr 1 0 0), (2, .bool false), (3, .int .i64 l453.1), (4, .int .i64 l453.2)] [(1, ⟨5, true, [[.sl false 5 (List.map tySHost1.c p0.fHosts), .sl false 9 (List.map tySNat.c p0.fNats), .sl false 9 (List.map tySFlight.c p0.fQueue), .int .i64 p0.fNow, .int .i64 p0.fSerial]]⟩)])
      (fun _ =>
       .done (.inr (.inl l453.1)))
      (fun _ =>
       .done (.inl (l453.1, (wi64 (l453.2 + 1)))))))
    (.done (.inr (.inr l453.1))))
   ((x427.fIp.size : Int), 0))
  (fun (e470 : Int) => Ext.lit .ret [(1, .ptr 1 0 0), (2, .bool false), (3, .int .i64 e470)] [(1, ⟨5, true, [[.sl false 5 (List.map tySHost1.c p0.fHosts), .sl false 9 (List.map tySNat.c p0.fNats), .sl false 9 (List.map tySFlight.c p0.fQueue), .int .i64 p0.fNow, .int .i64 p0.fSerial]]⟩)])
  (fun (e471 : Int) => Ext.lit (.exit 0) [(1, .ptr 1 0 0), (2, .bool false), (3, .int .i64 e471)] [(1, ⟨5, true, [[.sl false 5 (List.map tySHost1.c p0.fHosts), .sl false 9 (List.map tySNat.c p0.fNats), .sl false 9 (List.map tySFlight.c p0.fQueue), .int .i64 p0.fNow, .int .i64 p0.fSerial]]⟩)])
  (fun _ =>
   .done false)
  (fun e471 =>
   .bind2 1
   (.lp (fun (l482 : Int × Int) => Ext.lit .normal [(1, .ptr 1 0 0), (2, .bool false), (3, .int .i64 l482.1), (7, .int .i64 l482.2)] [(1, ⟨5, true, [[.sl false 5 (List.map tySHost1.c p0.fHosts), .sl false 9 (List.map tySNat.c p0.fNats), .sl false 9 (List.map tySFlight.c p0.fQueue), .int .i64 p0.fNow, .int .i64 p0.fSerial]]⟩)])
    (fun l482 =>
     .br 0 (decide (l482.2 < (mlen tySNat p0.fNats)))
     (.row 18004 tySNat p0.fNats l482.2.toNat (decide (0 ≤ l482.2)) fun x483 =>
      .cnd 19 [121]
      (.call 19002 (s53 x483) [] [] fun r484 =>
       .br 19005 (!r484)
       (.done true)
       (.br 19012 (decide (p0.fNow < x483.fNow))
        (.done true)
        (.done ((x483.fHost.size : Int) != l482.1))))
      (fun (c485 : Bool) => [.bool c485]) fun c485 =>
      .br 0 c485
      (.done (.inr (.inl ())))
      (.bind2 1
       (.lp (fun (l488 : Int) => Ext.lit .normal [(1, .ptr 1 0 0), (2, .bool false), (3, .int .i64 l482.1), (7, .int .i64 l482.2), (8, .ptr 8 0 0), (9, .int .i64 l488)] [(1, ⟨5, true, [[.sl false 5 (List.map tySHost1.c p0.fHosts), .sl false 9 (List.map tySNat.c p0.fNats), .sl false 9 (List.map tySFlight.c p0.fQueue), .int .i64 p0.fNow, .int .i64 p0.fSerial]]⟩), (8, ⟨9, true, [[.int .i64 x483.fMapping, .int .i64 x483.fFilter, .int .i64 x483.fTimeout, .bool x483.fHairpin, .str x483.fHost, .int .i64 x483.fLow, .int .i64 x483.fHigh, .int .i64 x483.fNow, .sl false 7 (List.map tySBinding.c x483.fTable)]]⟩)])
        (fun l488 =>
         .br 0 (decide (l488 < l482.2))
         (.row 24004 tySNat p0.fNats l488.toNat (decide (0 ≤ l488)) fun x489 =>
          .br 0 (decide (x489.fHost = x483.fHost))
          (.done (.inr (.inl (x483.fMapping, x483.fFilter, x483.fTimeout, x483.fHairpin, x483.fHost, x483.fLow, x483.fHigh, x483.fNow, x483.fTable))))
          (.done (.inl (wi64 (l488 + 1)))))
         (.done (.inr (.inr (x483.fMapping, x483.fFilter, x483.fTimeout, x483.fHairpin, x483.fHost, x483.fLow, x483.fHigh, x483.fNow, x483.fTable)))))
        0)
       (fun (e490 : Int × Int × Int × Bool × ByteArray × Int × Int × Int × (List SBinding)) => Ext.lit .ret [(1, .ptr 1 0 0), (2, .bool false), (3, .int .i64 l482.1), (7, .int .i64 l482.2), (8, .ptr 8 0 0)] [(1, ⟨5, true, [[.sl false 5 (List.map tySHost1.c p0.fHosts), .sl false 9 (List.map tySNat.c p0.fNats), .sl false 9 (List.map tySFlight.c p0.fQueue), .int .i64 p0.fNow, .int .i64 p0.fSerial]]⟩), (8, ⟨9, true, [[.int .i64 e490.1, .int .i64 e490.2.1, .int .i64 e490.2.2.1, .bool e490.2.2.2.1, .str e490.2.2.2.2.1, .int .i64 e490.2.2.2.2.2.1, .int .i64 e490.2.2.2.2.2.2.1, .int .i64 e490.2.2.2.2.2.2.2.1, .sl false 7 (List.map tySBinding.c e490.2.2.2.2.2.2.2.2)]]⟩)])
       (fun (e491 : Int × Int × Int × Bool × ByteArray × Int × Int × Int × (List SBinding)) => Ext.lit (.exit 6) [(1, .ptr 1 0 0), (2, .bool false), (3, .int .i64 l482.1), (7, .int .i64 l482.2), (8, .ptr 8 0 0)] [(1, ⟨5, true, [[.sl false 5 (List.map tySHost1.c p0.fHosts), .sl false 9 (List.map tySNat.c p0.fNats), .sl false 9 (List.map tySFlight.c p0.fQueue), .int .i64 p0.fNow, .int .i64 p0.fSerial]]⟩), (8, ⟨9, true, [[.int .i64 e491.1, .int .i64 e491.2.1, .int .i64 e491.2.2.1, .bool e491.2.2.2.1, .str e491.2.2.2.2.1, .int .i64 e491.2.2.2.2.2.1, .int .i64 e491.2.2.2.2.2.2.1, .int .i64 e491.2.2.2.2.2.2.2.1, .sl false 7 (List.map tySBinding.c e491.2.2.2.2.2.2.2.2)]]⟩)])
       (fun _ =>
        .done (.inr (.inl ())))
       (fun e491 =>
        .bind2 1
        (.lp (fun (l494 : Int) => Ext.lit .normal [(1, .ptr 1 0 0), (2, .bool false), (3, .int .i64 l482.1), (7, .int .i64 l482.2), (8, .ptr 8 0 0), (10, .int .i64 l494)] [(1, ⟨5, true, [[.sl false 5 (List.map tySHost1.c p0.fHosts), .sl false 9 (List.map tySNat.c p0.fNats), .sl false 9 (List.map tySFlight.c p0.fQueue), .int .i64 p0.fNow, .int .i64 p0.fSerial]]⟩), (8, ⟨9, true, [[.int .i64 e491.1, .int .i64 e491.2.1, .int .i64 e491.2.2.1, .bool e491.2.2.2.1, .str e491.2.2.2.2.1, .int .i64 e491.2.2.2.2.2.1, .int .i64 e491.2.2.2.2.2.2.1, .int .i64 e491.2.2.2.2.2.2.2.1, .sl false 7 (List.map tySBinding.c e491.2.2.2.2.2.2.2.2)]]⟩)])
         (fun l494 =>
          .br 0 (decide (l494 < (mlen tySHost1 p0.fHosts)))
          (.row 29004 tySHost1 p0.fHosts l494.toNat (decide (0 ≤ l494)) fun x495 =>
           .br 0 (decide (x495.fIp = e491.2.2.2.2.1))
           (.done (.inr (.inl ())))
           (.done (.inl (wi64 (l494 + 1)))))
          (.done (.inr (.inr ()))))
         0)
        (fun (_ : Unit) => Ext.lit .ret [(1, .ptr 1 0 0), (2, .bool false), (3, .int .i64 l482.1), (7, .int .i64 l482.2)] [(1, ⟨5, true, [[.sl false 5 (List.map tySHost1.c p0.fHosts), .sl false 9 (List.map tySNat.c p0.fNats), .sl false 9 (List.map tySFlight.c p0.fQueue), .int .i64 p0.fNow, .int .i64 p0.fSerial]]⟩)])
        (fun (_ : Unit) => Ext.lit (.exit 8) [(1, .ptr 1 0 0), (2, .bool false), (3, .int .i64 l482.1), (7, .int .i64 l482.2)] [(1, ⟨5, true, [[.sl false 5 (List.map tySHost1.c p0.fHosts), .sl false 9 (List.map tySNat.c p0.fNats), .sl false 9 (List.map tySFlight.c p0.fQueue), .int .i64 p0.fNow, .int .i64 p0.fSerial]]⟩)])
        (fun _ =>
         .done (.inr (.inl ())))
        (fun _ =>
         .done (.inl (l482.1, (wi64 (l482.2 + 1))))))))
     (.done (.inr (.inr ()))))
    (e471, 0))
   (fun (_ : Unit) => Ext.lit .ret [(2, .bool false)] [])
   (fun (_ : Unit) => Ext.lit (.exit 4) [(2, .bool false)] [])
   (fun _ =>
    .done false)
   (fun _ =>
    .done true)))
theorem k121 (p0 : SNetwork) : FnD Tryd.prog GG [0, 1, 2, 3, 4, 5, 6, 7, 8, 9, 10, 22, 27, 67, 70, 92, 97, 121, 124, 135, 140, 151] Tryd.f121 [.agg [.sl false 5 (List.map tySHost1.c p0.fHosts), .sl false 9 (List.map tySNat.c p0.fNats), .sl false 9 (List.map tySFlight.c p0.fQueue), .int .i64 p0.fNow, .int .i64 p0.fSerial]] (g121 p0) (fun r => .bool r) := by unfold FnD; kernel_rfl
noncomputable def s121 (p0 : SNetwork) : EV.Spec Tryd.prog GG (Bool) := .ofFn 121 mixed Tryd.func121 (k121 p0)
noncomputable def g97 (p0 : SNetwork) : TT (Bool) :=
  .cnd 1 [39]
  (.call 1004 (s98 (mlen tySHost1 p0.fHosts) 1 8) [] [] fun r500 =>
    .br 1007 (!r500)
    (.done true)
    (.br 1013 (decide ((4 : Int) < (mlen tySNat p0.fNats)))
      (.done true)
      (.br 1019 (decide ((64 : Int) < (mlen tySFlight p0.fQueue)))
        (.done true)
        (.call 1021 (s98 p0.fNow 0 1099511627776) [] [] fun r501 =>
          .br 1025 (!r501)
          (.done true)
          (.call 1027 (s98 p0.fSerial 0 1099511627776) [] [] fun r502 =>
            .br 1031 (!r502)
            (.done true)
            (.call 1032 (s121 p0) [] [] fun r503 =>
              .done (!r503)))))))
  (fun (c504 : Bool) => [.bool c504]) fun c504 =>
  .br 0 c504
  (.done false)
  (.row 3003 tySHost1 p0.fHosts 0 true fun x505 =>
    .bind2 1
    (.lp (fun (l517 : Int) => Ext.lit .normal [(1, .ptr 1 0 0), (2, .bool false), (3, .int .i64 (x505.fIp.size : Int)), (4, .int .i64 l517)] [(1, ⟨5, true, [[.sl false 5 (List.map tySHost1.c p0.fHosts), .sl false 9 (List.map tySNat.c p0.fNats), .sl false 9 (List.map tySFlight.c p0.fQueue), .int .i64 p0.fNow, .int .i64 p0.fSerial]]⟩)])
      (fun l517 =>
        .br 0 (decide (l517 < (mlen tySFlight p0.fQueue)))
        (.row 7004 tySFlight p0.fQueue l517.toNat (decide (0 ≤ l517)) fun x518 =>
          .cnd 8 [136]
          (.call 8003 (s98 x518.fDue 0 1099511627776) [] [] fun r519 =>
            .br 8006 (!r519)
            (.done true)
            (.call 8011 (s98 x518.fSerial 0 (wi64 (p0.fSerial - 1))) [] [] fun r520 =>
              .br 8015 (!r520)
              (.done true)
              (.br 8018 (decide ((0 : Int) < l517))
                (.row 8024 tySFlight p0.fQueue ((wi64 (l517 - 1)).toNat) (decide (0 ≤ (wi64 (l517 - 1)))) fun x521 =>
                  .br 8031 (decide (x518.fSerial ≤ x521.fSerial))
                  (.done true)
                  (.call 8037 (s98 x518.fVia (-1) (wi64 ((mlen tySNat p0.fNats) - 1))) [] [] fun r522 =>
                    .br 8041 (!r522)
                    (.done true)
                    (.call 8047 (s98 x518.fWithin (-1) (wi64 ((mlen tySNat p0.fNats) - 1))) [] [] fun r523 =>
                      .br 8051 (!r523)
                      (.done true)
                      (.br 8055 (decide ((0 : Int) ≤ x518.fVia))
                        (.br 8061 (decide ((0 : Int) ≤ x518.fWithin))
                          (.done true)
                          (.call 8064 (s54 x518.fFrom (x505.fIp.size : Int)) [] [] fun r524 =>
                            .br 8068 (!r524)
                            (.done true)
                            (.call 8071 (s54 x518.fTo (x505.fIp.size : Int)) [] [] fun r525 =>
                              .br 8075 (!r525)
                              (.done true)
                              (.done (decide ((1200 : Int) < (x518.fData.size : Int)))))))
                        (.call 8064 (s54 x518.fFrom (x505.fIp.size : Int)) [] [] fun r526 =>
                          .br 8068 (!r526)
                          (.done true)
                          (.call 8071 (s54 x518.fTo (x505.fIp.size : Int)) [] [] fun r527 =>
                            .br 8075 (!r527)
                            (.done true)
                            (.done (decide ((1200 : Int) < (x518.fData.size : Int))))))))))
                (.call 8037 (s98 x518.fVia (-1) (wi64 ((mlen tySNat p0.fNats) - 1))) [] [] fun r528 =>
                  .br 8041 (!r528)
                  (.done true)
                  (.call 8047 (s98 x518.fWithin (-1) (wi64 ((mlen tySNat p0.fNats) - 1))) [] [] fun r529 =>
                    .br 8051 (!r529)
                    (.done true)
                    (.br 8055 (decide ((0 : Int) ≤ x518.fVia))
                      (.br 8061 (decide ((0 : Int) ≤ x518.fWithin))
                        (.done true)
                        (.call 8064 (s54 x518.fFrom (x505.fIp.size : Int)) [] [] fun r530 =>
                          .br 8068 (!r530)
                          (.done true)
                          (.call 8071 (s54 x518.fTo (x505.fIp.size : Int)) [] [] fun r531 =>
                            .br 8075 (!r531)
                            (.done true)
                            (.done (decide ((1200 : Int) < (x518.fData.size : Int)))))))
                      (.call 8064 (s54 x518.fFrom (x505.fIp.size : Int)) [] [] fun r532 =>
                        .br 8068 (!r532)
                        (.done true)
                        (.call 8071 (s54 x518.fTo (x505.fIp.size : Int)) [] [] fun r533 =>
                          .br 8075 (!r533)
                          (.done true)
                          (.done (decide ((1200 : Int) < (x518.fData.size : Int))))))))))))
          (fun (c534 : Bool) => [.bool c534]) fun c534 =>
          .br 0 c534
          (.done (.inr (.inl ())))
          (.done (.inl (wi64 (l517 + 1)))))
        (.done (.inr (.inr ()))))
      0)
    (fun (_ : Unit) => Ext.lit .ret [(2, .bool false)] [])
    (fun (_ : Unit) => Ext.lit (.exit 0) [(2, .bool false)] [])
    (fun _ =>
      .done false)
    (fun _ =>
      .done true))
theorem k97 (p0 : SNetwork) : FnD Tryd.prog GG [0, 1, 2, 3, 4, 5, 39, 50, 136] Tryd.f97 [.agg [.sl false 5 (List.map tySHost1.c p0.fHosts), .sl false 9 (List.map tySNat.c p0.fNats), .sl false 9 (List.map tySFlight.c p0.fQueue), .int .i64 p0.fNow, .int .i64 p0.fSerial]] (g97 p0) (fun r => .bool r) := by unfold FnD; kernel_rfl
noncomputable def s97 (p0 : SNetwork) : EV.Spec Tryd.prog GG (Bool) := .ofFn 97 mixed Tryd.func97 (k97 p0)
noncomputable def g78 (p0 : SNetwork) : TT ((List SHost1) × (List SNat) × (List SFlight)) :=
 .app 4004 tySHost1 [] p0.fHosts 48 true (by intros; rfl) (.app 4008 tySNat [] p0.fNats 96 true (by intros; rfl) (.app 4012 tySFlight [] p0.fQueue 96 true (by intros; rfl) (.done (([] ++ p0.fHosts), ([] ++ p0.fNats), ([] ++ p0.fQueue)))))
theorem k78 (p0 : SNetwork) : FnB Tryd.prog GG [0, 1, 2, 3, 4, 5] Tryd.f78 [.agg [.sl false 5 (List.map tySHost1.c p0.fHosts), .sl false 9 (List.map tySNat.c p0.fNats), .sl false 9 (List.map tySFlight.c p0.fQueue), .int .i64 p0.fNow, .int .i64 p0.fSerial]] (Ext.of .normal (argTs [.agg [.sl false 5 (List.map tySHost1.c p0.fHosts), .sl false 9 (List.map tySNat.c p0.fNats), .sl false 9 (List.map tySFlight.c p0.fQueue), .int .i64 p0.fNow, .int .i64 p0.fSerial]]) [] [] (by rfl)) (g78 p0) (fun (r : (List SHost1) × (List SNat) × (List SFlight)) => .agg [.ref 9 0 r.1.length, .ref 13 0 r.2.1.length, .ref 17 0 r.2.2.length, .int .i64 p0.fNow, .int .i64 p0.fSerial]) (fun (r : (List SHost1) × (List SNat) × (List SFlight)) => Ext.of .normal [] [] [BT.of 9 tySHost1 5 r.1 true, BT.of 13 tySNat 9 r.2.1 true, BT.of 17 tySFlight 9 r.2.2 true] (by rfl)) := by unfold FnB; kernel_rfl
noncomputable def s78 (p0 : SNetwork) : EV.Spec Tryd.prog GG ((List SHost1) × (List SNat) × (List SFlight)) := .ofFnB 78 [9, 13, 17] mixed Tryd.func78 rfl (fun _ => rfl) (k78 p0)
noncomputable def g100 (p0 : SNetwork) : TT (Int) :=
 .bind 1
 (.lp (fun (l540 : Int × Int) => Ext.lit .normal [(1, .ptr 1 0 0), (2, .int .i64 0), (3, .int .i64 l540.1), (4, .int .i64 l540.2)] [(1, ⟨5, true, [[.sl false 5 (List.map tySHost1.c p0.fHosts), .sl false 9 (List.map tySNat.c p0.fNats), .sl false 9 (List.map tySFlight.c p0.fQueue), .int .i64 p0.fNow, .int .i64 p0.fSerial]]⟩)])
  (fun l540 =>
   .br 0 (decide (l540.2 < (mlen tySFlight p0.fQueue)))
   (.row 5004 tySFlight p0.fQueue l540.2.toNat (decide (0 ≤ l540.2)) fun x541 =>
    .row 5010 tySFlight p0.fQueue l540.1.toNat (decide (0 ≤ l540.1)) fun x542 =>
    .br 0 (decide (x541.fDue < x542.fDue))
    (.done (.inl (l540.2, (wi64 (l540.2 + 1)))))
    (.done (.inl (l540.1, (wi64 (l540.2 + 1))))))
   (.done (.inr l540.1)))
  (0, 1))
 (fun (e543 : Int) => Ext.lit (.exit 0) [(2, .int .i64 0), (3, .int .i64 e543)] [])
 (fun e543 =>
  .done e543)
theorem k100 (p0 : SNetwork) : FnD Tryd.prog GG [0, 1, 2, 3, 4, 9, 24] Tryd.f100 [.agg [.sl false 5 (List.map tySHost1.c p0.fHosts), .sl false 9 (List.map tySNat.c p0.fNats), .sl false 9 (List.map tySFlight.c p0.fQueue), .int .i64 p0.fNow, .int .i64 p0.fSerial]] (g100 p0) (fun r => .int .i64 r) := by unfold FnD; kernel_rfl
noncomputable def s100 (p0 : SNetwork) : EV.Spec Tryd.prog GG (Int) := .ofFn 100 mixed Tryd.func100 (k100 p0)
noncomputable def g99 (p0 : SNetwork) : TT (Int × Int) :=
 .call 1002 (s97 p0) [] [] fun r544 =>
 .br 0 (!r544)
 (.done (0, 140))
 (.br 0 ((mlen tySFlight p0.fQueue) == 0)
  (.done (0, 4))
  (.call 5004 (s100 p0) [] [] fun r545 =>
   .row 5005 tySFlight p0.fQueue r545.toNat (decide (0 ≤ r545)) fun x546 =>
   .done (x546.fDue, 0)))
theorem k99 (p0 : SNetwork) : FnD Tryd.prog GG [0, 1, 2, 3, 6, 10] Tryd.f99 [.agg [.sl false 5 (List.map tySHost1.c p0.fHosts), .sl false 9 (List.map tySNat.c p0.fNats), .sl false 9 (List.map tySFlight.c p0.fQueue), .int .i64 p0.fNow, .int .i64 p0.fSerial]] (g99 p0) (fun r => .tup [.int .i64 r.1, .int .i64 r.2]) := by unfold FnD; kernel_rfl
noncomputable def s99 (p0 : SNetwork) : EV.Spec Tryd.prog GG (Int × Int) := .ofFn 99 mixed Tryd.func99 (k99 p0)
end Go.Proofs.YtdiagiflihpidaaDoor
namespace Go.Proofs.YtdiagiflihpidaaDoor
open Go Go.EV
set_option maxRecDepth 100000
structure SDelivery where
 fHost : Int
 fFrom : SAddr
 fTo : SAddr
 fData : ByteArray
structure SMove where
 fWhat : Int
 fFrom : Int
 fTo : Int
 fAfter : Int
structure SDraft where
 fMapping : Int
 fFilter : Int
 fPorts : Int
 fTimeout : Int
 fHairpin : Bool
 fMoves : (List SMove)
structure SPlace1 where
 fNat : Int
 fIp : Int
 fDelay : Int
 fLose : Int
structure SSending where
 fHost : Int
 fPort : Int
 fTo : Int
 fAfter : Int
 fStep : Bool
structure SDraft1 where
 fNats : (List SDraft)
 fHosts : (List SPlace1)
 fSent : (List SSending)
def tySDelivery : Ty SDelivery := ⟨fun x => [.int .i64 x.fHost, .str x.fFrom.fHost, .int .i64 x.fFrom.fPort, .str x.fTo.fHost, .int .i64 x.fTo.fPort, .str x.fData], fun x => [.int .i64 x.fHost, .str x.fFrom.fHost, .int .i64 x.fFrom.fPort, .str x.fTo.fHost, .int .i64 x.fTo.fPort, .str x.fData], fun _ => rfl, fun _ => rfl, fun _ _ => rfl, fun _ => rfl⟩
def tySMove : Ty SMove := ⟨fun x => [.int .u8 x.fWhat, .int .u8 x.fFrom, .int .u8 x.fTo, .int .u16 x.fAfter], fun x => [.int .u8 x.fWhat, .int .u8 x.fFrom, .int .u8 x.fTo, .int .u16 x.fAfter], fun _ => rfl, fun _ => rfl, fun _ _ => rfl, fun _ => rfl⟩
def tySDraft : Ty SDraft := ⟨fun x => [.int .u8 x.fMapping, .int .u8 x.fFilter, .int .u8 x.fPorts, .int .u16 x.fTimeout, .bool x.fHairpin, .sl false 4 (List.map tySMove.c x.fMoves)], fun x => [.int .u8 x.fMapping, .int .u8 x.fFilter, .int .u8 x.fPorts, .int .u16 x.fTimeout, .bool x.fHairpin, .sl false 4 (List.map tySMove.c x.fMoves)], fun _ => rfl, fun _ => rfl, fun _ _ => rfl, fun _ => rfl⟩
def tySPlace1 : Ty SPlace1 := ⟨fun x => [.int .u8 x.fNat, .int .u8 x.fIp, .int .u8 x.fDelay, .int .u8 x.fLose], fun x => [.int .u8 x.fNat, .int .u8 x.fIp, .int .u8 x.fDelay, .int .u8 x.fLose], fun _ => rfl, fun _ => rfl, fun _ _ => rfl, fun _ => rfl⟩
def tySSending : Ty SSending := ⟨fun x => [.int .u8 x.fHost, .int .u8 x.fPort, .int .u8 x.fTo, .int .u16 x.fAfter, .bool x.fStep], fun x => [.int .u8 x.fHost, .int .u8 x.fPort, .int .u8 x.fTo, .int .u16 x.fAfter, .bool x.fStep], fun _ => rfl, fun _ => rfl, fun _ _ => rfl, fun _ => rfl⟩
noncomputable def g23 (p0 : Int) : TT (SAddr) :=
 .done (SAddr.mk (strOfNums [10, 0, 0, (wu8 ((1 : Int) + (Int.tmod p0 3)))]) (wi64 ((5000 : Int) + (wi64 (Int.tmod (wu8 (Int.tdiv p0 3)) 5)))))
theorem k23 (p0 : Int) : FnD Tryd.prog GG [0, 2] Tryd.f23 [.int .u8 p0] (g23 p0) (fun r => .agg [.str r.fHost, .int .i64 r.fPort]) := by unfold FnD; kernel_rfl
noncomputable def s23 (p0 : Int) : EV.Spec Tryd.prog GG (SAddr) := .ofFn 23 mixed Tryd.func23 (k23 p0)
noncomputable def g24 (p0 : Int) : TT (SAddr) :=
 .done (SAddr.mk (strOfNums [198, 51, 100, (wu8 ((1 : Int) + (Int.tmod p0 3)))]) (wi64 ((80 : Int) + (wi64 (Int.tmod (wu8 (Int.tdiv p0 3)) 3)))))
theorem k24 (p0 : Int) : FnD Tryd.prog GG [0, 2] Tryd.f24 [.int .u8 p0] (g24 p0) (fun r => .agg [.str r.fHost, .int .i64 r.fPort]) := by unfold FnD; kernel_rfl
noncomputable def s24 (p0 : Int) : EV.Spec Tryd.prog GG (SAddr) := .ofFn 24 mixed Tryd.func24 (k24 p0)
noncomputable def g73 (p0 : Int) : TT (SAddr) :=
 .br 0 ((Int.tmod p0 4) == 0)
 (.call 3003 (s23 (wu8 (Int.tdiv p0 4))) [] [] fun r547 =>
  .done r547)
 (.bind 0
  (.br 0 ((Int.tmod p0 4) == 1)
   (.done ((Int.tmod p0 4) == 1))
   (.done ((Int.tmod p0 4) == 2)))
  (fun (e548 : Bool) => Ext.lit .normal [(0, .int .u8 p0), (2, .ptr 2 0 0), (10, .bool e548)] [(2, ⟨2, true, [[.str ByteArray.empty, .int .i64 0]]⟩)])
  (fun e548 =>
   .br 0 e548
   (.call 6003 (s24 (wu8 (Int.tdiv p0 4))) [] [] fun r549 =>
    .done r549)
   (.done (SAddr.mk (strOfNums [192, 0, 2, (wu8 ((9 : Int) + (Int.tmod (wu8 (Int.tdiv p0 4)) 2)))]) (wi64 ((5000 : Int) + (wi64 (Int.tmod (wu8 (Int.tdiv p0 8)) 4))))))))
theorem k73 (p0 : Int) : FnD Tryd.prog GG [0, 2, 4, 5, 10] Tryd.f73 [.int .u8 p0] (g73 p0) (fun r => .agg [.str r.fHost, .int .i64 r.fPort]) := by unfold FnD; kernel_rfl
noncomputable def s73 (p0 : Int) : EV.Spec Tryd.prog GG (SAddr) := .ofFn 73 mixed Tryd.func73 (k73 p0)
noncomputable def g45 (p0 : (List SDelivery)) (p1 : (List SDelivery)) : TT (Bool) :=
 .br 0 ((mlen tySDelivery p0) != (mlen tySDelivery p1))
 (.done false)
 (.bind2 1
  (.lp (fun (l580 : Int) => Ext.lit .normal [(0, .sl false 6 (List.map tySDelivery.c p0)), (1, .sl false 6 (List.map tySDelivery.c p1)), (4, .bool false), (12, .int .i64 (mlen tySDelivery p0)), (13, .int .i64 l580)] [])
   (fun l580 =>
    .br 0 (decide (l580 < (mlen tySDelivery p0)))
    (.row 6003 tySDelivery p0 l580.toNat (decide (0 ≤ l580)) fun x581 =>
     .row 6007 tySDelivery p1 l580.toNat (decide (0 ≤ l580)) fun x582 =>
     .br 0 (!((x581.fHost == x582.fHost) && ((decide (x581.fFrom.fHost = x582.fFrom.fHost)) && ((x581.fFrom.fPort == x582.fFrom.fPort) && ((decide (x581.fTo.fHost = x582.fTo.fHost)) && ((x581.fTo.fPort == x582.fTo.fPort) && ((decide (x581.fData = x582.fData)) && true)))))))
     (.done (.inr (.inl ())))
     (.done (.inl (wi64 (l580 + 1)))))
    (.done (.inr (.inr ()))))
   0)
  (fun (_ : Unit) => Ext.lit .ret [(4, .bool false)] [])
  (fun (_ : Unit) => Ext.lit (.exit 0) [(4, .bool false)] [])
  (fun _ =>
   .done false)
  (fun _ =>
   .done true))
theorem k45 (p0 : (List SDelivery)) (p1 : (List SDelivery)) : FnD Tryd.prog GG [0, 1, 4, 5, 10, 12, 13, 14, 24] Tryd.f45 [.sl false 6 (List.map tySDelivery.c p0), .sl false 6 (List.map tySDelivery.c p1)] (g45 p0 p1) (fun r => .bool r) := by unfold FnD; kernel_rfl
noncomputable def s45 (p0 : (List SDelivery)) (p1 : (List SDelivery)) : EV.Spec Tryd.prog GG (Bool) := .ofFn 45 mixed Tryd.func45 (k45 p0 p1)
noncomputable def g49 (p0 : Int) (p1 : Int) (p2 : Int) (p3 : Int) (p4 : Int) : TT (SAddr) :=
 .done (SAddr.mk (strOfNums [p0, p1, p2, p3]) p4)
theorem k49 (p0 : Int) (p1 : Int) (p2 : Int) (p3 : Int) (p4 : Int) : FnD Tryd.prog GG [0, 1, 2, 3, 4, 10] Tryd.f49 [.int .u8 p0, .int .u8 p1, .int .u8 p2, .int .u8 p3, .int .i64 p4] (g49 p0 p1 p2 p3 p4) (fun r => .agg [.str r.fHost, .int .i64 r.fPort]) := by unfold FnD; kernel_rfl
noncomputable def s49 (p0 : Int) (p1 : Int) (p2 : Int) (p3 : Int) (p4 : Int) : EV.Spec Tryd.prog GG (SAddr) := .ofFn 49 mixed Tryd.func49 (k49 p0 p1 p2 p3 p4)
noncomputable def g50  : TT (SNetwork) :=
 .call 2001 (s49 198 51 100 1 0) [] [] fun r585 =>
 .call 2004 (s49 10 0 0 1 0) [] [] fun r586 =>
 .call 2007 (s49 10 0 0 2 0) [] [] fun r587 =>
 .gh 0 (.share (VwW.of 14 tySHost1 [(SHost1.mk r585.fHost (-1) 10 0 0), (SHost1.mk r586.fHost 0 20 0 0), (SHost1.mk r587.fHost 0 5 2 0)]) 0) (.gh 0 (.tell 16 (List.map tySNat.c [(SNat.mk 1 3 1000 true (bs [192, 0, 2, 9]) 5000 5001 0 [])])) (.gh 0 (.share (VwW.of 16 tySNat [(SNat.mk 1 3 1000 true (bs [192, 0, 2, 9]) 5000 5001 0 [])]) 0) (.done (SNetwork.mk [(SHost1.mk r585.fHost (-1) 10 0 0), (SHost1.mk r586.fHost 0 20 0 0), (SHost1.mk r587.fHost 0 5 2 0)] [(SNat.mk 1 3 1000 true (bs [192, 0, 2, 9]) 5000 5001 0 [])] [] 0 0))))
theorem k50  : FnD Tryd.prog GG [0, 1] Tryd.f50 [] (g50) (fun r => .agg [.sl false 5 (List.map tySHost1.c r.fHosts), .sl false 9 (List.map tySNat.c r.fNats), .sl false 9 (List.map tySFlight.c r.fQueue), .int .i64 r.fNow, .int .i64 r.fSerial]) := by unfold FnD; kernel_rfl
noncomputable def s50  : EV.Spec Tryd.prog GG (SNetwork) := .ofFn 50 mixed Tryd.func50 (k50)
noncomputable def g63 (p0 : SDraft) : TT (SNat) :=
 .done (SNat.mk (wi64 ((1 : Int) + (wi64 (Int.tmod p0.fMapping 3)))) (wi64 ((1 : Int) + (wi64 (Int.tmod p0.fFilter 3)))) (wi64 ((1 : Int) + (wi64 (Int.tmod p0.fTimeout 4000)))) p0.fHairpin (bs [192, 0, 2, 9]) 5000 (wi64 ((5000 : Int) + (wi64 (Int.tmod p0.fPorts 8)))) 0 [])
theorem k63 (p0 : SDraft) : FnD Tryd.prog GG [0, 1, 2] Tryd.f63 [.agg [.int .u8 p0.fMapping, .int .u8 p0.fFilter, .int .u8 p0.fPorts, .int .u16 p0.fTimeout, .bool p0.fHairpin, .sl false 4 (List.map tySMove.c p0.fMoves)]] (g63 p0) (fun r => .agg [.int .i64 r.fMapping, .int .i64 r.fFilter, .int .i64 r.fTimeout, .bool r.fHairpin, .str r.fHost, .int .i64 r.fLow, .int .i64 r.fHigh, .int .i64 r.fNow, .sl false 7 (List.map tySBinding.c r.fTable)]) := by unfold FnD; kernel_rfl
noncomputable def s63 (p0 : SDraft) : EV.Spec Tryd.prog GG (SNat) := .ofFn 63 mixed Tryd.func63 (k63 p0)
noncomputable def g39 (p0 : SDraft1) : TT (SNetwork) :=
 .gh 1 (.virtC 600113 3 1 9) (.bind 0
 (.lp (fun (l592 : (List SNat) × Int) => Ext.of .normal [(1, .ptr 1 0 0), (2, .ptr 2 0 0), (3, .ptr 3 0 0), (4, .int .i64 l592.2)] [(1, ⟨3, true, [[.sl false 6 (List.map tySDraft.c p0.fNats), .sl false 4 (List.map tySPlace1.c p0.fHosts), .sl false 5 (List.map tySSending.c p0.fSent)]]⟩), (2, ⟨5, true, [[.nilsl, .nilsl, .nilsl, .int .i64 0, .int .i64 0]]⟩), (3, ⟨5, true, [[.nilsl, .ref 600113 0 l592.1.length, .nilsl, .int .i64 0, .int .i64 0]]⟩)] [BT.of 600113 tySNat 9 l592.1 true] (by rfl))
  (fun l592 =>
   .cnd 3 [17]
   (.br 3007 (decide (l592.2 < (mlen tySDraft p0.fNats)))
    (.done (decide (l592.2 < 2)))
    (.done false))
   (fun (c593 : Bool) => [.bool c593]) fun c593 =>
   .br 0 c593
   (.row 5004 tySDraft p0.fNats l592.2.toNat (decide (0 ≤ l592.2)) fun x594 =>
    .call 5006 (s63 x594) [] [] fun r595 =>
    .app 7005 tySNat l592.1 [(SNat.mk r595.fMapping r595.fFilter r595.fTimeout r595.fHairpin (strOfNums [192, 0, 2, (wu8 ((9 : Int) + (wu8 l592.2)))]) r595.fLow r595.fHigh r595.fNow r595.fTable)] 96 false (by intro h; cases h) (.gh 0 (.drop [600113]) (.gh 0 (.ren 36 600113) (.done (.inl ((l592.1 ++ [(SNat.mk r595.fMapping r595.fFilter r595.fTimeout r595.fHairpin (strOfNums [192, 0, 2, (wu8 ((9 : Int) + (wu8 l592.2)))]) r595.fLow r595.fHigh r595.fNow r595.fTable)]), (wi64 (l592.2 + 1))))))))
   (.done (.inr l592.1)))
  ([], 0))
 (fun (e596 : (List SNat)) => Ext.of (.exit 0) [(1, .ptr 1 0 0), (2, .ptr 2 0 0), (3, .ptr 3 0 0)] [(1, ⟨3, true, [[.sl false 6 (List.map tySDraft.c p0.fNats), .sl false 4 (List.map tySPlace1.c p0.fHosts), .sl false 5 (List.map tySSending.c p0.fSent)]]⟩), (2, ⟨5, true, [[.nilsl, .nilsl, .nilsl, .int .i64 0, .int .i64 0]]⟩), (3, ⟨5, true, [[.nilsl, .ref 600113 0 e596.length, .nilsl, .int .i64 0, .int .i64 0]]⟩)] [BT.of 600113 tySNat 9 e596 true] (by rfl))
 (fun e596 =>
  .gh 1 (.virtC 600115 3 0 5) (.bind 0
  (.lp (fun (l605 : (List SHost1) × Int) => Ext.of .normal [(1, .ptr 1 0 0), (2, .ptr 2 0 0), (3, .ptr 3 0 0), (6, .int .i64 l605.2)] [(1, ⟨3, true, [[.sl false 6 (List.map tySDraft.c p0.fNats), .sl false 4 (List.map tySPlace1.c p0.fHosts), .sl false 5 (List.map tySSending.c p0.fSent)]]⟩), (2, ⟨5, true, [[.nilsl, .nilsl, .nilsl, .int .i64 0, .int .i64 0]]⟩), (3, ⟨5, true, [[.ref 600115 0 l605.1.length, .ref 600113 0 e596.length, .nilsl, .int .i64 0, .int .i64 0]]⟩)] [BT.of 600113 tySNat 9 e596 true, BT.of 600115 tySHost1 5 l605.1 true] (by rfl))
   (fun l605 =>
    .cnd 9 [46]
    (.br 9007 (decide (l605.2 < (mlen tySPlace1 p0.fHosts)))
     (.done (decide (l605.2 < 6)))
     (.done false))
    (fun (c606 : Bool) => [.bool c606]) fun c606 =>
    .br 0 c606
    (.row 11004 tySPlace1 p0.fHosts l605.2.toNat (decide (0 ≤ l605.2)) fun x607 =>
     .chk 12008 (!((wi64 ((e596.length : Int) + 1)) == 0)) (.call 13003 (s23 x607.fIp) [] [] fun r608 =>
     .bind 0
     (.br 0 (decide ((wi64 ((Int.tmod (wi64 x607.fNat) (wi64 ((e596.length : Int) + 1))) - 1)) < 0))
      (.call 15003 (s24 x607.fIp) [] [] fun r609 =>
       .done r609.fHost)
      (.done r608.fHost))
     (fun (e610 : ByteArray) => Ext.of .normal [(1, .ptr 1 0 0), (2, .ptr 2 0 0), (3, .ptr 3 0 0), (6, .int .i64 l605.2), (8, .ptr 8 0 0)] [(1, ⟨3, true, [[.sl false 6 (List.map tySDraft.c p0.fNats), .sl false 4 (List.map tySPlace1.c p0.fHosts), .sl false 5 (List.map tySSending.c p0.fSent)]]⟩), (2, ⟨5, true, [[.nilsl, .nilsl, .nilsl, .int .i64 0, .int .i64 0]]⟩), (3, ⟨5, true, [[.ref 600115 0 l605.1.length, .ref 600113 0 e596.length, .nilsl, .int .i64 0, .int .i64 0]]⟩), (8, ⟨5, true, [[.str e610, .int .i64 (wi64 ((Int.tmod (wi64 x607.fNat) (wi64 ((e596.length : Int) + 1))) - 1)), .int .i64 (wi64 ((10 : Int) * (wi64 (Int.tmod x607.fDelay 8)))), .int .i64 (wi64 (Int.tmod x607.fLose 12)), .int .i64 0]]⟩)] [BT.of 600113 tySNat 9 e596 true, BT.of 600115 tySHost1 5 l605.1 true] (by rfl))
     (fun e610 =>
      .bind 0
      (.br 0 (decide ((6 : Int) < (wi64 (Int.tmod x607.fLose 12))))
       (.done 0)
       (.done (wi64 (Int.tmod x607.fLose 12))))
      (fun (e611 : Int) => Ext.of .normal [(1, .ptr 1 0 0), (2, .ptr 2 0 0), (3, .ptr 3 0 0), (6, .int .i64 l605.2), (8, .ptr 8 0 0)] [(1, ⟨3, true, [[.sl false 6 (List.map tySDraft.c p0.fNats), .sl false 4 (List.map tySPlace1.c p0.fHosts), .sl false 5 (List.map tySSending.c p0.fSent)]]⟩), (2, ⟨5, true, [[.nilsl, .nilsl, .nilsl, .int .i64 0, .int .i64 0]]⟩), (3, ⟨5, true, [[.ref 600115 0 l605.1.length, .ref 600113 0 e596.length, .nilsl, .int .i64 0, .int .i64 0]]⟩), (8, ⟨5, true, [[.str e610, .int .i64 (wi64 ((Int.tmod (wi64 x607.fNat) (wi64 ((e596.length : Int) + 1))) - 1)), .int .i64 (wi64 ((10 : Int) * (wi64 (Int.tmod x607.fDelay 8)))), .int .i64 e611, .int .i64 0]]⟩)] [BT.of 600113 tySNat 9 e596 true, BT.of 600115 tySHost1 5 l605.1 true] (by rfl))
      (fun e611 =>
       .view 18006 (s66 (SNetwork.mk l605.1 e596 [] 0 0) (wi64 ((Int.tmod (wi64 x607.fNat) (wi64 ((e596.length : Int) + 1))) - 1)) e610) [(VwW.of 600115 tySHost1 l605.1), (VwW.of 600113 tySNat e596)] fun r612 =>
       .br 0 (decide (r612 < 0))
       (.app 19005 tySHost1 l605.1 [(SHost1.mk e610 (wi64 ((Int.tmod (wi64 x607.fNat) (wi64 ((e596.length : Int) + 1))) - 1)) (wi64 ((10 : Int) * (wi64 (Int.tmod x607.fDelay 8)))) e611 0)] 48 false (by intro h; cases h) (.gh 0 (.drop [600115]) (.gh 0 (.ren 101 600115) (.done (.inl ((l605.1 ++ [(SHost1.mk e610 (wi64 ((Int.tmod (wi64 x607.fNat) (wi64 ((e596.length : Int) + 1))) - 1)) (wi64 ((10 : Int) * (wi64 (Int.tmod x607.fDelay 8)))) e611 0)]), (wi64 (l605.2 + 1))))))))
       (.done (.inl (l605.1, (wi64 (l605.2 + 1)))))))))
    (.done (.inr l605.1)))
   ([], 0))
  (fun (e613 : (List SHost1)) => Ext.of (.exit 2) [(2, .ptr 2 0 0), (3, .ptr 3 0 0)] [(2, ⟨5, true, [[.nilsl, .nilsl, .nilsl, .int .i64 0, .int .i64 0]]⟩), (3, ⟨5, true, [[.ref 600115 0 e613.length, .ref 600113 0 e596.length, .nilsl, .int .i64 0, .int .i64 0]]⟩)] [BT.of 600113 tySNat 9 e596 true, BT.of 600115 tySHost1 5 e613 true] (by rfl))
  (fun e613 =>
   .br 0 ((e613.length : Int) == 0)
   (.call 21001 (s24 0) [] [] fun r614 =>
    .gh 0 (.share (VwW.of 110 tySHost1 [(SHost1.mk r614.fHost (-1) 0 0 0)]) 1) (.gh 0 (.share (VwW.of 600113 tySNat e596) 1) (.done (SNetwork.mk [(SHost1.mk r614.fHost (-1) 0 0 0)] e596 [] 0 0))))
   (.gh 0 (.share (VwW.of 600113 tySNat e596) 1) (.gh 0 (.share (VwW.of 600115 tySHost1 e613) 1) (.done (SNetwork.mk e613 e596 [] 0 0))))))))
theorem k39 (p0 : SDraft1) : FnD Tryd.prog GG [0, 1, 2, 3, 4, 5, 6, 7, 8, 17, 46, 80, 88, 96, 106] Tryd.f39 [.agg [.sl false 6 (List.map tySDraft.c p0.fNats), .sl false 4 (List.map tySPlace1.c p0.fHosts), .sl false 5 (List.map tySSending.c p0.fSent)]] (g39 p0) (fun r => .agg [.sl false 5 (List.map tySHost1.c r.fHosts), .sl false 9 (List.map tySNat.c r.fNats), .sl false 9 (List.map tySFlight.c r.fQueue), .int .i64 r.fNow, .int .i64 r.fSerial]) := by unfold FnD; kernel_rfl
noncomputable def s39 (p0 : SDraft1) : EV.Spec Tryd.prog GG (SNetwork) := .ofFn 39 mixed Tryd.func39 (k39 p0)
end Go.Proofs.YtdiagiflihpidaaDoor
namespace Go.Proofs.YtdiagiflihpidaaDoor
open Go Go.EV
set_option maxRecDepth 100000
noncomputable def g104 (p0 : Int) (p1 : Int) (p2 : (List SFlight)) : TT ((List SFlight) × Nat) :=
 .opr 1006 (Rule.cap3 (ty := tySFlight) (t := 75) (e := 144) (z := 9) (.tmp 8) (.tmp 9) (.tmp 10) (.tmp 12) 13 1000000 p2.length p2 .i64 .i64 .i64 p0 p1 (p2.length : Int) (by kernel_rfl) (by kernel_rfl)) fun _ =>
 .br 0 (p0 == p1)
 (.gh 0 (.ren 1000000 26) (.done (p2, p2.length)))
 (.chk 5003 (decide (0 ≤ p0) && decide (p0 ≤ (p2.length : Int))) (.chk 5006 (decide (0 ≤ p1) && decide (p1 ≤ (p2.length : Int)))
  (.opr 5007 (Rule.appSame (ty := tySFlight) (t := 75) (t2 := 75) (e := 144) (e2 := 144) (z := 9) (.tmp 22) (.tmp 25) 26 1000000 p0.toNat p1.toNat (p2.length - p1.toNat) p2 (by kernel_rfl) (by kernel_rfl) (by kernel_rfl) (fun _ => rfl)) fun _ =>
  .opr 6005 (Rule.cap2 (ty := tySFlight) (t := 75) (e := 144) (z := 9) (.tmp 27) (.tmp 29) (.tmp 30) 31 1000000 (p0.toNat + (p2.length - p1.toNat)) (over p2 p0.toNat ((p2.drop p1.toNat).take (p2.length - p1.toNat))) .i64 .i64 (((p0.toNat + (p2.length - p1.toNat)) : Nat) : Int) (p2.length : Int) (by kernel_rfl) (by kernel_rfl)) fun _ =>
  .opr 6006 (Rule.clear (ty := tySFlight) (t := 75) (e := 144) (z := 9) (.tmp 31) 1000000 ((((p0.toNat + (p2.length - p1.toNat)) : Nat) : Int)).toNat ((p2.length : Int).toNat - ((((p0.toNat + (p2.length - p1.toNat)) : Nat) : Int)).toNat) (over p2 p0.toNat ((p2.drop p1.toNat).take (p2.length - p1.toNat))) (SFlight.mk 0 0 0 0 (SAddr.mk ByteArray.empty 0) (SAddr.mk ByteArray.empty 0) ByteArray.empty) (by kernel_rfl) (by kernel_rfl) (by kernel_rfl) (by rfl) (fun _ => rfl)) fun _ =>
  .gh 0 (.ren 1000000 26) (.done ((over (over p2 p0.toNat ((p2.drop p1.toNat).take (p2.length - p1.toNat))) ((((p0.toNat + (p2.length - p1.toNat)) : Nat) : Int)).toNat (List.replicate ((p2.length : Int).toNat - ((((p0.toNat + (p2.length - p1.toNat)) : Nat) : Int)).toNat) (SFlight.mk 0 0 0 0 (SAddr.mk ByteArray.empty 0) (SAddr.mk ByteArray.empty 0) ByteArray.empty))), (p0.toNat + (p2.length - p1.toNat)))))))
theorem k104 (p0 : Int) (p1 : Int) (p2 : (List SFlight)) : FnB Tryd.prog GG [0, 1, 2, 6, 7, 16] Tryd.f104 [.ref 1000000 0 p2.length, .int .i64 p0, .int .i64 p1] (Ext.of .normal (argTs [.ref 1000000 0 p2.length, .int .i64 p0, .int .i64 p1]) [] [BT.of 1000000 tySFlight 9 p2 true] (by rfl)) (g104 p0 p1 p2) (fun (r : (List SFlight) × Nat) => .ref 26 0 r.2) (fun (r : (List SFlight) × Nat) => Ext.of .normal [] [] [BT.of 26 tySFlight 9 r.1 true] (by rfl)) := by unfold FnB; kernel_rfl
noncomputable def s104 (p0 : Int) (p1 : Int) (p2 : (List SFlight)) : EV.Spec Tryd.prog GG ((List SFlight)) := Spec.trim (.ofFnB 104 [26] mixed Tryd.func104 rfl (fun _ => rfl) (k104 p0 p1 p2)) tySFlight 26 9 (by decide) (fun _ => rfl) (fun _ => rfl) (fun _ => rfl)
noncomputable def g105 (p0 : SCarrier) (p1 : SFlight) : TT (Int × SAddr × Bool) :=
 .call 1008 (s95 p0 (SPlace.mk p1.fWithin p1.fTo.fHost)) [] [] fun r623 =>
 .done (r623, p1.fTo, (decide ((0 : Int) ≤ p1.fWithin)))
theorem k105 (p0 : SCarrier) (p1 : SFlight) : FnD Tryd.prog GG [0, 1, 3, 4, 5, 6] Tryd.f105 [.snap [.sl false 5 (List.map tySHost1.c p0.fNetwork.fHosts), .sl false 9 (List.map tySNat.c p0.fNetwork.fNats), .sl false 9 (List.map tySFlight.c p0.fNetwork.fQueue), .int .i64 p0.fNetwork.fNow, .int .i64 p0.fNetwork.fSerial], .agg [.int .i64 p1.fDue, .int .i64 p1.fSerial, .int .i64 p1.fVia, .int .i64 p1.fWithin, .str p1.fFrom.fHost, .int .i64 p1.fFrom.fPort, .str p1.fTo.fHost, .int .i64 p1.fTo.fPort, .str p1.fData]] (g105 p0 p1) (fun r => .tup [.int .i64 r.1, .agg [.str r.2.1.fHost, .int .i64 r.2.1.fPort], .bool r.2.2]) := by unfold FnD; kernel_rfl
noncomputable def s105 (p0 : SCarrier) (p1 : SFlight) : EV.Spec Tryd.prog GG (Int × SAddr × Bool) := .ofFn 105 mixed Tryd.func105 (k105 p0 p1)
noncomputable def g106 (p0 : SCarrier) (p1 : SFlight) : TT (Int × SAddr × Bool) :=
 .call 1006 (s95 p0 (SPlace.mk (-1) p1.fTo.fHost)) [] [] fun r624 =>
 .done (r624, p1.fTo, (decide ((0 : Int) ≤ r624)))
theorem k106 (p0 : SCarrier) (p1 : SFlight) : FnD Tryd.prog GG [0, 1, 3, 4, 5, 6, 7] Tryd.f106 [.snap [.sl false 5 (List.map tySHost1.c p0.fNetwork.fHosts), .sl false 9 (List.map tySNat.c p0.fNetwork.fNats), .sl false 9 (List.map tySFlight.c p0.fNetwork.fQueue), .int .i64 p0.fNetwork.fNow, .int .i64 p0.fNetwork.fSerial], .agg [.int .i64 p1.fDue, .int .i64 p1.fSerial, .int .i64 p1.fVia, .int .i64 p1.fWithin, .str p1.fFrom.fHost, .int .i64 p1.fFrom.fPort, .str p1.fTo.fHost, .int .i64 p1.fTo.fPort, .str p1.fData]] (g106 p0 p1) (fun r => .tup [.int .i64 r.1, .agg [.str r.2.1.fHost, .int .i64 r.2.1.fPort], .bool r.2.2]) := by unfold FnD; kernel_rfl
noncomputable def s106 (p0 : SCarrier) (p1 : SFlight) : EV.Spec Tryd.prog GG (Int × SAddr × Bool) := .ofFn 106 mixed Tryd.func106 (k106 p0 p1)
noncomputable def g124 (p0 : SNat) (p1 : SFlight) : TT (Bool) :=
 .done (decide (p0.fHost = p1.fTo.fHost))
theorem k124 (p0 : SNat) (p1 : SFlight) : FnD Tryd.prog GG [0, 1, 2, 3] Tryd.f124 [.agg [.int .i64 p0.fMapping, .int .i64 p0.fFilter, .int .i64 p0.fTimeout, .bool p0.fHairpin, .str p0.fHost, .int .i64 p0.fLow, .int .i64 p0.fHigh, .int .i64 p0.fNow, .sl false 7 (List.map tySBinding.c p0.fTable)], .snap [.int .i64 p1.fDue, .int .i64 p1.fSerial, .int .i64 p1.fVia, .int .i64 p1.fWithin, .str p1.fFrom.fHost, .int .i64 p1.fFrom.fPort, .str p1.fTo.fHost, .int .i64 p1.fTo.fPort, .str p1.fData]] (g124 p0 p1) (fun r => .bool r) := by unfold FnD; kernel_rfl
noncomputable def s124 (p0 : SNat) (p1 : SFlight) : EV.Spec Tryd.prog GG (Bool) := .ofFn 124 mixed Tryd.func124 (k124 p0 p1)
noncomputable def g123 (p0 : (List SNat)) (p1 : SFlight) : TT (Int) :=
 .bind2 1
 (.lp (fun (l628 : Int) => Ext.lit .normal [(0, .sl false 9 (List.map tySNat.c p0)), (1, .fn 124 [] [.snap [.int .i64 p1.fDue, .int .i64 p1.fSerial, .int .i64 p1.fVia, .int .i64 p1.fWithin, .str p1.fFrom.fHost, .int .i64 p1.fFrom.fPort, .str p1.fTo.fHost, .int .i64 p1.fTo.fPort, .str p1.fData]]), (4, .int .i64 0), (7, .int .i64 (mlen tySNat p0)), (8, .int .i64 l628)] [])
  (fun l628 =>
   .br 0 (decide (l628 < (mlen tySNat p0)))
   (.row 4004 tySNat p0 l628.toNat (decide (0 ≤ l628)) fun x629 =>
    .call 4006 (s124 x629 p1) [] [] fun r630 =>
    .br 0 r630
    (.done (.inr (.inl l628)))
    (.done (.inl (wi64 (l628 + 1)))))
   (.done (.inr (.inr ()))))
  0)
 (fun (e631 : Int) => Ext.lit .ret [(4, .int .i64 e631)] [])
 (fun (_ : Unit) => Ext.lit (.exit 0) [(4, .int .i64 0)] [])
 (fun e631 =>
  .done e631)
 (fun _ =>
  .done (-1))
theorem k123 (p0 : (List SNat)) (p1 : SFlight) : FnD Tryd.prog GG [0, 1, 4, 5, 7, 8, 9, 16] Tryd.f123 [.sl false 9 (List.map tySNat.c p0), .fn 124 [] [.snap [.int .i64 p1.fDue, .int .i64 p1.fSerial, .int .i64 p1.fVia, .int .i64 p1.fWithin, .str p1.fFrom.fHost, .int .i64 p1.fFrom.fPort, .str p1.fTo.fHost, .int .i64 p1.fTo.fPort, .str p1.fData]]] (g123 p0 p1) (fun r => .int .i64 r) := by unfold FnD; kernel_rfl
noncomputable def s123 (p0 : (List SNat)) (p1 : SFlight) : EV.Spec Tryd.prog GG (Int) := .ofFn 123 mixed Tryd.func123 (k123 p0 p1)
noncomputable def g107 (p0 : SFlight) (p1 : Int) (p2 : Int) (p3 : (List SHost1)) (p4 : (List SNat)) (p5 : (List SFlight)) : TT ((List SNat) × ByteArray × Int × Int) :=
 .view 1007 (s123 p4 p0) [(VwW.of 1000002 tySNat p4)] fun r639 =>
 .cnd 2 [37]
 (.br 2004 (decide (r639 < 0))
  (.done true)
  (.br 2009 (r639 == p0.fVia)
   (.chk 2015 (decide (0 ≤ r639) && decide (r639 < (p4.length : Int))) (.row 2017 tySNat p4 (0 + r639.toNat) true fun x640 =>
    .done (!x640.fHairpin)))
   (.done false)))
 (fun (c641 : Bool) => [.bool c641]) fun c641 =>
 .br 0 c641
 (.done (p4, p0.fTo.fHost, p0.fTo.fPort, (-1)))
 (.chk 4007 (decide (0 ≤ r639) && decide (r639 < (p4.length : Int))) (.row 4008 tySNat p4 (0 + r639.toNat) true fun x642 =>
  .call 4018 (s27 x642 p1 p0.fFrom p0.fTo) [] [] fun r643 =>
  .br 0 (r643.2.2 != 0)
  (.done (p4, p0.fTo.fHost, p0.fTo.fPort, (-1)))
  (.chk 7008 (decide (0 ≤ r639) && decide (r639 < (p4.length : Int))) (.row 7009 tySNat p4 (0 + r639.toNat) true fun x644 =>
   .re 7009 (ReW.put 1000002 9 tySNat p4 (0 + r639.toNat) r643.1) (.gh 10 (.len 1000002 ((p4.set (0 + r639.toNat) r643.1).length) [p4.length] (by simp)) (.view 8006 (s95 (SCarrier.mk (SNetwork.mk p3 (p4.set (0 + r639.toNat) r643.1) p5 p1 p2)) (SPlace.mk r639 r643.2.1.fHost)) [(VwW.of 1000001 tySHost1 p3), (VwW.of 1000002 tySNat (p4.set (0 + r639.toNat) r643.1)), (VwW.of 1000003 tySFlight p5)] fun r645 =>
   .done ((p4.set (0 + r639.toNat) r643.1), r643.2.1.fHost, r643.2.1.fPort, r645)))))))
theorem k107 (p0 : SFlight) (p1 : Int) (p2 : Int) (p3 : (List SHost1)) (p4 : (List SNat)) (p5 : (List SFlight)) : FnB Tryd.prog GG [0, 1, 3, 4, 5, 6, 7, 8, 9, 10, 37, 63] Tryd.f107 [.ptr 1000000 0 0, .agg [.int .i64 p0.fDue, .int .i64 p0.fSerial, .int .i64 p0.fVia, .int .i64 p0.fWithin, .str p0.fFrom.fHost, .int .i64 p0.fFrom.fPort, .str p0.fTo.fHost, .int .i64 p0.fTo.fPort, .str p0.fData]] (Ext.of .normal (argTs [.ptr 1000000 0 0, .agg [.int .i64 p0.fDue, .int .i64 p0.fSerial, .int .i64 p0.fVia, .int .i64 p0.fWithin, .str p0.fFrom.fHost, .int .i64 p0.fFrom.fPort, .str p0.fTo.fHost, .int .i64 p0.fTo.fPort, .str p0.fData]]) [(1000000, ⟨5, true, [[.ref 1000001 0 p3.length, .ref 1000002 0 p4.length, .ref 1000003 0 p5.length, .int .i64 p1, .int .i64 p2]]⟩)] [BT.of 1000001 tySHost1 5 p3 true, BT.of 1000002 tySNat 9 p4 true, BT.of 1000003 tySFlight 9 p5 true] (by rfl)) (g107 p0 p1 p2 p3 p4 p5) (fun (r : (List SNat) × ByteArray × Int × Int) => .tup [.int .i64 r.2.2.2, .agg [.str r.2.1, .int .i64 r.2.2.1], .bool true]) (fun (r : (List SNat) × ByteArray × Int × Int) => Ext.of .normal [] [(1000000, ⟨5, true, [[.ref 1000001 0 p3.length, .ref 1000002 0 r.1.length, .ref 1000003 0 p5.length, .int .i64 p1, .int .i64 p2]]⟩)] [BT.of 1000001 tySHost1 5 p3 true, BT.of 1000002 tySNat 9 r.1 true, BT.of 1000003 tySFlight 9 p5 true] (by rfl)) := by unfold FnB; kernel_rfl
noncomputable def s107 (p0 : SFlight) (p1 : Int) (p2 : Int) (p3 : (List SHost1)) (p4 : (List SNat)) (p5 : (List SFlight)) : EV.Spec Tryd.prog GG ((List SNat) × ByteArray × Int × Int) := .ofFnB 107 [1000001, 1000002, 1000003] mixed Tryd.func107 rfl (fun _ => rfl) (k107 p0 p1 p2 p3 p4 p5)
noncomputable def g77 (p0 : Int) (p1 : Int) (p2 : (List SHost1)) (p3 : (List SNat)) (p4 : (List SFlight)) : TT ((List SNat) × Int × ByteArray × Int × (List SFlight) × Int × ByteArray × Int × ByteArray) :=
 .view 1002 (s76 (SCarrier.mk (SNetwork.mk p2 p3 p4 p0 p1))) [(VwW.of 1000001 tySHost1 p2), (VwW.of 1000002 tySNat p3), (VwW.of 1000003 tySFlight p4)] fun r620 =>
 .chk 2007 (decide (0 ≤ r620) && decide (r620 < (p4.length : Int))) (.row 2008 tySFlight p4 (0 + r620.toNat) true fun x621 =>
 .call 3010 (s104 r620 (wi64 (r620 + 1)) p4) [(1000000, 1000003)] [(26, 500120)] fun r622 =>
 .tt (.view 9003 (s105 (SCarrier.mk (SNetwork.mk p2 p3 r622 (if x621.fDue > p0 then x621.fDue else p0) p1)) x621) [(VwW.of 1000001 tySHost1 p2), (VwW.of 1000002 tySNat p3), (VwW.of 500120 tySFlight r622)] fun r623 =>
 .br 0 r623.2.2
 (.done (p3, r623.1, r623.2.1.fHost, r623.2.1.fPort, r622, (if x621.fDue > p0 then x621.fDue else p0), x621.fFrom.fHost, x621.fFrom.fPort, x621.fData))
 (.tt (.gh 11 (.drop [9]) (.view 9003 (s106 (SCarrier.mk (SNetwork.mk p2 p3 r622 (if x621.fDue > p0 then x621.fDue else p0) p1)) x621) [(VwW.of 1000001 tySHost1 p2), (VwW.of 1000002 tySNat p3), (VwW.of 500120 tySFlight r622)] fun r624 =>
  .br 0 r624.2.2
  (.done (p3, r624.1, r624.2.1.fHost, r624.2.1.fPort, r622, (if x621.fDue > p0 then x621.fDue else p0), x621.fFrom.fHost, x621.fFrom.fPort, x621.fData))
  (.tt (.gh 11 (.drop [9]) (.call 9003 (s107 x621 (if x621.fDue > p0 then x621.fDue else p0) p1 p2 p3 r622) [(1000000, 1000000), (1000001, 1000001), (1000002, 1000002), (1000003, 500120)] [] fun r631 =>
   .tt (.done (r631.1, r631.2.2.2, r631.2.1, r631.2.2.1, r622, (if x621.fDue > p0 then x621.fDue else p0), x621.fFrom.fHost, x621.fFrom.fPort, x621.fData))))))))))
theorem k77 (p0 : Int) (p1 : Int) (p2 : (List SHost1)) (p3 : (List SNat)) (p4 : (List SFlight)) : FnB Tryd.prog GG [0, 2, 3, 4, 5, 7, 8, 9, 10, 59, 60, 61, 70] Tryd.f77 [.ptr 1000000 0 0] (Ext.of .normal (argTs [.ptr 1000000 0 0]) [(1000000, ⟨5, true, [[.ref 1000001 0 p2.length, .ref 1000002 0 p3.length, .ref 1000003 0 p4.length, .int .i64 p0, .int .i64 p1]]⟩)] [BT.of 1000001 tySHost1 5 p2 true, BT.of 1000002 tySNat 9 p3 true, BT.of 1000003 tySFlight 9 p4 true] (by rfl)) (g77 p0 p1 p2 p3 p4) (fun (r : (List SNat) × Int × ByteArray × Int × (List SFlight) × Int × ByteArray × Int × ByteArray) => .agg [.int .i64 r.2.1, .str r.2.2.2.2.2.2.1, .int .i64 r.2.2.2.2.2.2.2.1, .str r.2.2.1, .int .i64 r.2.2.2.1, .str r.2.2.2.2.2.2.2.2]) (fun (r : (List SNat) × Int × ByteArray × Int × (List SFlight) × Int × ByteArray × Int × ByteArray) => Ext.of .normal [] [(1000000, ⟨5, true, [[.ref 1000001 0 p2.length, .ref 1000002 0 r.1.length, .ref 500120 0 r.2.2.2.2.1.length, .int .i64 r.2.2.2.2.2.1, .int .i64 p1]]⟩)] [BT.of 500120 tySFlight 9 r.2.2.2.2.1 true, BT.of 1000001 tySHost1 5 p2 true, BT.of 1000002 tySNat 9 r.1 true] (by rfl)) := by unfold FnB; kernel_rfl
noncomputable def s77 (p0 : Int) (p1 : Int) (p2 : (List SHost1)) (p3 : (List SNat)) (p4 : (List SFlight)) : EV.Spec Tryd.prog GG ((List SNat) × Int × ByteArray × Int × (List SFlight) × Int × ByteArray × Int × ByteArray) := .ofFnB 77 [500120, 1000001, 1000002] mixed Tryd.func77 rfl (fun _ => rfl) (k77 p0 p1 p2 p3 p4)
noncomputable def g48 (p0 : SNetwork) : TT (SNetwork × SDelivery × Int) :=
 .call2 1002 (s67 p0) [] [(7, 500116), (500100, 500117), (500101, 500118), (500102, 500119)] (fun r615 =>
  .ff (.tt (.done ((SNetwork.mk [] [] [] 0 0), (SDelivery.mk 0 (SAddr.mk ByteArray.empty 0) (SAddr.mk ByteArray.empty 0) ByteArray.empty), 140))))
 (fun r616 =>
  .bind 0
  (.br 0 ((p0.fQueue.length : Int) == 0)
   (.done 4)
   (.done 0))
  (fun (e617 : Int) => Ext.of .normal [(2, .ptr 2 0 0), (3, .ptr 3 0 0), (4, .int .i64 0), (5, .ptr 500116 0 0), (6, .int .i64 e617)] [(2, ⟨5, true, [[.nilsl, .nilsl, .nilsl, .int .i64 0, .int .i64 0]]⟩), (3, ⟨6, true, [[.int .i64 0, .str ByteArray.empty, .int .i64 0, .str ByteArray.empty, .int .i64 0, .str ByteArray.empty]]⟩), (500116, ⟨5, true, [[.ref 500117 0 p0.fHosts.length, .ref 500118 0 p0.fNats.length, .ref 500119 0 p0.fQueue.length, .int .i64 p0.fNow, .int .i64 p0.fSerial]]⟩)] [BT.of 500117 tySHost1 5 p0.fHosts true, BT.of 500118 tySNat 9 p0.fNats true, BT.of 500119 tySFlight 9 p0.fQueue true] (by rfl))
  (fun e617 =>
   .br 0 (e617 != 0)
   (.done ((SNetwork.mk [] [] [] 0 0), (SDelivery.mk 0 (SAddr.mk ByteArray.empty 0) (SAddr.mk ByteArray.empty 0) ByteArray.empty), e617))
   (.call 6002 (s77 p0.fNow p0.fSerial p0.fHosts p0.fNats p0.fQueue) [(1000000, 500116), (1000001, 500117), (1000002, 500118), (1000003, 500119)] [(500120, 500121)] fun r632 =>
    .gh 0 (.share (VwW.of 500117 tySHost1 p0.fHosts) 1) (.gh 0 (.share (VwW.of 500118 tySNat r632.1) 1) (.gh 0 (.share (VwW.of 500121 tySFlight r632.2.2.2.2.1) 1) (.done ((SNetwork.mk p0.fHosts r632.1 r632.2.2.2.2.1 r632.2.2.2.2.2.1 p0.fSerial), (SDelivery.mk r632.2.1 (SAddr.mk r632.2.2.2.2.2.2.1 r632.2.2.2.2.2.2.2.1) (SAddr.mk r632.2.2.1 r632.2.2.2.1) r632.2.2.2.2.2.2.2.2), 0)))))))
theorem k48 (p0 : SNetwork) : FnD Tryd.prog GG [0, 1, 2, 3, 4, 5, 6, 7, 23, 25] Tryd.f48 [.agg [.sl false 5 (List.map tySHost1.c p0.fHosts), .sl false 9 (List.map tySNat.c p0.fNats), .sl false 9 (List.map tySFlight.c p0.fQueue), .int .i64 p0.fNow, .int .i64 p0.fSerial]] (g48 p0) (fun r => .tup [.agg [.sl false 5 (List.map tySHost1.c r.1.fHosts), .sl false 9 (List.map tySNat.c r.1.fNats), .sl false 9 (List.map tySFlight.c r.1.fQueue), .int .i64 r.1.fNow, .int .i64 r.1.fSerial], .agg [.int .i64 r.2.1.fHost, .str r.2.1.fFrom.fHost, .int .i64 r.2.1.fFrom.fPort, .str r.2.1.fTo.fHost, .int .i64 r.2.1.fTo.fPort, .str r.2.1.fData], .int .i64 r.2.2]) := by unfold FnD; kernel_rfl
noncomputable def s48 (p0 : SNetwork) : EV.Spec Tryd.prog GG (SNetwork × SDelivery × Int) := .ofFn 48 mixed Tryd.func48 (k48 p0)
end Go.Proofs.YtdiagiflihpidaaDoor
namespace Go.Proofs.YtdiagiflihpidaaDoor
open Go Go.EV
set_option maxRecDepth 100000
noncomputable def g18 (p0 : SNat) (p1 : Int) (p2 : (List SAddr)) : TT (Int) :=
 .call 1002 (s53 p0) [] [] fun r650 =>
 .br 0 (!r650)
 (.done 130)
 (.cnd 3 [18]
  (.br 3006 (decide (p1 < p0.fNow))
   (.done true)
   (.done (decide ((1099511627776 : Int) < p1))))
  (fun (c651 : Bool) => [.bool c651]) fun c651 =>
  .br 0 c651
  (.done 2)
  (.bind2 1
   (.lp (fun (l655 : Int) => Ext.lit .normal [(2, .sl false 2 (List.map tySAddr.c p2)), (3, .ptr 3 0 0), (6, .int .i64 0), (7, .int .i64 l655)] [(3, ⟨9, true, [[.int .i64 p0.fMapping, .int .i64 p0.fFilter, .int .i64 p0.fTimeout, .bool p0.fHairpin, .str p0.fHost, .int .i64 p0.fLow, .int .i64 p0.fHigh, .int .i64 p0.fNow, .sl false 7 (List.map tySBinding.c p0.fTable)]]⟩)])
    (fun l655 =>
     .br 0 (decide (l655 < (mlen tySAddr p2)))
     (.row 8003 tySAddr p2 l655.toNat (decide (0 ≤ l655)) fun x656 =>
      .call 8008 (s54 x656 (p0.fHost.size : Int)) [] [] fun r657 =>
      .br 0 (!r657)
      (.done (.inr (.inl ())))
      (.done (.inl (wi64 (l655 + 1)))))
     (.done (.inr (.inr ()))))
    0)
   (fun (_ : Unit) => Ext.lit .ret [(6, .int .i64 2)] [])
   (fun (_ : Unit) => Ext.lit (.exit 0) [(6, .int .i64 0)] [])
   (fun _ =>
    .done 2)
   (fun _ =>
    .done 0)))
theorem k18 (p0 : SNat) (p1 : Int) (p2 : (List SAddr)) : FnD Tryd.prog GG [0, 1, 2, 3, 6, 7, 10, 18, 22, 33] Tryd.f18 [.agg [.int .i64 p0.fMapping, .int .i64 p0.fFilter, .int .i64 p0.fTimeout, .bool p0.fHairpin, .str p0.fHost, .int .i64 p0.fLow, .int .i64 p0.fHigh, .int .i64 p0.fNow, .sl false 7 (List.map tySBinding.c p0.fTable)], .int .i64 p1, .sl false 2 (List.map tySAddr.c p2)] (g18 p0 p1 p2) (fun r => .int .i64 r) := by unfold FnD; kernel_rfl
noncomputable def s18 (p0 : SNat) (p1 : Int) (p2 : (List SAddr)) : EV.Spec Tryd.prog GG (Int) := .ofFn 18 mixed Tryd.func18 (k18 p0 p1 p2)
noncomputable def g61 (p0 : SBinding) (p1 : SAddr) : TT (Bool) :=
 .bind2 1
 (.lp (fun (l681 : Int) => Ext.lit .normal [(2, .ptr 2 0 0), (3, .ptr 3 0 0), (4, .bool false), (5, .int .i64 l681)] [(2, ⟨7, true, [[.str p0.fInside.fHost, .int .i64 p0.fInside.fPort, .str p0.fPeer.fHost, .int .i64 p0.fPeer.fPort, .int .i64 p0.fPort, .int .i64 p0.fUntil, .sl false 2 (List.map tySAddr.c p0.fOpen)]]⟩), (3, ⟨2, true, [[.str p1.fHost, .int .i64 p1.fPort]]⟩)])
  (fun l681 =>
   .br 0 (decide (l681 < (mlen tySAddr p0.fOpen)))
   (.row 4004 tySAddr p0.fOpen l681.toNat (decide (0 ≤ l681)) fun x682 =>
    .br 0 ((decide (x682.fHost = p1.fHost)) && ((x682.fPort == p1.fPort) && true))
    (.done (.inr (.inl ())))
    (.done (.inl (wi64 (l681 + 1)))))
   (.done (.inr (.inr ()))))
  0)
 (fun (_ : Unit) => Ext.lit .ret [(4, .bool true)] [])
 (fun (_ : Unit) => Ext.lit (.exit 0) [(4, .bool false)] [])
 (fun _ =>
  .done true)
 (fun _ =>
  .done false)
theorem k61 (p0 : SBinding) (p1 : SAddr) : FnD Tryd.prog GG [0, 1, 2, 3, 4, 5, 10, 19] Tryd.f61 [.agg [.str p0.fInside.fHost, .int .i64 p0.fInside.fPort, .str p0.fPeer.fHost, .int .i64 p0.fPeer.fPort, .int .i64 p0.fPort, .int .i64 p0.fUntil, .sl false 2 (List.map tySAddr.c p0.fOpen)], .agg [.str p1.fHost, .int .i64 p1.fPort]] (g61 p0 p1) (fun r => .bool r) := by unfold FnD; kernel_rfl
noncomputable def s61 (p0 : SBinding) (p1 : SAddr) : EV.Spec Tryd.prog GG (Bool) := .ofFn 61 mixed Tryd.func61 (k61 p0 p1)
noncomputable def g26 (p0 : SNat) (p1 : Int) (p2 : SAddr) (p3 : SAddr) : TT (SNat × SAddr × Int) :=
 .view 1006 (s18 p0 p1 [p2, p3]) [] fun r688 =>
 .br 0 (r688 != 0)
 (.done ((SNat.mk 0 0 0 false ByteArray.empty 0 0 0 []), (SAddr.mk ByteArray.empty 0), r688))
 (.br 0 (decide (p2.fHost = p0.fHost))
  (.done ((SNat.mk 0 0 0 false ByteArray.empty 0 0 0 []), (SAddr.mk ByteArray.empty 0), 2))
  (.call 6003 (s21 p0 p1) [] [(600014, 500127)] fun r689 =>
   .bind 1
   (.lp (fun (l695 : Int × Int) => Ext.of .normal [(1, .int .i64 p1), (4, .ptr 4 0 0), (6, .ptr 6 0 0), (7, .ptr 7 0 0), (8, .ptr 8 0 0), (9, .ptr 9 0 0), (10, .int .i64 0), (12, .int .i64 l695.1), (13, .int .i64 l695.2)] [(4, ⟨9, true, [[.int .i64 p0.fMapping, .int .i64 p0.fFilter, .int .i64 p0.fTimeout, .bool p0.fHairpin, .str p0.fHost, .int .i64 p0.fLow, .int .i64 p0.fHigh, .int .i64 p1, .ref 500127 0 r689.length]]⟩), (6, ⟨2, true, [[.str p2.fHost, .int .i64 p2.fPort]]⟩), (7, ⟨2, true, [[.str p3.fHost, .int .i64 p3.fPort]]⟩), (8, ⟨9, true, [[.int .i64 0, .int .i64 0, .int .i64 0, .bool false, .str ByteArray.empty, .int .i64 0, .int .i64 0, .int .i64 0, .nilsl]]⟩), (9, ⟨2, true, [[.str ByteArray.empty, .int .i64 0]]⟩)] [BT.of 500127 tySBindingO6 7 r689 true] (by rfl))
    (fun l695 =>
     .br 0 (decide (l695.2 < (r689.length : Int)))
     (.cnd 11 [64]
      (.chk 11004 (decide (0 ≤ l695.2) && decide (l695.2 < (r689.length : Int))) (.row 11006 tySBindingO6 r689 (0 + l695.2.toNat) true fun x696 =>
       .br 11010 ((decide (x696.fInside.fHost = p2.fHost)) && ((x696.fInside.fPort == p2.fPort) && true))
       (.chk 11013 (decide (0 ≤ l695.2) && decide (l695.2 < (r689.length : Int))) (.row 11015 tySBindingO6 r689 (0 + l695.2.toNat) true fun x697 =>
        .call 11019 (s59 p0.fMapping p3) [] [] fun r698 =>
        .done ((decide (x697.fPeer.fHost = r698.fHost)) && ((x697.fPeer.fPort == r698.fPort) && true))))
       (.done false)))
      (fun (c699 : Bool) => [.bool c699]) fun c699 =>
      .br 0 c699
      (.done (.inl (l695.2, (wi64 (l695.2 + 1)))))
      (.done (.inl (l695.1, (wi64 (l695.2 + 1))))))
     (.done (.inr l695.1)))
    ((-1), 0))
   (fun (e700 : Int) => Ext.of (.exit 0) [(1, .int .i64 p1), (4, .ptr 4 0 0), (6, .ptr 6 0 0), (7, .ptr 7 0 0), (8, .ptr 8 0 0), (9, .ptr 9 0 0), (10, .int .i64 0), (12, .int .i64 e700)] [(4, ⟨9, true, [[.int .i64 p0.fMapping, .int .i64 p0.fFilter, .int .i64 p0.fTimeout, .bool p0.fHairpin, .str p0.fHost, .int .i64 p0.fLow, .int .i64 p0.fHigh, .int .i64 p1, .ref 500127 0 r689.length]]⟩), (6, ⟨2, true, [[.str p2.fHost, .int .i64 p2.fPort]]⟩), (7, ⟨2, true, [[.str p3.fHost, .int .i64 p3.fPort]]⟩), (8, ⟨9, true, [[.int .i64 0, .int .i64 0, .int .i64 0, .bool false, .str ByteArray.empty, .int .i64 0, .int .i64 0, .int .i64 0, .nilsl]]⟩), (9, ⟨2, true, [[.str ByteArray.empty, .int .i64 0]]⟩)] [BT.of 500127 tySBindingO6 7 r689 true] (by rfl))
   (fun e700 =>
    .bind2 0
    (.br 0 (decide (e700 < 0))
     (.view 14004 (s60 (SNat.mk p0.fMapping p0.fFilter p0.fTimeout p0.fHairpin p0.fHost p0.fLow p0.fHigh p1 r689) p2.fPort) [(VwW.of 500127 tySBindingO6 r689)] fun r701 =>
      .br 0 (r701 == 0)
      (.done (.inl ()))
      (.call 18007 (s59 p0.fMapping p3) [] [] fun r702 =>
       .app 18011 tySBindingO6 r689 [(SBinding.mk p2 r702 r701 0 [])] 88 false (by intro h; cases h) (.gh 0 (.ren 89 600128) (.done (.inr ((r689 ++ [(SBinding.mk p2 r702 r701 0 [])]), (r689.length : Int)))))))
     (.gh 0 (.ren 500127 600128) (.done (.inr (r689, e700)))))
    (fun (e703 : Unit) => Ext.of .ret [(1, .int .i64 p1), (4, .ptr 4 0 0), (7, .ptr 7 0 0), (8, .ptr 8 0 0), (9, .ptr 9 0 0), (10, .int .i64 4), (12, .int .i64 e700)] [(4, ⟨9, true, [[.int .i64 p0.fMapping, .int .i64 p0.fFilter, .int .i64 p0.fTimeout, .bool p0.fHairpin, .str p0.fHost, .int .i64 p0.fLow, .int .i64 p0.fHigh, .int .i64 p1, .ref 500127 0 r689.length]]⟩), (7, ⟨2, true, [[.str p3.fHost, .int .i64 p3.fPort]]⟩), (8, ⟨9, true, [[.int .i64 0, .int .i64 0, .int .i64 0, .bool false, .str ByteArray.empty, .int .i64 0, .int .i64 0, .int .i64 0, .nilsl]]⟩), (9, ⟨2, true, [[.str ByteArray.empty, .int .i64 0]]⟩)] [BT.of 500127 tySBindingO6 7 r689 true] (by rfl))
    (fun (e704 : (List SBinding) × Int) => Ext.of .normal [(1, .int .i64 p1), (4, .ptr 4 0 0), (7, .ptr 7 0 0), (8, .ptr 8 0 0), (9, .ptr 9 0 0), (10, .int .i64 0), (12, .int .i64 e704.2)] [(4, ⟨9, true, [[.int .i64 p0.fMapping, .int .i64 p0.fFilter, .int .i64 p0.fTimeout, .bool p0.fHairpin, .str p0.fHost, .int .i64 p0.fLow, .int .i64 p0.fHigh, .int .i64 p1, .ref 600128 0 e704.1.length]]⟩), (7, ⟨2, true, [[.str p3.fHost, .int .i64 p3.fPort]]⟩), (8, ⟨9, true, [[.int .i64 0, .int .i64 0, .int .i64 0, .bool false, .str ByteArray.empty, .int .i64 0, .int .i64 0, .int .i64 0, .nilsl]]⟩), (9, ⟨2, true, [[.str ByteArray.empty, .int .i64 0]]⟩)] [BT.of 600128 tySBindingO6 7 e704.1 true] (by rfl))
    (fun e703 =>
     .done ((SNat.mk 0 0 0 false ByteArray.empty 0 0 0 []), (SAddr.mk ByteArray.empty 0), 4))
    (fun e704 =>
     .chk 19004 (decide (0 ≤ e704.2) && decide (e704.2 < (e704.1.length : Int))) (.rowt 19005 tySBindingO6 e704.1 (0 + e704.2.toNat) 6 fun x705 =>
     .re 19005 (ReW.take 600128 7 true tySBindingO6 e704.1 (0 + e704.2.toNat) [.str x705.fInside.fHost, .int .i64 x705.fInside.fPort, .str x705.fPeer.fHost, .int .i64 x705.fPeer.fPort, .int .i64 x705.fPort, .int .i64 x705.fUntil, .sl false 2 (List.map tySAddr.c x705.fOpen)] rfl 95 2 tySAddr x705.fOpen (fun _ => rfl) (fun n => .agg [.str x705.fInside.fHost, .int .i64 x705.fInside.fPort, .str x705.fPeer.fHost, .int .i64 x705.fPeer.fPort, .int .i64 x705.fPort, .int .i64 x705.fUntil, .ref 95 0 n])) (.cnd 21 [112]
     (.br 21005 (p0.fFilter != 1)
      (.call 21009 (s59 p0.fFilter p3) [] [] fun r706 =>
       .view 21010 (s61 (SBinding.mk x705.fInside x705.fPeer x705.fPort (wi64 (p1 + p0.fTimeout)) x705.fOpen) r706) [(VwW.of 95 tySAddr x705.fOpen)] fun r707 =>
       .done (!r707))
      (.done false))
     (fun (c708 : Bool) => [.bool c708]) fun c708 =>
     .bind 0
     (.br 0 c708
      (.call 22006 (s59 p0.fFilter p3) [] [] fun r709 =>
       .app 22008 tySAddr x705.fOpen [r709] 24 false (by intro h; cases h) (.br 0 (decide ((16 : Int) < ((x705.fOpen ++ [r709]).length : Int)))
       (.chk 24003 (decide (0 ≤ (1 : Int)) && decide ((1 : Int) ≤ ((x705.fOpen ++ [r709]).length : Int))) (.cutg 0 120 tySAddr (x705.fOpen ++ [r709]) 1 (fun _ => rfl) (.gh 0 (.len 120 (((x705.fOpen ++ [r709]).drop 1).length) [((x705.fOpen ++ [r709]).length - 1)] (by simp)) (.gh 0 (.ren 120 600129) (.done ((x705.fOpen ++ [r709]).drop 1))))))
       (.gh 0 (.ren 120 600129) (.done (x705.fOpen ++ [r709])))))
      (.gh 0 (.ren 95 600129) (.done x705.fOpen)))
     (fun (e710 : (List SAddr)) => Ext.of .normal [(4, .ptr 4 0 0), (8, .ptr 8 0 0), (9, .ptr 9 0 0), (10, .int .i64 0), (12, .int .i64 e704.2), (15, .ptr 15 0 0)] [(4, ⟨9, true, [[.int .i64 p0.fMapping, .int .i64 p0.fFilter, .int .i64 p0.fTimeout, .bool p0.fHairpin, .str p0.fHost, .int .i64 p0.fLow, .int .i64 p0.fHigh, .int .i64 p1, .ref 600128 0 e704.1.length]]⟩), (8, ⟨9, true, [[.int .i64 0, .int .i64 0, .int .i64 0, .bool false, .str ByteArray.empty, .int .i64 0, .int .i64 0, .int .i64 0, .nilsl]]⟩), (9, ⟨2, true, [[.str ByteArray.empty, .int .i64 0]]⟩), (15, ⟨7, true, [[.str x705.fInside.fHost, .int .i64 x705.fInside.fPort, .str x705.fPeer.fHost, .int .i64 x705.fPeer.fPort, .int .i64 x705.fPort, .int .i64 (wi64 (p1 + p0.fTimeout)), .ref 600129 0 e710.length]]⟩)] [BT.hole 600128 tySBindingO6 7 e704.1 (0 + e704.2.toNat) [.str x705.fInside.fHost, .int .i64 x705.fInside.fPort, .str x705.fPeer.fHost, .int .i64 x705.fPeer.fPort, .int .i64 x705.fPort, .int .i64 x705.fUntil, .sl false 2 (List.map tySAddr.c x705.fOpen)] rfl true, BT.of 600129 tySAddr 2 e710 false] (by rfl))
     (fun e710 =>
      .chk 25005 (decide (0 ≤ e704.2) && decide (e704.2 < (e704.1.length : Int))) (.nst 25006 tySBindingO6 e704.1 [.str x705.fInside.fHost, .int .i64 x705.fInside.fPort, .str x705.fPeer.fHost, .int .i64 x705.fPeer.fPort, .int .i64 x705.fPort, .int .i64 x705.fUntil, .sl false 2 (List.map tySAddr.c x705.fOpen)] (0 + e704.2.toNat) 6 (SBinding.mk x705.fInside x705.fPeer x705.fPort (wi64 (p1 + p0.fTimeout)) e710) tySAddr e710 none (.gh 28 (.len 600128 ((e704.1.set (0 + e704.2.toNat) (SBinding.mk x705.fInside x705.fPeer x705.fPort (wi64 (p1 + p0.fTimeout)) e710)).length) [e704.1.length] (by simp)) (.gh 0 (.share (VwW.of 600128 tySBindingO6 (e704.1.set (0 + e704.2.toNat) (SBinding.mk x705.fInside x705.fPeer x705.fPort (wi64 (p1 + p0.fTimeout)) e710))) 1) (.done ((SNat.mk p0.fMapping p0.fFilter p0.fTimeout p0.fHairpin p0.fHost p0.fLow p0.fHigh p1 (e704.1.set (0 + e704.2.toNat) (SBinding.mk x705.fInside x705.fPeer x705.fPort (wi64 (p1 + p0.fTimeout)) e710))), (SAddr.mk p0.fHost x705.fPort), 0))))))))))))
theorem k26 (p0 : SNat) (p1 : Int) (p2 : SAddr) (p3 : SAddr) : FnD Tryd.prog GG [0, 1, 2, 3, 4, 6, 7, 8, 9, 10, 11, 12, 13, 14, 15, 23, 31, 41, 64, 67, 73, 112, 125] Tryd.f26 [.agg [.int .i64 p0.fMapping, .int .i64 p0.fFilter, .int .i64 p0.fTimeout, .bool p0.fHairpin, .str p0.fHost, .int .i64 p0.fLow, .int .i64 p0.fHigh, .int .i64 p0.fNow, .sl false 7 (List.map tySBinding.c p0.fTable)], .int .i64 p1, .agg [.str p2.fHost, .int .i64 p2.fPort], .agg [.str p3.fHost, .int .i64 p3.fPort]] (g26 p0 p1 p2 p3) (fun r => .tup [.agg [.int .i64 r.1.fMapping, .int .i64 r.1.fFilter, .int .i64 r.1.fTimeout, .bool r.1.fHairpin, .str r.1.fHost, .int .i64 r.1.fLow, .int .i64 r.1.fHigh, .int .i64 r.1.fNow, .sl false 7 (List.map tySBinding.c r.1.fTable)], .agg [.str r.2.1.fHost, .int .i64 r.2.1.fPort], .int .i64 r.2.2]) := by unfold FnD; kernel_rfl
noncomputable def s26 (p0 : SNat) (p1 : Int) (p2 : SAddr) (p3 : SAddr) : EV.Spec Tryd.prog GG (SNat × SAddr × Int) := .ofFn 26 mixed Tryd.func26 (k26 p0 p1 p2 p3)
noncomputable def g72 (p0 : SNetwork) (p1 : Int) (p2 : Int) (p3 : Int) (p4 : SAddr) (p5 : ByteArray) : TT (SNetwork × Int) :=
 .call 1002 (s97 p0) [] [] fun r633 =>
 .br 0 (!r633)
 (.done ((SNetwork.mk [] [] [] 0 0), 140))
 (.cnd 3 [52]
  (.call 3004 (s98 p1 p0.fNow 1099511627776) [] [] fun r634 =>
   .br 3007 (!r634)
   (.done true)
   (.call 3012 (s98 p2 0 (wi64 ((mlen tySHost1 p0.fHosts) - 1))) [] [] fun r635 =>
    .br 3016 (!r635)
    (.done true)
    (.call 3017 (s98 p3 1 65535) [] [] fun r636 =>
     .br 3021 (!r636)
     (.done true)
     (.row 3024 tySHost1 p0.fHosts 0 true fun x637 =>
      .call 3028 (s54 p4 (x637.fIp.size : Int)) [] [] fun r638 =>
      .done (!r638)))))
  (fun (c639 : Bool) => [.bool c639]) fun c639 =>
  .br 0 c639
  (.done ((SNetwork.mk [] [] [] 0 0), 2))
  (.br 0 (decide ((1200 : Int) < (p5.size : Int)))
   (.done ((SNetwork.mk [] [] [] 0 0), 3))
   (.cnd 7 [69]
    (.br 7005 (p0.fSerial == 1099511627776)
     (.done true)
     (.row 7008 tySHost1 p0.fHosts p2.toNat (decide (0 ≤ p2)) fun x640 =>
      .done (x640.fCount == 1099511627776)))
    (fun (c641 : Bool) => [.bool c641]) fun c641 =>
    .br 0 c641
    (.done ((SNetwork.mk [] [] [] 0 0), 6))
    (.call 9002 (s78 p0) [] [(9, 500122), (13, 500123), (17, 500124)] fun r642 =>
     .chk 11004 (decide (0 ≤ p2) && decide (p2 < (r642.1.length : Int))) (.row 11006 tySHost1 r642.1 (0 + p2.toNat) true fun x643 =>
     .chk 11008 (decide (0 ≤ p2) && decide (p2 < (r642.1.length : Int))) (.row 11010 tySHost1 r642.1 (0 + p2.toNat) true fun x644 =>
     .re 11010 (ReW.put 500122 5 tySHost1 r642.1 (0 + p2.toNat) (SHost1.mk x644.fIp x644.fNat x644.fDelay x644.fLose (wi64 (x643.fCount + 1)))) (.gh 14 (.len 500122 ((r642.1.set (0 + p2.toNat) (SHost1.mk x644.fIp x644.fNat x644.fDelay x644.fLose (wi64 (x643.fCount + 1)))).length) [r642.1.length] (by simp)) (.chk 12004 (decide (0 ≤ p2) && decide (p2 < ((r642.1.set (0 + p2.toNat) (SHost1.mk x644.fIp x644.fNat x644.fDelay x644.fLose (wi64 (x643.fCount + 1)))).length : Int))) (.row 12005 tySHost1 (r642.1.set (0 + p2.toNat) (SHost1.mk x644.fIp x644.fNat x644.fDelay x644.fLose (wi64 (x643.fCount + 1)))) (0 + p2.toNat) true fun x645 =>
     .cnd 13 [99]
     (.br 13005 (decide ((0 : Int) < x645.fLose))
      (.chk 13009 (!(x645.fLose == 0)) (.done ((Int.tmod x645.fCount x645.fLose) == 0)))
      (.done false))
     (fun (c646 : Bool) => [.bool c646]) fun c646 =>
     .br 0 c646
     (.gh 0 (.share (VwW.of 500122 tySHost1 (r642.1.set (0 + p2.toNat) (SHost1.mk x644.fIp x644.fNat x644.fDelay x644.fLose (wi64 (x643.fCount + 1))))) 1) (.gh 0 (.share (VwW.of 500123 tySNat r642.2.1) 1) (.gh 0 (.share (VwW.of 500124 tySFlight r642.2.2) 1) (.done ((SNetwork.mk (r642.1.set (0 + p2.toNat) (SHost1.mk x644.fIp x644.fNat x644.fDelay x644.fLose (wi64 (x643.fCount + 1)))) r642.2.1 r642.2.2 p1 p0.fSerial), 0)))))
     (.cnd 16 [125]
      (.br 16005 (decide ((0 : Int) ≤ x645.fNat))
       (.view 16010 (s66 (SNetwork.mk (r642.1.set (0 + p2.toNat) (SHost1.mk x644.fIp x644.fNat x644.fDelay x644.fLose (wi64 (x643.fCount + 1)))) r642.2.1 r642.2.2 p1 p0.fSerial) x645.fNat p4.fHost) [(VwW.of 500122 tySHost1 (r642.1.set (0 + p2.toNat) (SHost1.mk x644.fIp x644.fNat x644.fDelay x644.fLose (wi64 (x643.fCount + 1))))), (VwW.of 500123 tySNat r642.2.1), (VwW.of 500124 tySFlight r642.2.2)] fun r647 =>
        .done (decide ((0 : Int) ≤ r647)))
       (.done false))
      (fun (c648 : Bool) => [.bool c648]) fun c648 =>
      .bind2 0
      (.br 0 c648
       (.done (.inl ((-1), x645.fNat, x645.fIp, p3, r642.2.1)))
       (.br 0 (decide ((0 : Int) ≤ x645.fNat))
        (.chk 19005 (decide (0 ≤ x645.fNat) && decide (x645.fNat < (r642.2.1.length : Int))) (.row 19006 tySNat r642.2.1 (0 + x645.fNat.toNat) true fun x649 =>
         .call 19011 (s26 x649 p1 (SAddr.mk x645.fIp p3) p4) [] [] fun r650 =>
         .br 0 (r650.2.2 != 0)
         (.done (.inr ()))
         (.chk 22006 (decide (0 ≤ x645.fNat) && decide (x645.fNat < (r642.2.1.length : Int))) (.row 22007 tySNat r642.2.1 (0 + x645.fNat.toNat) true fun x651 =>
          .re 22007 (ReW.put 500123 9 tySNat r642.2.1 (0 + x645.fNat.toNat) r650.1) (.gh 25 (.len 500123 ((r642.2.1.set (0 + x645.fNat.toNat) r650.1).length) [r642.2.1.length] (by simp)) (.done (.inl (x645.fNat, (-1), r650.2.1.fHost, r650.2.1.fPort, (r642.2.1.set (0 + x645.fNat.toNat) r650.1)))))))))
        (.done (.inl ((-1), (-1), x645.fIp, p3, r642.2.1)))))
      (fun (e652 : Int × Int × ByteArray × Int × (List SNat)) => Ext.of .normal [(6, .ptr 6 0 0), (12, .ptr 12 0 0), (13, .int .i64 0), (15, .ptr 15 0 0)] [(6, ⟨5, true, [[.ref 500122 0 ((r642.1.set (0 + p2.toNat) (SHost1.mk x644.fIp x644.fNat x644.fDelay x644.fLose (wi64 (x643.fCount + 1)))).length), .ref 500123 0 e652.2.2.2.2.length, .ref 500124 0 r642.2.2.length, .int .i64 p1, .int .i64 p0.fSerial]]⟩), (12, ⟨5, true, [[.nilsl, .nilsl, .nilsl, .int .i64 0, .int .i64 0]]⟩), (15, ⟨9, true, [[.int .i64 (wi64 (p1 + x645.fDelay)), .int .i64 p0.fSerial, .int .i64 e652.1, .int .i64 e652.2.1, .str e652.2.2.1, .int .i64 e652.2.2.2.1, .str p4.fHost, .int .i64 p4.fPort, .str p5]]⟩)] [BT.of 500122 tySHost1 5 (r642.1.set (0 + p2.toNat) (SHost1.mk x644.fIp x644.fNat x644.fDelay x644.fLose (wi64 (x643.fCount + 1)))) true, BT.of 500123 tySNat 9 e652.2.2.2.2 true, BT.of 500124 tySFlight 9 r642.2.2 true] (by rfl))
      (fun (e653 : Unit) => Ext.of .ret [(6, .ptr 6 0 0), (12, .ptr 12 0 0), (13, .int .i64 0), (15, .ptr 15 0 0)] [(6, ⟨5, true, [[.ref 500122 0 ((r642.1.set (0 + p2.toNat) (SHost1.mk x644.fIp x644.fNat x644.fDelay x644.fLose (wi64 (x643.fCount + 1)))).length), .ref 500123 0 r642.2.1.length, .ref 500124 0 r642.2.2.length, .int .i64 p1, .int .i64 p0.fSerial]]⟩), (12, ⟨5, true, [[.ref 500122 0 ((r642.1.set (0 + p2.toNat) (SHost1.mk x644.fIp x644.fNat x644.fDelay x644.fLose (wi64 (x643.fCount + 1)))).length), .ref 500123 0 r642.2.1.length, .ref 500124 0 r642.2.2.length, .int .i64 p1, .int .i64 p0.fSerial]]⟩), (15, ⟨9, true, [[.int .i64 (wi64 (p1 + x645.fDelay)), .int .i64 p0.fSerial, .int .i64 (-1), .int .i64 (-1), .str x645.fIp, .int .i64 p3, .str p4.fHost, .int .i64 p4.fPort, .str p5]]⟩)] [BT.of 500122 tySHost1 5 (r642.1.set (0 + p2.toNat) (SHost1.mk x644.fIp x644.fNat x644.fDelay x644.fLose (wi64 (x643.fCount + 1)))) true, BT.of 500123 tySNat 9 r642.2.1 true, BT.of 500124 tySFlight 9 r642.2.2 true] (by rfl))
      (fun e652 =>
       .cnd 25 [169]
       (.br 25006 (decide ((r642.2.2.length : Int) < 64))
        (.done (decide ((wi64 (p1 + x645.fDelay)) ≤ 1099511627776)))
        (.done false))
       (fun (c654 : Bool) => [.bool c654]) fun c654 =>
       .br 0 c654
       (.app 26005 tySFlight r642.2.2 [(SFlight.mk (wi64 (p1 + x645.fDelay)) p0.fSerial e652.1 e652.2.1 (SAddr.mk e652.2.2.1 e652.2.2.2.1) p4 p5)] 96 false (by intro h; cases h) (.gh 0 (.share (VwW.of 174 tySFlight (r642.2.2 ++ [(SFlight.mk (wi64 (p1 + x645.fDelay)) p0.fSerial e652.1 e652.2.1 (SAddr.mk e652.2.2.1 e652.2.2.2.1) p4 p5)])) 1) (.gh 0 (.share (VwW.of 500122 tySHost1 (r642.1.set (0 + p2.toNat) (SHost1.mk x644.fIp x644.fNat x644.fDelay x644.fLose (wi64 (x643.fCount + 1))))) 1) (.gh 0 (.share (VwW.of 500123 tySNat e652.2.2.2.2) 1) (.done ((SNetwork.mk (r642.1.set (0 + p2.toNat) (SHost1.mk x644.fIp x644.fNat x644.fDelay x644.fLose (wi64 (x643.fCount + 1)))) e652.2.2.2.2 (r642.2.2 ++ [(SFlight.mk (wi64 (p1 + x645.fDelay)) p0.fSerial e652.1 e652.2.1 (SAddr.mk e652.2.2.1 e652.2.2.2.1) p4 p5)]) p1 (wi64 (p0.fSerial + 1))), 0))))))
       (.gh 0 (.share (VwW.of 500122 tySHost1 (r642.1.set (0 + p2.toNat) (SHost1.mk x644.fIp x644.fNat x644.fDelay x644.fLose (wi64 (x643.fCount + 1))))) 1) (.gh 0 (.share (VwW.of 500123 tySNat e652.2.2.2.2) 1) (.gh 0 (.share (VwW.of 500124 tySFlight r642.2.2) 1) (.done ((SNetwork.mk (r642.1.set (0 + p2.toNat) (SHost1.mk x644.fIp x644.fNat x644.fDelay x644.fLose (wi64 (x643.fCount + 1)))) e652.2.2.2.2 r642.2.2 p1 p0.fSerial), 0))))))
      (fun e653 =>
       .gh 0 (.share (VwW.of 500122 tySHost1 (r642.1.set (0 + p2.toNat) (SHost1.mk x644.fIp x644.fNat x644.fDelay x644.fLose (wi64 (x643.fCount + 1))))) 1) (.gh 0 (.share (VwW.of 500123 tySNat r642.2.1) 1) (.gh 0 (.share (VwW.of 500124 tySFlight r642.2.2) 1) (.done ((SNetwork.mk (r642.1.set (0 + p2.toNat) (SHost1.mk x644.fIp x644.fNat x644.fDelay x644.fLose (wi64 (x643.fCount + 1)))) r642.2.1 r642.2.2 p1 p0.fSerial), 0)))))))))))))))
theorem k72 (p0 : SNetwork) (p1 : Int) (p2 : Int) (p3 : Int) (p4 : SAddr) (p5 : ByteArray) : FnD Tryd.prog GG [0, 1, 2, 3, 4, 5, 6, 10, 12, 13, 14, 15, 16, 17, 18, 21, 52, 56, 69, 99, 125, 131, 148, 169] Tryd.f72 [.agg [.sl false 5 (List.map tySHost1.c p0.fHosts), .sl false 9 (List.map tySNat.c p0.fNats), .sl false 9 (List.map tySFlight.c p0.fQueue), .int .i64 p0.fNow, .int .i64 p0.fSerial], .int .i64 p1, .int .i64 p2, .int .i64 p3, .agg [.str p4.fHost, .int .i64 p4.fPort], .str p5] (g72 p0 p1 p2 p3 p4 p5) (fun r => .tup [.agg [.sl false 5 (List.map tySHost1.c r.1.fHosts), .sl false 9 (List.map tySNat.c r.1.fNats), .sl false 9 (List.map tySFlight.c r.1.fQueue), .int .i64 r.1.fNow, .int .i64 r.1.fSerial], .int .i64 r.2]) := by unfold FnD; kernel_rfl
noncomputable def s72 (p0 : SNetwork) (p1 : Int) (p2 : Int) (p3 : Int) (p4 : SAddr) (p5 : ByteArray) : EV.Spec Tryd.prog GG (SNetwork × Int) := .ofFn 72 mixed Tryd.func72 (k72 p0 p1 p2 p3 p4 p5)
noncomputable def g28 (p0 : SNat) (p1 : Int) (p2 : SAddr) (p3 : SAddr) : TT (SNat × SAddr × Int) :=
 .view 1006 (s18 p0 p1 [p2, p3]) [] fun r666 =>
 .br 0 (r666 != 0)
 (.done ((SNat.mk 0 0 0 false ByteArray.empty 0 0 0 []), (SAddr.mk ByteArray.empty 0), r666))
 (.br 0 (!decide (p3.fHost = p0.fHost))
  (.done ((SNat.mk 0 0 0 false ByteArray.empty 0 0 0 []), (SAddr.mk ByteArray.empty 0), 2))
  (.call 6003 (s21 p0 p1) [] [(600014, 500133)] fun r667 =>
   .bind2 1
   (.lp (fun (l673 : Int) => Ext.of .normal [(4, .ptr 4 0 0), (6, .ptr 6 0 0), (7, .ptr 7 0 0), (8, .ptr 8 0 0), (9, .ptr 9 0 0), (10, .int .i64 0), (12, .int .i64 l673)] [(4, ⟨9, true, [[.int .i64 p0.fMapping, .int .i64 p0.fFilter, .int .i64 p0.fTimeout, .bool p0.fHairpin, .str p0.fHost, .int .i64 p0.fLow, .int .i64 p0.fHigh, .int .i64 p1, .ref 500133 0 r667.length]]⟩), (6, ⟨2, true, [[.str p2.fHost, .int .i64 p2.fPort]]⟩), (7, ⟨2, true, [[.str p3.fHost, .int .i64 p3.fPort]]⟩), (8, ⟨9, true, [[.int .i64 0, .int .i64 0, .int .i64 0, .bool false, .str ByteArray.empty, .int .i64 0, .int .i64 0, .int .i64 0, .nilsl]]⟩), (9, ⟨2, true, [[.str ByteArray.empty, .int .i64 0]]⟩)] [BT.of 500133 tySBindingO6 7 r667 true] (by rfl))
    (fun l673 =>
     .br 0 (decide (l673 < (r667.length : Int)))
     (.chk 10004 (decide (0 ≤ l673) && decide (l673 < (r667.length : Int))) (.row 10005 tySBindingO6 r667 (0 + l673.toNat) true fun x674 =>
      .cnd 11 [64]
      (.br 11007 (x674.fPort == p3.fPort)
       (.br 11011 (p0.fFilter == 1)
        (.done true)
        (.call 11015 (s59 p0.fFilter p2) [] [] fun r675 =>
         .call 11016 (s61 x674 r675) [] [] fun r676 =>
         .done r676))
       (.done false))
      (fun (c677 : Bool) => [.bool c677]) fun c677 =>
      .br 0 c677
      (.done (.inr (.inl (x674.fInside.fHost, x674.fInside.fPort))))
      (.done (.inl (wi64 (l673 + 1))))))
     (.done (.inr (.inr ()))))
    0)
   (fun (e678 : ByteArray × Int) => Ext.of .ret [(8, .ptr 8 0 0), (9, .ptr 9 0 0), (10, .int .i64 0)] [(8, ⟨9, true, [[.int .i64 p0.fMapping, .int .i64 p0.fFilter, .int .i64 p0.fTimeout, .bool p0.fHairpin, .str p0.fHost, .int .i64 p0.fLow, .int .i64 p0.fHigh, .int .i64 p1, .ref 500133 0 r667.length]]⟩), (9, ⟨2, true, [[.str e678.1, .int .i64 e678.2]]⟩)] [BT.of 500133 tySBindingO6 7 r667 true] (by rfl))
   (fun (e679 : Unit) => Ext.lit (.exit 0) [(8, .ptr 8 0 0), (9, .ptr 9 0 0), (10, .int .i64 0)] [(8, ⟨9, true, [[.int .i64 0, .int .i64 0, .int .i64 0, .bool false, .str ByteArray.empty, .int .i64 0, .int .i64 0, .int .i64 0, .nilsl]]⟩), (9, ⟨2, true, [[.str ByteArray.empty, .int .i64 0]]⟩)])
   (fun e678 =>
    .gh 0 (.share (VwW.of 500133 tySBindingO6 r667) 0) (.done ((SNat.mk p0.fMapping p0.fFilter p0.fTimeout p0.fHairpin p0.fHost p0.fLow p0.fHigh p1 r667), (SAddr.mk e678.1 e678.2), 0)))
   (fun e679 =>
    .done ((SNat.mk 0 0 0 false ByteArray.empty 0 0 0 []), (SAddr.mk ByteArray.empty 0), 4))))
theorem k28 (p0 : SNat) (p1 : Int) (p2 : SAddr) (p3 : SAddr) : FnD Tryd.prog GG [0, 1, 2, 3, 4, 6, 7, 8, 9, 10, 11, 12, 13, 21, 29, 39, 64] Tryd.f28 [.agg [.int .i64 p0.fMapping, .int .i64 p0.fFilter, .int .i64 p0.fTimeout, .bool p0.fHairpin, .str p0.fHost, .int .i64 p0.fLow, .int .i64 p0.fHigh, .int .i64 p0.fNow, .sl false 7 (List.map tySBinding.c p0.fTable)], .int .i64 p1, .agg [.str p2.fHost, .int .i64 p2.fPort], .agg [.str p3.fHost, .int .i64 p3.fPort]] (g28 p0 p1 p2 p3) (fun r => .tup [.agg [.int .i64 r.1.fMapping, .int .i64 r.1.fFilter, .int .i64 r.1.fTimeout, .bool r.1.fHairpin, .str r.1.fHost, .int .i64 r.1.fLow, .int .i64 r.1.fHigh, .int .i64 r.1.fNow, .sl false 7 (List.map tySBinding.c r.1.fTable)], .agg [.str r.2.1.fHost, .int .i64 r.2.1.fPort], .int .i64 r.2.2]) := by unfold FnD; kernel_rfl
noncomputable def s28 (p0 : SNat) (p1 : Int) (p2 : SAddr) (p3 : SAddr) : EV.Spec Tryd.prog GG (SNat × SAddr × Int) := .ofFn 28 mixed Tryd.func28 (k28 p0 p1 p2 p3)
noncomputable def g74 (p0 : SNetwork) : TT (SNetwork × SDelivery × Int) :=
 .call 1002 (s99 p0) [] [] fun r655 =>
 .br 0 (r655.2 != 0)
 (.done ((SNetwork.mk [] [] [] 0 0), (SDelivery.mk 0 (SAddr.mk ByteArray.empty 0) (SAddr.mk ByteArray.empty 0) ByteArray.empty), r655.2))
 (.call 4002 (s78 p0) [] [(9, 500130), (13, 500131), (17, 500132)] fun r656 =>
  .view 5002 (s100 (SNetwork.mk r656.1 r656.2.1 r656.2.2 p0.fNow p0.fSerial)) [(VwW.of 500130 tySHost1 r656.1), (VwW.of 500131 tySNat r656.2.1), (VwW.of 500132 tySFlight r656.2.2)] fun r657 =>
  .chk 6004 (decide (0 ≤ r657) && decide (r657 < (r656.2.2.length : Int))) (.row 6005 tySFlight r656.2.2 (0 + r657.toNat) true fun x658 =>
  .chk 7004 (decide (0 ≤ r657) && decide (r657 ≤ (r656.2.2.length : Int))) (.chk 7009 (decide (0 ≤ (wi64 (r657 + 1))) && decide ((wi64 (r657 + 1)) ≤ (r656.2.2.length : Int))) (.opr 7010 (Rule.appCut (ty := tySFlight) (t := 75) (t2 := 75) (e := 144) (e2 := 144) (z := 9) (bytes := 96) (.tmp 37) (.tmp 42) 43 500132 r657.toNat ((wi64 (r657 + 1)).toNat) (r656.2.2.length - (wi64 (r657 + 1)).toNat) r656.2.2 (by kernel_rfl) (by kernel_rfl) (by kernel_rfl) (by decide) (by kernel_rfl) (fun _ => rfl)) fun _ =>
  .br 0 (decide ((0 : Int) ≤ x658.fWithin))
  (.view 11007 (s66 (SNetwork.mk r656.1 r656.2.1 (r656.2.2.take r657.toNat ++ (r656.2.2.drop ((wi64 (r657 + 1)).toNat)).take (r656.2.2.length - (wi64 (r657 + 1)).toNat)) (if x658.fDue > p0.fNow then x658.fDue else p0.fNow) p0.fSerial) x658.fWithin x658.fTo.fHost) [(VwW.of 500130 tySHost1 r656.1), (VwW.of 500131 tySNat r656.2.1), (VwW.of 43 tySFlight (r656.2.2.take r657.toNat ++ (r656.2.2.drop ((wi64 (r657 + 1)).toNat)).take (r656.2.2.length - (wi64 (r657 + 1)).toNat)))] fun r659 =>
   .gh 0 (.share (VwW.of 43 tySFlight (r656.2.2.take r657.toNat ++ (r656.2.2.drop ((wi64 (r657 + 1)).toNat)).take (r656.2.2.length - (wi64 (r657 + 1)).toNat))) 1) (.gh 0 (.share (VwW.of 500130 tySHost1 r656.1) 1) (.gh 0 (.share (VwW.of 500131 tySNat r656.2.1) 1) (.done ((SNetwork.mk r656.1 r656.2.1 (r656.2.2.take r657.toNat ++ (r656.2.2.drop ((wi64 (r657 + 1)).toNat)).take (r656.2.2.length - (wi64 (r657 + 1)).toNat)) (if x658.fDue > p0.fNow then x658.fDue else p0.fNow) p0.fSerial), (SDelivery.mk r659 x658.fFrom x658.fTo x658.fData), 0)))))
  (.view 13005 (s66 (SNetwork.mk r656.1 r656.2.1 (r656.2.2.take r657.toNat ++ (r656.2.2.drop ((wi64 (r657 + 1)).toNat)).take (r656.2.2.length - (wi64 (r657 + 1)).toNat)) (if x658.fDue > p0.fNow then x658.fDue else p0.fNow) p0.fSerial) (-1) x658.fTo.fHost) [(VwW.of 500130 tySHost1 r656.1), (VwW.of 500131 tySNat r656.2.1), (VwW.of 43 tySFlight (r656.2.2.take r657.toNat ++ (r656.2.2.drop ((wi64 (r657 + 1)).toNat)).take (r656.2.2.length - (wi64 (r657 + 1)).toNat)))] fun r660 =>
   .br 0 (decide ((0 : Int) ≤ r660))
   (.gh 0 (.share (VwW.of 43 tySFlight (r656.2.2.take r657.toNat ++ (r656.2.2.drop ((wi64 (r657 + 1)).toNat)).take (r656.2.2.length - (wi64 (r657 + 1)).toNat))) 1) (.gh 0 (.share (VwW.of 500130 tySHost1 r656.1) 1) (.gh 0 (.share (VwW.of 500131 tySNat r656.2.1) 1) (.done ((SNetwork.mk r656.1 r656.2.1 (r656.2.2.take r657.toNat ++ (r656.2.2.drop ((wi64 (r657 + 1)).toNat)).take (r656.2.2.length - (wi64 (r657 + 1)).toNat)) (if x658.fDue > p0.fNow then x658.fDue else p0.fNow) p0.fSerial), (SDelivery.mk r660 x658.fFrom x658.fTo x658.fData), 0)))))
   (.bind 1
    (.lp (fun (l669 : Int × ByteArray × Int × (List SNat) × Int) => Ext.of .normal [(1, .ptr 1 0 0), (2, .ptr 2 0 0), (3, .ptr 3 0 0), (4, .int .i64 0), (8, .ptr 8 0 0), (9, .ptr 9 0 0), (11, .int .i64 l669.2.2.2.2)] [(1, ⟨5, true, [[.ref 500130 0 r656.1.length, .ref 500131 0 l669.2.2.2.1.length, .ref 43 0 ((r656.2.2.take r657.toNat ++ (r656.2.2.drop ((wi64 (r657 + 1)).toNat)).take (r656.2.2.length - (wi64 (r657 + 1)).toNat)).length), .int .i64 (if x658.fDue > p0.fNow then x658.fDue else p0.fNow), .int .i64 p0.fSerial]]⟩), (2, ⟨5, true, [[.nilsl, .nilsl, .nilsl, .int .i64 0, .int .i64 0]]⟩), (3, ⟨6, true, [[.int .i64 0, .str ByteArray.empty, .int .i64 0, .str ByteArray.empty, .int .i64 0, .str ByteArray.empty]]⟩), (8, ⟨9, true, [[.int .i64 x658.fDue, .int .i64 x658.fSerial, .int .i64 x658.fVia, .int .i64 x658.fWithin, .str x658.fFrom.fHost, .int .i64 x658.fFrom.fPort, .str x658.fTo.fHost, .int .i64 x658.fTo.fPort, .str x658.fData]]⟩), (9, ⟨6, true, [[.int .i64 l669.1, .str x658.fFrom.fHost, .int .i64 x658.fFrom.fPort, .str l669.2.1, .int .i64 l669.2.2.1, .str x658.fData]]⟩)] [BT.of 43 tySFlight 9 (r656.2.2.take r657.toNat ++ (r656.2.2.drop ((wi64 (r657 + 1)).toNat)).take (r656.2.2.length - (wi64 (r657 + 1)).toNat)) true, BT.of 500130 tySHost1 5 r656.1 true, BT.of 500131 tySNat 9 l669.2.2.2.1 true] (by rfl))
     (fun l669 =>
      .br 0 (decide (l669.2.2.2.2 < (l669.2.2.2.1.length : Int)))
      (.cnd 20 [113]
       (.chk 20004 (decide (0 ≤ l669.2.2.2.2) && decide (l669.2.2.2.2 < (l669.2.2.2.1.length : Int))) (.row 20006 tySNat l669.2.2.2.1 (0 + l669.2.2.2.2.toNat) true fun x670 =>
        .br 20012 (!decide (x670.fHost = x658.fTo.fHost))
        (.done true)
        (.br 20017 (l669.2.2.2.2 == x658.fVia)
         (.chk 20020 (decide (0 ≤ l669.2.2.2.2) && decide (l669.2.2.2.2 < (l669.2.2.2.1.length : Int))) (.row 20022 tySNat l669.2.2.2.1 (0 + l669.2.2.2.2.toNat) true fun x671 =>
          .done (!x671.fHairpin)))
         (.done false))))
       (fun (c672 : Bool) => [.bool c672]) fun c672 =>
       .br 0 c672
       (.done (.inl (l669.1, l669.2.1, l669.2.2.1, l669.2.2.2.1, (wi64 (l669.2.2.2.2 + 1)))))
       (.chk 21004 (decide (0 ≤ l669.2.2.2.2) && decide (l669.2.2.2.2 < (l669.2.2.2.1.length : Int))) (.row 21005 tySNat l669.2.2.2.1 (0 + l669.2.2.2.2.toNat) true fun x673 =>
        .call 21012 (s28 x673 (if x658.fDue > p0.fNow then x658.fDue else p0.fNow) x658.fFrom x658.fTo) [] [] fun r674 =>
        .br 0 (r674.2.2 == 0)
        (.chk 23005 (decide (0 ≤ l669.2.2.2.2) && decide (l669.2.2.2.2 < (l669.2.2.2.1.length : Int))) (.row 23006 tySNat l669.2.2.2.1 (0 + l669.2.2.2.2.toNat) true fun x675 =>
         .re 23006 (ReW.put 500131 9 tySNat l669.2.2.2.1 (0 + l669.2.2.2.2.toNat) r674.1) (.gh 26 (.len 500131 ((l669.2.2.2.1.set (0 + l669.2.2.2.2.toNat) r674.1).length) [l669.2.2.2.1.length] (by simp)) (.view 25005 (s66 (SNetwork.mk r656.1 (l669.2.2.2.1.set (0 + l669.2.2.2.2.toNat) r674.1) (r656.2.2.take r657.toNat ++ (r656.2.2.drop ((wi64 (r657 + 1)).toNat)).take (r656.2.2.length - (wi64 (r657 + 1)).toNat)) (if x658.fDue > p0.fNow then x658.fDue else p0.fNow) p0.fSerial) l669.2.2.2.2 r674.2.1.fHost) [(VwW.of 500130 tySHost1 r656.1), (VwW.of 500131 tySNat (l669.2.2.2.1.set (0 + l669.2.2.2.2.toNat) r674.1)), (VwW.of 43 tySFlight (r656.2.2.take r657.toNat ++ (r656.2.2.drop ((wi64 (r657 + 1)).toNat)).take (r656.2.2.length - (wi64 (r657 + 1)).toNat)))] fun r676 =>
         .done (.inl (r676, r674.2.1.fHost, r674.2.1.fPort, (l669.2.2.2.1.set (0 + l669.2.2.2.2.toNat) r674.1), (wi64 (l669.2.2.2.2 + 1))))))))
        (.done (.inl (l669.1, l669.2.1, l669.2.2.1, l669.2.2.2.1, (wi64 (l669.2.2.2.2 + 1))))))))
      (.done (.inr (l669.2.2.2.1, (if x658.fDue > p0.fNow then x658.fDue else p0.fNow), l669.1, x658.fFrom.fHost, x658.fFrom.fPort, l669.2.1, l669.2.2.1, x658.fData))))
     ((-1), x658.fTo.fHost, x658.fTo.fPort, r656.2.1, 0))
    (fun (e677 : (List SNat) × Int × Int × ByteArray × Int × ByteArray × Int × ByteArray) => Ext.of (.exit 0) [(1, .ptr 1 0 0), (2, .ptr 2 0 0), (3, .ptr 3 0 0), (4, .int .i64 0), (9, .ptr 9 0 0)] [(1, ⟨5, true, [[.ref 500130 0 r656.1.length, .ref 500131 0 e677.1.length, .ref 43 0 ((r656.2.2.take r657.toNat ++ (r656.2.2.drop ((wi64 (r657 + 1)).toNat)).take (r656.2.2.length - (wi64 (r657 + 1)).toNat)).length), .int .i64 e677.2.1, .int .i64 p0.fSerial]]⟩), (2, ⟨5, true, [[.nilsl, .nilsl, .nilsl, .int .i64 0, .int .i64 0]]⟩), (3, ⟨6, true, [[.int .i64 0, .str ByteArray.empty, .int .i64 0, .str ByteArray.empty, .int .i64 0, .str ByteArray.empty]]⟩), (9, ⟨6, true, [[.int .i64 e677.2.2.1, .str e677.2.2.2.1, .int .i64 e677.2.2.2.2.1, .str e677.2.2.2.2.2.1, .int .i64 e677.2.2.2.2.2.2.1, .str e677.2.2.2.2.2.2.2]]⟩)] [BT.of 43 tySFlight 9 (r656.2.2.take r657.toNat ++ (r656.2.2.drop ((wi64 (r657 + 1)).toNat)).take (r656.2.2.length - (wi64 (r657 + 1)).toNat)) true, BT.of 500130 tySHost1 5 r656.1 true, BT.of 500131 tySNat 9 e677.1 true] (by rfl))
    (fun e677 =>
     .gh 0 (.share (VwW.of 43 tySFlight (r656.2.2.take r657.toNat ++ (r656.2.2.drop ((wi64 (r657 + 1)).toNat)).take (r656.2.2.length - (wi64 (r657 + 1)).toNat))) 1) (.gh 0 (.share (VwW.of 500130 tySHost1 r656.1) 1) (.gh 0 (.share (VwW.of 500131 tySNat e677.1) 1) (.done ((SNetwork.mk r656.1 e677.1 (r656.2.2.take r657.toNat ++ (r656.2.2.drop ((wi64 (r657 + 1)).toNat)).take (r656.2.2.length - (wi64 (r657 + 1)).toNat)) e677.2.1 p0.fSerial), (SDelivery.mk e677.2.2.1 (SAddr.mk e677.2.2.2.1 e677.2.2.2.2.1) (SAddr.mk e677.2.2.2.2.2.1 e677.2.2.2.2.2.2.1) e677.2.2.2.2.2.2.2), 0)))))))))))
theorem k74 (p0 : SNetwork) : FnD Tryd.prog GG [0, 1, 2, 3, 4, 6, 7, 8, 9, 10, 11, 12, 13, 14, 21, 60, 77, 86, 113, 131] Tryd.f74 [.agg [.sl false 5 (List.map tySHost1.c p0.fHosts), .sl false 9 (List.map tySNat.c p0.fNats), .sl false 9 (List.map tySFlight.c p0.fQueue), .int .i64 p0.fNow, .int .i64 p0.fSerial]] (g74 p0) (fun r => .tup [.agg [.sl false 5 (List.map tySHost1.c r.1.fHosts), .sl false 9 (List.map tySNat.c r.1.fNats), .sl false 9 (List.map tySFlight.c r.1.fQueue), .int .i64 r.1.fNow, .int .i64 r.1.fSerial], .agg [.int .i64 r.2.1.fHost, .str r.2.1.fFrom.fHost, .int .i64 r.2.1.fFrom.fPort, .str r.2.1.fTo.fHost, .int .i64 r.2.1.fTo.fPort, .str r.2.1.fData], .int .i64 r.2.2]) := by unfold FnD; kernel_rfl
noncomputable def s74 (p0 : SNetwork) : EV.Spec Tryd.prog GG (SNetwork × SDelivery × Int) := .ofFn 74 mixed Tryd.func74 (k74 p0)
noncomputable def g42 (p0 : SDraft1) : TT (SNetwork) :=
 .call 1002 (s39 p0) [] [] fun r678 =>
 .bind 1
 (.lp (fun (l687 : (List SHost1) × (List SNat) × (List SFlight) × Int × Int × Int) => Ext.lit .normal [(1, .ptr 1 0 0), (2, .ptr 2 0 0), (3, .ptr 3 0 0), (4, .int .i64 l687.2.2.2.2.2)] [(1, ⟨3, true, [[.sl false 6 (List.map tySDraft.c p0.fNats), .sl false 4 (List.map tySPlace1.c p0.fHosts), .sl false 5 (List.map tySSending.c p0.fSent)]]⟩), (2, ⟨5, true, [[.nilsl, .nilsl, .nilsl, .int .i64 0, .int .i64 0]]⟩), (3, ⟨5, true, [[.sl false 5 (List.map tySHost1.c l687.1), .sl false 9 (List.map tySNat.c l687.2.1), .sl false 9 (List.map tySFlight.c l687.2.2.1), .int .i64 l687.2.2.2.1, .int .i64 l687.2.2.2.2.1]]⟩)])
  (fun l687 =>
   .cnd 3 [21]
   (.br 3007 (decide (l687.2.2.2.2.2 < (mlen tySSending p0.fSent)))
    (.done (decide (l687.2.2.2.2.2 < 40)))
    (.done false))
   (fun (c688 : Bool) => [.bool c688]) fun c688 =>
   .br 0 c688
   (.row 5004 tySSending p0.fSent l687.2.2.2.2.2.toNat (decide (0 ≤ l687.2.2.2.2.2)) fun x689 =>
    .chk 6015 (!((mlen tySHost1 l687.1) == 0)) (.call 6023 (s73 x689.fTo) [] [] fun r690 =>
    .call 6030 (s72 (SNetwork.mk l687.1 l687.2.1 l687.2.2.1 l687.2.2.2.1 l687.2.2.2.2.1) (wi64 (l687.2.2.2.1 + (wi64 (Int.tmod x689.fAfter 200)))) (Int.tmod (wi64 x689.fHost) (mlen tySHost1 l687.1)) (wi64 ((5000 : Int) + (wi64 (Int.tmod x689.fPort 4)))) r690 (strOfNums [x689.fHost, x689.fTo])) [] [] fun r691 =>
    .bind 0
    (.br 0 (r691.2 == 0)
     (.done (r691.1.fHosts, r691.1.fNats, r691.1.fQueue, r691.1.fNow, r691.1.fSerial))
     (.done (l687.1, l687.2.1, l687.2.2.1, l687.2.2.2.1, l687.2.2.2.2.1)))
    (fun (e692 : (List SHost1) × (List SNat) × (List SFlight) × Int × Int) => Ext.lit .normal [(1, .ptr 1 0 0), (2, .ptr 2 0 0), (3, .ptr 3 0 0), (4, .int .i64 l687.2.2.2.2.2), (5, .ptr 5 0 0)] [(1, ⟨3, true, [[.sl false 6 (List.map tySDraft.c p0.fNats), .sl false 4 (List.map tySPlace1.c p0.fHosts), .sl false 5 (List.map tySSending.c p0.fSent)]]⟩), (2, ⟨5, true, [[.nilsl, .nilsl, .nilsl, .int .i64 0, .int .i64 0]]⟩), (3, ⟨5, true, [[.sl false 5 (List.map tySHost1.c e692.1), .sl false 9 (List.map tySNat.c e692.2.1), .sl false 9 (List.map tySFlight.c e692.2.2.1), .int .i64 e692.2.2.2.1, .int .i64 e692.2.2.2.2]]⟩), (5, ⟨5, true, [[.int .u8 x689.fHost, .int .u8 x689.fPort, .int .u8 x689.fTo, .int .u16 x689.fAfter, .bool x689.fStep]]⟩)])
    (fun e692 =>
     .call 9002 (s74 (SNetwork.mk e692.1 e692.2.1 e692.2.2.1 e692.2.2.2.1 e692.2.2.2.2)) [] [] fun r693 =>
     .cnd 10 [76]
     (.br 10004 (r693.2.2 == 0)
      (.done x689.fStep)
      (.done false))
     (fun (c694 : Bool) => [.bool c694]) fun c694 =>
     .br 0 c694
     (.done (.inl (r693.1.fHosts, r693.1.fNats, r693.1.fQueue, r693.1.fNow, r693.1.fSerial, (wi64 (l687.2.2.2.2.2 + 1)))))
     (.done (.inl (e692.1, e692.2.1, e692.2.2.1, e692.2.2.2.1, e692.2.2.2.2, (wi64 (l687.2.2.2.2.2 + 1))))))))
   (.done (.inr (l687.1, l687.2.1, l687.2.2.1, l687.2.2.2.1, l687.2.2.2.2.1))))
  (r678.fHosts, r678.fNats, r678.fQueue, r678.fNow, r678.fSerial, 0))
 (fun (e695 : (List SHost1) × (List SNat) × (List SFlight) × Int × Int) => Ext.lit (.exit 0) [(2, .ptr 2 0 0), (3, .ptr 3 0 0)] [(2, ⟨5, true, [[.nilsl, .nilsl, .nilsl, .int .i64 0, .int .i64 0]]⟩), (3, ⟨5, true, [[.sl false 5 (List.map tySHost1.c e695.1), .sl false 9 (List.map tySNat.c e695.2.1), .sl false 9 (List.map tySFlight.c e695.2.2.1), .int .i64 e695.2.2.2.1, .int .i64 e695.2.2.2.2]]⟩)])
 (fun e695 =>
  .done (SNetwork.mk e695.1 e695.2.1 e695.2.2.1 e695.2.2.2.1 e695.2.2.2.2))
theorem k42 (p0 : SDraft1) : FnD Tryd.prog GG [0, 1, 2, 3, 4, 5, 6, 7, 8, 10, 21, 63, 76] Tryd.f42 [.agg [.sl false 6 (List.map tySDraft.c p0.fNats), .sl false 4 (List.map tySPlace1.c p0.fHosts), .sl false 5 (List.map tySSending.c p0.fSent)]] (g42 p0) (fun r => .agg [.sl false 5 (List.map tySHost1.c r.fHosts), .sl false 9 (List.map tySNat.c r.fNats), .sl false 9 (List.map tySFlight.c r.fQueue), .int .i64 r.fNow, .int .i64 r.fSerial]) := by unfold FnD; kernel_rfl
noncomputable def s42 (p0 : SDraft1) : EV.Spec Tryd.prog GG (SNetwork) := .ofFn 42 mixed Tryd.func42 (k42 p0)
end Go.Proofs.YtdiagiflihpidaaDoor
namespace Go.Proofs.YtdiagiflihpidaaDoor
open Go Go.EV
set_option maxRecDepth 100000
theorem wi64_id {n : Int} (h1 : -9223372036854775808 ≤ n) (h2 : n ≤ 9223372036854775807) : wi64 n = n := by
 unfold wi64 IntKind.wrap
 simp [IntKind.signed, IntKind.bits]
 omega
theorem fuel {n : Nat} (h : n ≤ 140737488355329) : n < FUEL := by unfold FUEL; omega
theorem eA_iff {a b : SAddr} : (decide (a.fHost = b.fHost) && ((a.fPort == b.fPort) && true)) = true ↔ a = b := by
 cases a; cases b; simp
def Usable (a : SAddr) (n : Int) : Prop := ((a.fHost.size : Int) = n ∧ (n = 4 ∨ n = 16)) ∧ 1 ≤ a.fPort ∧ a.fPort ≤ 65535
theorem ok118 (h : ByteArray) : SOk (s118 h) (fun r => (r.2 = 0 ↔ ((h.size : Int) = 4 ∨ (h.size : Int) = 16))) := by
 show Ok (g118 h) _
 unfold g118
 refine Ok.cnd (R := fun c => (c = true ↔ ¬ ((h.size : Int) = 4 ∨ (h.size : Int) = 16))) ?_ fun c hc => ?_
 ·refine Ok.br (fun h1 => Ok.done ?_) (fun h1 => Ok.done ?_)
  ·simp at h1 ⊢; omega
  ·simp at h1 ⊢; omega
 ·refine Ok.br (fun h1 => Ok.done ?_) (fun h1 => Ok.done ?_)
  ·simp [hc.1 h1]
  ·subst h1; simp at hc ⊢; omega
theorem ok94 (a : SAddr) : SOk (s94 a) (fun r => (r = 0 ↔ ((a.fHost.size : Int) = 4 ∨ (a.fHost.size : Int) = 16) ∧ 0 ≤ a.fPort ∧ a.fPort ≤ 65535)) := by
 show Ok (g94 a) _
 unfold g94
 refine Ok.call (ok118 _) fun r hr => ?_
 refine Ok.cnd (R := fun c => (c = true ↔ ¬ (((a.fHost.size : Int) = 4 ∨ (a.fHost.size : Int) = 16) ∧ 0 ≤ a.fPort ∧ a.fPort ≤ 65535))) ?_ fun c hc => ?_
 ·refine Ok.br (fun h1 => Ok.done ?_) (fun h1 => Ok.br (fun h2 => Ok.done ?_) (fun h2 => Ok.done ?_))
  ·simp at h1 ⊢; rw [hr] at h1; omega
  ·simp at h2 ⊢; omega
  ·simp at h1 h2 ⊢; rw [hr] at h1; omega
 ·refine Ok.br (fun h1 => Ok.done ?_) (fun h1 => Ok.done ?_)
  ·simp; have := hc.1 h1; omega
  ·subst h1; simp at hc ⊢; omega
theorem ok84 (r : SRouter) (a : SAddr) : SOk (s84 r a) (fun b => (b = true ↔ Usable a (r.fNat.fHost.size : Int))) := by
 show Ok (g84 r a) _
 unfold g84
 refine Ok.cnd (R := fun c => (c = true ↔ Usable a (r.fNat.fHost.size : Int))) ?_ fun c hc => Ok.done hc
 refine Ok.call (ok94 _) fun x hx => ?_
 unfold Usable
 refine Ok.br (fun h1 => Ok.br (fun h2 => Ok.done ?_) (fun h2 => Ok.done ?_)) (fun h1 => Ok.done ?_)
 ·simp at h1 h2 ⊢; rw [hx] at h1; omega
 ·simp at h1 h2 ⊢; omega
 ·simp at h1 ⊢; rw [hx] at h1; omega
theorem ok54 (a : SAddr) (n : Int) : SOk (s54 a n) (fun b => (b = true ↔ Usable a n)) := by
 show Ok (g54 a n) _
 unfold g54
 refine Ok.cnd (R := fun c => (c = true ↔ Usable a n)) ?_ fun c hc => Ok.done hc
 unfold Usable
 refine Ok.br (fun h1 => Ok.br (fun h2 => Ok.br (fun h3 => Ok.done ?_) (fun h3 => Ok.done ?_)) (fun h2 => Ok.br (fun h3 => Ok.br (fun h4 => Ok.done ?_) (fun h4 => Ok.done ?_)) (fun h3 => Ok.done ?_))) (fun h1 => Ok.done ?_)
 all_goals (simp at *; omega)
def IsKey (k : Int) (a : SAddr) (n : Int) : Prop :=
 (k = 1 ∧ a = ⟨ByteArray.empty, 0⟩) ∨ (k = 2 ∧ a.fPort = 0 ∧ Usable ⟨a.fHost, 1⟩ n) ∨ (k ≠ 1 ∧ k ≠ 2 ∧ Usable a n)
theorem empty_iff (a : SAddr) : (decide (a.fHost = ByteArray.empty) && ((a.fPort == 0) && true)) = true ↔ a = ⟨ByteArray.empty, 0⟩ := eA_iff (b := ⟨ByteArray.empty, 0⟩)
theorem ok111 (r : SRouter) (k : Int) (a : SAddr) : SOk (s111 r k a) (fun b => (b = true ↔ IsKey k a (r.fNat.fHost.size : Int))) := by
 show Ok (g111 r k a) _
 unfold g111 IsKey
 refine Ok.br (fun h1 => Ok.done ?_) (fun h1 => Ok.br (fun h2 => ?_) (fun h2 => ?_))
 ·rw [empty_iff]; simp at h1; simp [h1]
 ·simp at h1 h2
  subst h2
  refine Ok.cnd (R := fun c => (c = true ↔ a.fPort = 0 ∧ Usable ⟨a.fHost, 1⟩ (r.fNat.fHost.size : Int))) ?_ fun c hc => Ok.done (by simp [hc])
  refine Ok.br (fun h3 => ?_) (fun h3 => Ok.done ?_)
  ·refine Ok.call (ok84 _ _) fun x hx => Ok.done ?_
   simp at h3; simp [h3, hx]
  ·simp at h3; simp [h3]
 ·simp at h1 h2
  refine Ok.call (ok84 _ _) fun x hx => Ok.done ?_
  simp [h1, h2, hx]
theorem ok59 (k : Int) (a : SAddr) : SOk (s59 k a) (fun b => b = if k = 1 then ⟨ByteArray.empty, 0⟩ else if k = 2 then ⟨a.fHost, 0⟩ else a) := by
 show Ok (g59 k a) _
 unfold g59
 refine Ok.br (fun h1 => Ok.done ?_) (fun h1 => Ok.br (fun h2 => Ok.done ?_) (fun h2 => Ok.done ?_)) <;> simp at * <;> simp [*]
theorem ok108 (k : Int) (a : SAddr) (n : Int) : SOk (s108 k a n) (fun b => (b = true ↔ IsKey k a n)) := by
  show Ok (g108 k a n) _
  unfold g108 IsKey
  refine Ok.bind (R := fun e => e = if k = 2 then 1 else a.fPort) ?_ fun e he => ?_
  · refine Ok.br (fun h1 => Ok.done ?_) (fun h1 => Ok.done ?_) <;> simp at h1 <;> simp [h1]
  · refine Ok.br (fun h1 => Ok.done ?_) (fun h1 => ?_)
    · rw [empty_iff]; simp at h1; simp [h1]
    · simp at h1
      refine Ok.cnd (R := fun c => (c = true ↔ (k = 2 ∧ a.fPort = 0 ∧ Usable ⟨a.fHost, 1⟩ n) ∨ (k ≠ 2 ∧ Usable a n))) ?_ fun c hc => Ok.done (by simp [hc, h1])
      refine Ok.call (ok54 _ _) fun x hx => ?_
      refine Ok.br (fun h2 => ?_) (fun h2 => Ok.done ?_)
      · refine Ok.call (ok59 _ _) fun y hy => Ok.done ?_
        rw [eA_iff (a := y) (b := a), hy]
        have hu := hx.1 h2
        by_cases h3 : k = 2
        · subst h3
          simp at he; subst he
          cases a with
          | mk ho po => simp [h1]; simp at hu; constructor
                        · intro e; exact ⟨e.symm, hu⟩
                        · intro e; exact e.1.symm
        · simp [h3] at he; subst he
          simp [h1, h3]; exact hu
      · have hu : ¬ Usable ⟨a.fHost, e⟩ n := fun hh => by rw [hx.2 hh] at h2; simp at h2
        by_cases h3 : k = 2
        · subst h3
          simp at he; subst he
          simp; intro _ ; exact hu
        · simp [h3] at he; subst he
          simp [h3]; exact hu
end Go.Proofs.YtdiagiflihpidaaDoor
namespace Go.Proofs.YtdiagiflihpidaaDoor
open Go Go.EV
set_option maxRecDepth 100000
abbrev Small {α : Type} (l : List α) : Prop := l.length ≤ 1000000
theorem at_of {α : Type} {l : List α} {i : Int} (h0 : 0 ≤ i) (h : i < (l.length : Int)) : ∃ y, l[i.toNat]? = some y :=
 ⟨l[i.toNat]'(by omega), List.getElem?_eq_getElem (by omega)⟩
theorem mem_take_iff {α : Type} {l : List α} {i : Nat} {x : α} : x ∈ l.take i ↔ ∃ j, j < i ∧ l[j]? = some x := by
 constructor
 ·intro h
  obtain ⟨j, hj⟩ := List.mem_iff_getElem?.1 h
  rw [List.getElem?_take] at hj
  split at hj
  ·rename_i hlt; exact ⟨j, hlt, hj⟩
  ·simp at hj
 ·rintro ⟨j, hj, hx⟩
  exact List.mem_iff_getElem?.2 ⟨j, by rw [List.getElem?_take, if_pos hj]; exact hx⟩
theorem wi64_succ {i : Int} {n : Nat} (h0 : 0 ≤ i) (h : i < n) (hn : n ≤ 1000000) : wi64 (i + 1) = i + 1 := wi64_id (by omega) (by omega)
theorem toNat_succ {i : Int} (h0 : 0 ≤ i) : (i + 1).toNat = i.toNat + 1 := by omega
theorem upto_succ {p : Nat → Prop} {i : Nat} (h : ∀ j, j < i → p j) (hi : p i) : ∀ j, j < i + 1 → p j := fun j hj => by
 rcases Nat.lt_or_ge j i with h1 | h1
 ·exact h j h1
 ·have : j = i := by omega
  subst this; exact hi
theorem ok126 (a b : SAddr) : SOk (s126 a b) (fun c => (c = true ↔ b = a)) := by
 show Ok (g126 a b) _
 unfold g126
 refine Ok.call (R := fun c => (c = true ↔ b = a)) ?_ fun c hc => Ok.done hc
 show Ok (g114 b a) _
 unfold g114
 exact Ok.done eA_iff
theorem ok128 (l : List SAddr) (x : SAddr) (hl : Small l) : SOk (s128 l x) (fun i => (0 ≤ i ↔ x ∈ l)) := by
 show Ok (g128 l x) _
 unfold g128
 refine Ok.bind2 (R := fun e => match e with | .inl i => 0 ≤ i ∧ x ∈ l | .inr _ => x ∉ l) ?_ (fun e he => Ok.done ⟨fun _ => he.2, fun _ => he.1⟩) (fun e he => Ok.done ⟨fun h => by simp at h, fun h => absurd h he⟩)
 refine Ok.lp (fun i => 0 ≤ i ∧ i ≤ (l.length : Int) ∧ ∀ j, j < i.toNat → l[j]? ≠ some x) (fun i => l.length - i.toNat) ⟨by simp, by simp, by simp⟩ (fuel (by simp; omega)) fun i hi => ?_
 obtain ⟨h0, h1, h2⟩ := hi
 refine Ok.br (fun hc => ?_) (fun hc => Ok.done ?_)
 ·rw [mlen_eq, decide_eq_true_eq] at hc
  obtain ⟨y, hy⟩ := at_of h0 hc
  refine Ok.row (by simpa using h0) hy ?_
  refine Ok.call (ok126 _ _) fun c hcc => ?_
  refine Ok.br (fun h3 => Ok.done ?_) (fun h3 => Ok.done ?_)
  ·exact ⟨h0, by rw [hcc.1 h3]; exact List.mem_of_getElem? hy⟩
  ·rw [wi64_succ h0 hc hl]
   refine ⟨⟨by omega, by omega, ?_⟩, by simp only; omega⟩
   rw [toNat_succ h0]
   refine upto_succ h2 ?_
   rw [hy]; intro e
   have := hcc.2 (by simpa using e.symm)
   rw [this] at h3; simp at h3
 ·rw [mlen_eq, decide_eq_false_iff_not] at hc
  intro hm
  obtain ⟨j, hj⟩ := List.mem_iff_getElem?.1 hm
  exact h2 j (by have := (List.getElem?_eq_some_iff.1 hj).1; omega) hj
theorem ok125 (l : List SAddr) (x : SAddr) (hl : Small l) : SOk (s125 l x) (fun c => (c = true ↔ x ∈ l)) := by
 show Ok (g125 l x) _
 unfold g125
 exact Ok.call (ok128 l x hl) fun i hi => Ok.done (by simp [hi])
def AllK (k : Int) (l : List SAddr) (n : Int) : Prop := ∀ (i : Nat) (a : SAddr), l[i]? = some a → IsKey k a n ∧ ∀ j, j < i → l[j]? ≠ some a
theorem ok113 (a : SAddr) (r : SRouter) : SOk (s113 a r) (fun b => (b = true ↔ IsKey r.fNat.fFilter a (r.fNat.fHost.size : Int))) := by
 show Ok (g113 a r) _
 unfold g113
 exact Ok.call (ok111 _ _ _) fun c hc => Ok.done hc
theorem ok112 (l : List SAddr) (r : SRouter) (hl : Small l) : SOk (s112 l r) (fun b => (b = true ↔ AllK r.fNat.fFilter l (r.fNat.fHost.size : Int))) := by
 show Ok (g112 l r) _
 unfold g112
 refine Ok.bind2 (R := fun e => match e with | .inl _ => ¬ AllK r.fNat.fFilter l (r.fNat.fHost.size : Int) | .inr _ => AllK r.fNat.fFilter l (r.fNat.fHost.size : Int)) ?_ (fun e he => Ok.done ⟨fun h => by simp at h, fun h => absurd h he⟩) (fun e he => Ok.done ⟨fun _ => he, fun _ => rfl⟩)
 refine Ok.lp (fun i => 0 ≤ i ∧ i ≤ (l.length : Int) ∧ ∀ j, j < i.toNat → ∀ a, l[j]? = some a → IsKey r.fNat.fFilter a (r.fNat.fHost.size : Int) ∧ ∀ m, m < j → l[m]? ≠ some a) (fun i => l.length - i.toNat) ⟨by simp, by simp, by simp⟩ (fuel (by simp; omega)) fun i hi => ?_
 obtain ⟨h0, h1, h2⟩ := hi
 refine Ok.br (fun hc => ?_) (fun hc => Ok.done ?_)
 ·rw [mlen_eq, decide_eq_true_eq] at hc
  obtain ⟨y, hy⟩ := at_of h0 hc
  refine Ok.row (by simpa using h0) hy ?_
  refine Ok.cnd (R := fun c => (c = false ↔ IsKey r.fNat.fFilter y (r.fNat.fHost.size : Int) ∧ ∀ m, m < i.toNat → l[m]? ≠ some y)) ?_ fun c hcc => ?_
  ·refine Ok.call (ok113 _ _) fun c hcc => ?_
   refine Ok.br (fun h3 => Ok.done ?_) (fun h3 => ?_)
   ·have : ¬ IsKey r.fNat.fFilter y (r.fNat.fHost.size : Int) := fun h => by rw [hcc.2 h] at h3; simp at h3
    exact ⟨fun h => by simp at h, fun h => absurd h.1 this⟩
   ·refine Ok.chk (by rw [mlenn_eq]; simp; omega) (Ok.re (Ok.view (ok125 _ _ (by simp; omega)) fun d hd => Ok.done ?_))
    have hk : IsKey r.fNat.fFilter y (r.fNat.fHost.size : Int) := hcc.1 (by simpa using h3)
    rw [mem_take_iff] at hd
    constructor
    ·intro e
     refine ⟨hk, fun m hm hx => ?_⟩
     rw [hd.2 ⟨m, hm, hx⟩] at e; simp at e
    ·intro e
     cases d with
     | false => rfl
     | true => obtain ⟨m, hm, hx⟩ := hd.1 rfl; exact absurd hx (e.2 m hm)
  ·refine Ok.br (fun h3 => Ok.done ?_) (fun h3 => Ok.done ?_)
   ·intro hall
    have := hcc.2 (hall i.toNat y hy)
    rw [this] at h3; simp at h3
   ·rw [wi64_succ h0 hc hl]
    refine ⟨⟨by omega, by omega, ?_⟩, by simp only; omega⟩
    rw [toNat_succ h0]
    refine upto_succ h2 fun a ha => ?_
    rw [hy] at ha; simp only [Option.some.injEq] at ha; subst ha
    exact hcc.1 h3
 ·rw [mlen_eq, decide_eq_false_iff_not] at hc
  refine fun (j : Nat) a hj => ?_
  exact h2 j (by have := (List.getElem?_eq_some_iff.1 hj).1; omega) a hj
def BindOk (n : SNat) (b : SBinding) : Prop :=
 Usable b.fInside (n.fHost.size : Int) ∧ b.fInside.fHost ≠ n.fHost ∧ IsKey n.fMapping b.fPeer (n.fHost.size : Int) ∧ n.fLow ≤ b.fPort ∧ b.fPort ≤ n.fHigh ∧ n.fNow < b.fUntil ∧ b.fUntil ≤ wi64 (n.fNow + n.fTimeout)
def OpenOk (n : SNat) (l : List SAddr) : Prop :=
 (n.fFilter = 1 ∧ l.length = 0) ∨ (n.fFilter ≠ 1 ∧ 1 ≤ l.length ∧ l.length ≤ 16 ∧ AllK n.fFilter l (n.fHost.size : Int))
def Alike (a b : SBinding) : Prop := a.fPort = b.fPort ∨ (a.fInside = b.fInside ∧ a.fPeer = b.fPeer)
theorem Alike.symm {a b : SBinding} (h : Alike a b) : Alike b a := by
 rcases h with h | ⟨h1, h2⟩
 ·exact .inl h.symm
 ·exact .inr ⟨h1.symm, h2.symm⟩
theorem ok82 (r : SRouter) (b : SBinding) (hl : Small b.fOpen) : SOk (s82 r b) (fun c => (c = true ↔ BindOk r.fNat b ∧ OpenOk r.fNat b.fOpen)) := by
 show Ok (g82 r b) _
 unfold g82
 refine Ok.cnd (R := fun c => (c = false ↔ BindOk r.fNat b)) ?_ fun c hc => ?_
 ·unfold BindOk
  refine Ok.call (ok84 _ _) fun x hx => ?_
  refine Ok.br (fun h1 => Ok.done ?_) (fun h1 => ?_)
  ·simp at h1; subst h1; simp at hx; simp [hx]
  simp at h1; subst h1; simp at hx
  refine Ok.br (fun h2 => Ok.done ?_) (fun h2 => ?_)
  ·simp at h2; simp [h2]
  simp at h2
  refine Ok.call (ok111 _ _ _) fun y hy => ?_
  refine Ok.br (fun h3 => Ok.done ?_) (fun h3 => ?_)
  ·simp at h3; subst h3; simp at hy; simp [hy]
  simp at h3; subst h3; simp at hy
  refine Ok.br (fun h4 => Ok.done ?_) (fun h4 => Ok.br (fun h5 => Ok.done ?_) (fun h5 => Ok.br (fun h6 => Ok.done ?_) (fun h6 => Ok.done ?_)))
  ·simp at h4 ⊢; intros; omega
  ·simp at h4 h5 ⊢; intros; omega
  ·simp at h4 h5 h6 ⊢; intros; omega
  ·simp at h4 h5 h6 ⊢; simp [hx, h2, hy]; omega
 ·refine Ok.br (fun h1 => Ok.done ?_) (fun h1 => ?_)
  ·have : ¬ BindOk r.fNat b := fun h => by rw [hc.2 h] at h1; simp at h1
   simp [this]
  ·have hb := hc.1 h1
   refine Ok.br (fun h2 => Ok.done ?_) (fun h2 => ?_)
   ·rw [mlen_eq]; simp at h2; simp [hb, OpenOk, h2]
   ·simp at h2
    refine Ok.cnd (R := fun c => (c = true ↔ OpenOk r.fNat b.fOpen)) ?_ fun d hd => Ok.done (by simp [hd, hb])
    unfold OpenOk
    rw [mlen_eq]
    refine Ok.br (fun h3 => Ok.br (fun h4 => ?_) (fun h4 => Ok.done ?_)) (fun h3 => Ok.done ?_)
    ·refine Ok.view (ok112 _ _ hl) fun d hd => Ok.done ?_
     simp at h3 h4
     rw [hd]
     constructor
     ·intro h; exact .inr ⟨h2, by omega, by omega, h⟩
     ·rintro (h | h)
      ·exact absurd h.1 h2
      ·exact h.2.2.2
    ·simp at h4 ⊢; constructor
     ·intro h; exact absurd h h2
     ·intros; omega
    ·simp at h3 ⊢; constructor
     ·intro h; exact absurd h h2
     ·intros; omega
theorem ok83 (a b : SBinding) : SOk (s83 a b) (fun c => (c = true ↔ Alike a b)) := by
 show Ok (g83 a b) _
 unfold g83 Alike
 refine Ok.cnd (R := fun c => (c = true ↔ a.fPort = b.fPort ∨ (a.fInside = b.fInside ∧ a.fPeer = b.fPeer))) ?_ fun c hc => Ok.done hc
 refine Ok.br (fun h1 => Ok.done ?_) (fun h1 => Ok.br (fun h2 => Ok.done ?_) (fun h2 => Ok.done ?_))
 ·simp at h1; simp [h1]
 ·simp at h1; rw [eA_iff] at h2; rw [eA_iff]; simp [h1, h2]
 ·simp at h1
  have : a.fInside ≠ b.fInside := fun e => by rw [(eA_iff (a := a.fInside) (b := b.fInside)).2 e] at h2; simp at h2
  simp [h1, this]
theorem ok110 (a b : SBinding) : SOk (s110 a b) (fun c => (c = true ↔ Alike b a)) := by
 show Ok (g110 a b) _
 unfold g110
 exact Ok.call (ok83 _ _) fun c hc => Ok.done hc
theorem ok115 (l : List SBinding) (x : SBinding) (hl : Small l) : SOk (s115 l x) (fun i => (0 ≤ i ↔ ∃ y, y ∈ l ∧ Alike x y)) := by
 show Ok (g115 l x) _
 unfold g115
 refine Ok.bind2 (R := fun e => match e with | .inl i => 0 ≤ i ∧ ∃ y, y ∈ l ∧ Alike x y | .inr _ => ¬ ∃ y, y ∈ l ∧ Alike x y) ?_ (fun e he => Ok.done ⟨fun _ => he.2, fun _ => he.1⟩) (fun e he => Ok.done ⟨fun h => by simp at h, fun h => absurd h he⟩)
 refine Ok.lp (fun i => 0 ≤ i ∧ i ≤ (l.length : Int) ∧ ∀ j, j < i.toNat → ∀ y, l[j]? = some y → ¬ Alike x y) (fun i => l.length - i.toNat) ⟨by simp, by simp, by simp⟩ (fuel (by simp; omega)) fun i hi => ?_
 obtain ⟨h0, h1, h2⟩ := hi
 refine Ok.br (fun hc => ?_) (fun hc => Ok.done ?_)
 ·rw [mlen_eq, decide_eq_true_eq] at hc
  obtain ⟨y, hy⟩ := at_of h0 hc
  refine Ok.row (by simpa using h0) hy ?_
  refine Ok.call (ok110 _ _) fun c hcc => ?_
  refine Ok.br (fun h3 => Ok.done ?_) (fun h3 => Ok.done ?_)
  ·exact ⟨h0, y, List.mem_of_getElem? hy, hcc.1 h3⟩
  ·rw [wi64_succ h0 hc hl]
   refine ⟨⟨by omega, by omega, ?_⟩, by simp only; omega⟩
   rw [toNat_succ h0]
   refine upto_succ h2 fun z hz => ?_
   rw [hy] at hz; simp only [Option.some.injEq] at hz; subst hz
   intro e
   rw [hcc.2 e] at h3; simp at h3
 ·rw [mlen_eq, decide_eq_false_iff_not] at hc
  rintro ⟨y, hm, ha⟩
  obtain ⟨j, hj⟩ := List.mem_iff_getElem?.1 hm
  exact h2 j (by have := (List.getElem?_eq_some_iff.1 hj).1; omega) y hj ha
theorem ok109 (l : List SBinding) (x : SBinding) (hl : Small l) : SOk (s109 l x) (fun c => (c = true ↔ ∃ y, y ∈ l ∧ Alike x y)) := by
 show Ok (g109 l x) _
 unfold g109
 exact Ok.call (ok115 l x hl) fun i hi => Ok.done (by simp [hi])
def At1 (n : SNat) (l : List SBinding) (i : Nat) (b : SBinding) : Prop :=
 BindOk n b ∧ OpenOk n b.fOpen ∧ ∀ j, j < i → ∀ y, l[j]? = some y → ¬ Alike b y
def AllB (n : SNat) (l : List SBinding) : Prop := ∀ (i : Nat) (b : SBinding), l[i]? = some b → At1 n l i b
def SmallN (l : List SBinding) : Prop := Small l ∧ ∀ b, b ∈ l → Small b.fOpen
theorem ok81 (l : List SBinding) (r : SRouter) (hl : SmallN l) : SOk (s81 l r) (fun c => (c = true ↔ AllB r.fNat l)) := by
 show Ok (g81 l r) _
 unfold g81
 refine Ok.bind2 (R := fun e => match e with | .inl _ => ¬ AllB r.fNat l | .inr _ => AllB r.fNat l) ?_ (fun e he => Ok.done ⟨fun h => by simp at h, fun h => absurd h he⟩) (fun e he => Ok.done ⟨fun _ => he, fun _ => rfl⟩)
 refine Ok.lp (fun i => 0 ≤ i ∧ i ≤ (l.length : Int) ∧ ∀ j, j < i.toNat → ∀ b, l[j]? = some b → At1 r.fNat l j b) (fun i => l.length - i.toNat) ⟨by simp, by simp, by simp⟩ (fuel (by have := hl.1; simp; omega)) fun i hi => ?_
 obtain ⟨h0, h1, h2⟩ := hi
 refine Ok.br (fun hc => ?_) (fun hc => Ok.done ?_)
 ·rw [mlen_eq, decide_eq_true_eq] at hc
  obtain ⟨y, hy⟩ := at_of h0 hc
  refine Ok.row (by simpa using h0) hy ?_
  refine Ok.cnd (R := fun c => (c = false ↔ At1 r.fNat l i.toNat y)) ?_ fun c hcc => ?_
  ·refine Ok.call (ok82 _ _ (hl.2 y (List.mem_of_getElem? hy))) fun c hcc => ?_
   refine Ok.br (fun h3 => Ok.done ?_) (fun h3 => ?_)
   ·have : ¬ (BindOk r.fNat y ∧ OpenOk r.fNat y.fOpen) := fun h => by rw [hcc.2 h] at h3; simp at h3
    exact ⟨fun h => by simp at h, fun h => absurd ⟨h.1, h.2.1⟩ this⟩
   ·refine Ok.chk (by rw [mlenn_eq]; simp; omega) (Ok.re (Ok.view (ok109 _ _ (by have := hl.1; simp; omega)) fun d hd => Ok.done ?_))
    have hk := hcc.1 (by simpa using h3)
    constructor
    ·intro e
     refine ⟨hk.1, hk.2, fun m hm z hz ha => ?_⟩
     rw [hd.2 ⟨z, mem_take_iff.2 ⟨m, hm, hz⟩, ha⟩] at e; simp at e
    ·intro e
     cases d with
     | false => rfl
     | true =>
      obtain ⟨z, hz, ha⟩ := hd.1 rfl
      obtain ⟨m, hm, hx⟩ := mem_take_iff.1 hz
      exact absurd ha (e.2.2 m hm z hx)
  ·refine Ok.br (fun h3 => Ok.done ?_) (fun h3 => Ok.done ?_)
   ·intro hall
    have := hcc.2 (hall i.toNat y hy)
    rw [this] at h3; simp at h3
   ·rw [wi64_succ h0 hc hl.1]
    refine ⟨⟨by omega, by omega, ?_⟩, by simp only; omega⟩
    rw [toNat_succ h0]
    refine upto_succ h2 fun a ha => ?_
    rw [hy] at ha; simp only [Option.some.injEq] at ha; subst ha
    exact hcc.1 h3
 ·rw [mlen_eq, decide_eq_false_iff_not] at hc
  refine fun (j : Nat) a hj => ?_
  exact h2 j (by have := (List.getElem?_eq_some_iff.1 hj).1; omega) a hj
theorem ok80 (k : Int) : SOk (s80 k) (fun c => (c = true ↔ 1 ≤ k ∧ k ≤ 3)) := by
 show Ok (g80 k) _
 unfold g80
 refine Ok.cnd (R := fun c => (c = true ↔ 1 ≤ k ∧ k ≤ 3)) ?_ fun c hc => Ok.done hc
 refine Ok.br (fun h1 => Ok.done ?_) (fun h1 => Ok.done ?_)
 ·simp at h1 ⊢; omega
 ·simp at h1 ⊢; omega
def Head (n : SNat) : Prop :=
 (1 ≤ n.fMapping ∧ n.fMapping ≤ 3) ∧ (1 ≤ n.fFilter ∧ n.fFilter ≤ 3) ∧ (1 ≤ n.fTimeout ∧ n.fTimeout ≤ 3600000) ∧ ((n.fHost.size : Int) = 4 ∨ (n.fHost.size : Int) = 16) ∧
 (1 ≤ n.fLow ∧ n.fHigh ≤ 65535 ∧ n.fLow ≤ n.fHigh ∧ n.fHigh < n.fLow + 64) ∧ (0 ≤ n.fNow ∧ n.fNow ≤ 1099511627776)
def Valid (n : SNat) : Prop := Head n ∧ AllB n n.fTable
theorem ok55 (r : SRouter) (hl : SmallN r.fNat.fTable) : SOk (s55 r) (fun c => (c = true ↔ Valid r.fNat)) := by
 show Ok (g55 r) _
 unfold g55 Valid Head
 refine Ok.cnd (R := fun c => (c = false ↔ (1 ≤ r.fNat.fMapping ∧ r.fNat.fMapping ≤ 3) ∧ (1 ≤ r.fNat.fFilter ∧ r.fNat.fFilter ≤ 3) ∧ (1 ≤ r.fNat.fTimeout ∧ r.fNat.fTimeout ≤ 3600000) ∧ ((r.fNat.fHost.size : Int) = 4 ∨ (r.fNat.fHost.size : Int) = 16))) ?_ fun c hc => ?_
 ·refine Ok.call (ok80 _) fun x hx => ?_
  refine Ok.br (fun h1 => Ok.done ?_) (fun h1 => ?_)
  ·simp at h1; subst h1; simp at hx ⊢; intros; omega
  simp at h1; subst h1; simp at hx
  refine Ok.call (ok80 _) fun y hy => ?_
  refine Ok.br (fun h2 => Ok.done ?_) (fun h2 => ?_)
  ·simp at h2; subst h2; simp at hy ⊢; intros; omega
  simp at h2; subst h2; simp at hy
  refine Ok.br (fun h3 => Ok.done ?_) (fun h3 => Ok.br (fun h4 => Ok.done ?_) (fun h4 => Ok.br (fun h5 => Ok.done ?_) (fun h5 => Ok.done ?_)))
  all_goals (simp at *; omega)
 ·refine Ok.br (fun h1 => Ok.done ?_) (fun h1 => ?_)
  ·subst h1; simp at hc ⊢; intros; omega
  have h2 := hc.1 h1
  refine Ok.cnd (R := fun c => (c = false ↔ (1 ≤ r.fNat.fLow ∧ r.fNat.fHigh ≤ 65535 ∧ r.fNat.fLow ≤ r.fNat.fHigh ∧ r.fNat.fHigh < r.fNat.fLow + 64) ∧ (0 ≤ r.fNat.fNow ∧ r.fNat.fNow ≤ 1099511627776))) ?_ fun d hd => ?_
  ·refine Ok.br (fun h3 => Ok.done ?_) (fun h3 => Ok.br (fun h4 => Ok.done ?_) (fun h4 => Ok.br (fun h5 => Ok.done ?_) (fun h5 => ?_)))
   ·simp at *; omega
   ·simp at *; omega
   ·simp at *; omega
   ·simp at h3 h4 h5
    rw [wi64_id (n := r.fNat.fLow + 64) (by omega) (by omega)]
    refine Ok.br (fun h6 => Ok.done ?_) (fun h6 => Ok.br (fun h7 => Ok.done ?_) (fun h7 => Ok.done ?_))
    all_goals (simp at *; omega)
  ·refine Ok.br (fun h3 => Ok.done ?_) (fun h3 => ?_)
   ·subst h3; simp at hd ⊢; intros; omega
   have h4 := hd.1 h3
   refine Ok.call (ok81 _ _ hl) fun e he => Ok.done ?_
   rw [he]
   exact ⟨fun h => ⟨⟨h2.1, h2.2.1, h2.2.2.1, h2.2.2.2, h4.1, h4.2⟩, h⟩, fun h => h.2⟩
end Go.Proofs.YtdiagiflihpidaaDoor
namespace Go.Proofs.YtdiagiflihpidaaDoor
open Go Go.EV
set_option maxRecDepth 100000
theorem ok79 (n : SNat) (i : Nat) (x : SBinding) (hx : n.fTable[i]? = some x) (hl : SmallN n.fTable) : SOk (s79 n (i : Int)) (fun c => (c = true ↔ At1 n n.fTable i x)) := by
 have hi : i < n.fTable.length := (List.getElem?_eq_some_iff.1 hx).1
 have hlo : Small x.fOpen := hl.2 x (List.mem_of_getElem? hx)
 have hl1 : Small n.fTable := hl.1
 show Ok (g79 n (i : Int)) _
 unfold g79
 refine Ok.row (by simp) (by simpa using hx) ?_
 refine Ok.cnd (R := fun c => (c = false ↔ BindOk n x)) ?_ fun c hc => ?_
 ·unfold BindOk
  refine Ok.call (ok54 _ _) fun a ha => ?_
  refine Ok.br (fun h1 => Ok.done ?_) (fun h1 => ?_)
  ·simp at h1; subst h1; simp at ha; simp [ha]
  simp at h1; subst h1; simp at ha
  refine Ok.br (fun h2 => Ok.done ?_) (fun h2 => ?_)
  ·simp at h2; simp [h2]
  simp at h2
  refine Ok.call (ok108 _ _ _) fun y hy => ?_
  refine Ok.br (fun h3 => Ok.done ?_) (fun h3 => ?_)
  ·simp at h3; subst h3; simp at hy; simp [hy]
  simp at h3; subst h3; simp at hy
  refine Ok.br (fun h4 => Ok.done ?_) (fun h4 => Ok.br (fun h5 => Ok.done ?_) (fun h5 => Ok.br (fun h6 => Ok.done ?_) (fun h6 => Ok.done ?_)))
  ·simp at h4 ⊢; intros; omega
  ·simp at h4 h5 ⊢; intros; omega
  ·simp at h4 h5 h6 ⊢; intros; omega
  ·simp at h4 h5 h6 ⊢; simp [ha, h2, hy]; omega
 ·refine Ok.br (fun h1 => Ok.done ?_) (fun h1 => ?_)
  ·have : ¬ BindOk n x := fun h => by rw [hc.2 h] at h1; simp at h1
   exact ⟨fun h => by simp at h, fun h => absurd h.1 this⟩
  have hb := hc.1 h1
  refine Ok.bind2 (R := fun e => match e with | .inl _ => ¬ (∀ j, j < i → ∀ y, n.fTable[j]? = some y → ¬ Alike x y) | .inr t => t = (x.fInside.fHost, x.fInside.fPort, x.fPeer.fHost, x.fPeer.fPort, x.fPort, x.fUntil, x.fOpen) ∧ ∀ j, j < i → ∀ y, n.fTable[j]? = some y → ¬ Alike x y) ?_ (fun e he => Ok.done ⟨fun h => by simp at h, fun h => absurd h.2.2 he⟩) (fun e he => ?_)
  ·refine Ok.lp (fun k => 0 ≤ k ∧ k ≤ (i : Int) ∧ ∀ j, j < k.toNat → ∀ y, n.fTable[j]? = some y → ¬ Alike x y) (fun k => i - k.toNat) ⟨by simp, by simp, by simp⟩ (fuel (by simp; omega)) fun k hk => ?_
   obtain ⟨h0, h2, h3⟩ := hk
   refine Ok.br (fun hc2 => ?_) (fun hc2 => Ok.done ?_)
   ·rw [decide_eq_true_eq] at hc2
    obtain ⟨y, hy⟩ := at_of (l := n.fTable) h0 (by omega)
    refine Ok.cnd (R := fun c => (c = true ↔ Alike x y)) ?_ fun c hcc => ?_
    ·refine Ok.row (by simpa using h0) hy (Ok.br (fun h4 => Ok.done ?_) (fun h4 => Ok.row (by simpa using h0) hy (Ok.br (fun h5 => Ok.row (by simpa using h0) hy (Ok.done ?_)) (fun h5 => Ok.done ?_))))
     ·simp at h4; simp [Alike, h4]
     ·simp at h4; rw [eA_iff] at h5; rw [eA_iff]
      have h4' : ¬ x.fPort = y.fPort := fun e => h4 e.symm
      simp [Alike, h4', h5, eq_comm]
     ·simp at h4
      have h4' : ¬ x.fPort = y.fPort := fun e => h4 e.symm
      have : ¬ x.fInside = y.fInside := fun e => by rw [(eA_iff (a := y.fInside) (b := x.fInside)).2 e.symm] at h5; simp at h5
      simp [Alike, h4', this]
    ·refine Ok.br (fun h4 => Ok.done ?_) (fun h4 => Ok.done ?_)
     ·intro hall
      exact hall k.toNat (by omega) y hy (hcc.1 h4)
     ·rw [wi64_succ h0 (n := i) hc2 (by omega)]
      refine ⟨⟨by omega, by omega, ?_⟩, by simp only; omega⟩
      rw [toNat_succ h0]
      refine upto_succ h3 fun z hz => ?_
      rw [hy] at hz; simp only [Option.some.injEq] at hz; subst hz
      intro e
      rw [hcc.2 e] at h4; simp at h4
   ·rw [decide_eq_false_iff_not] at hc2
    refine ⟨rfl, fun j hj => h3 j (by omega)⟩
  ·obtain ⟨rfl, hnone⟩ := he
   refine Ok.br (fun h2 => Ok.done ?_) (fun h2 => ?_)
   ·simp at h2
    rw [mlen_eq]
    simp [At1, hb, OpenOk, h2]
    intro _; exact hnone
   ·simp at h2
    refine Ok.bind2 (R := fun e => match e with | .inl _ => ¬ AllK n.fFilter x.fOpen (n.fHost.size : Int) | .inr t => t = (x.fInside.fHost, x.fInside.fPort, x.fPeer.fHost, x.fPeer.fPort, x.fPort, x.fUntil, x.fOpen) ∧ AllK n.fFilter x.fOpen (n.fHost.size : Int)) ?_ (fun e he => Ok.done ⟨fun h => by simp at h, fun h => ?_⟩) (fun e he => ?_)
    ·refine Ok.lp (fun t => ∃ k : Int, t = (x.fInside.fHost, x.fInside.fPort, x.fPeer.fHost, x.fPeer.fPort, x.fPort, x.fUntil, x.fOpen, k) ∧ 0 ≤ k ∧ k ≤ (x.fOpen.length : Int) ∧ ∀ j, j < k.toNat → ∀ a, x.fOpen[j]? = some a → IsKey n.fFilter a (n.fHost.size : Int) ∧ ∀ m, m < j → x.fOpen[m]? ≠ some a) (fun t => x.fOpen.length - t.2.2.2.2.2.2.2.toNat) ⟨0, rfl, by simp, by simp, by simp⟩ (fuel (by simp; omega)) fun t ht => ?_
     obtain ⟨k, rfl, h0, h3, h4⟩ := ht
     refine Ok.br (fun hc2 => ?_) (fun hc2 => Ok.done ?_)
     ·rw [mlen_eq, decide_eq_true_eq] at hc2
      simp only at hc2
      obtain ⟨y, hy⟩ := at_of h0 hc2
      refine Ok.row (by simpa using h0) hy ?_
      refine Ok.call (ok108 _ _ _) fun c hcc => ?_
      refine Ok.br (fun h5 => Ok.done ?_) (fun h5 => ?_)
      ·simp at h5; subst h5; simp at hcc
       intro hall
       exact hcc (hall k.toNat y hy).1
      simp at h5; subst h5; simp at hcc
      refine Ok.bind2 (R := fun e => match e with | .inl _ => ∃ m, m < k.toNat ∧ x.fOpen[m]? = some y | .inr _ => ∀ m, m < k.toNat → x.fOpen[m]? ≠ some y) ?_ (fun e he => Ok.done ?_) (fun e he => Ok.done ?_)
      ·refine Ok.lp (fun q => 0 ≤ q ∧ q ≤ k ∧ ∀ m, m < q.toNat → x.fOpen[m]? ≠ some y) (fun q => k.toNat - q.toNat) ⟨by simp, h0, by simp⟩ (fuel (by simp; omega)) fun q hq => ?_
       obtain ⟨q0, q1, q2⟩ := hq
       refine Ok.br (fun hc3 => ?_) (fun hc3 => Ok.done ?_)
       ·rw [decide_eq_true_eq] at hc3
        simp only at hc3
        obtain ⟨z, hz⟩ := at_of (l := x.fOpen) q0 (by omega)
        refine Ok.row (by simpa using q0) hz (Ok.row (by simpa using h0) hy (Ok.br (fun h6 => Ok.done ?_) (fun h6 => Ok.done ?_)))
        ·rw [eA_iff] at h6; subst h6
         exact ⟨q.toNat, by omega, hz⟩
        ·rw [wi64_succ q0 (n := k.toNat) (by omega) (by omega)]
         refine ⟨⟨by omega, by omega, ?_⟩, by simp only; omega⟩
         rw [toNat_succ q0]
         refine upto_succ q2 ?_
         rw [hz]; intro e
         simp only [Option.some.injEq] at e
         rw [(eA_iff (a := z) (b := y)).2 e] at h6; simp at h6
       ·rw [decide_eq_false_iff_not] at hc3
        simp only at hc3
        intro m hm; exact q2 m (by omega)
      ·intro hall
       obtain ⟨m, hm, hmy⟩ := he
       exact (hall k.toNat y hy).2 m hm hmy
      ·rw [wi64_succ h0 hc2 hlo]
       refine ⟨⟨k + 1, rfl, by omega, by omega, ?_⟩, by simp only; omega⟩
       rw [toNat_succ h0]
       refine upto_succ h4 fun a ha => ?_
       rw [hy] at ha; simp only [Option.some.injEq] at ha; subst ha
       exact ⟨hcc, he⟩
     ·rw [mlen_eq, decide_eq_false_iff_not] at hc2
      simp only at hc2
      refine ⟨rfl, fun j a hj => h4 j (by have := (List.getElem?_eq_some_iff.1 hj).1; omega) a hj⟩
    ·rcases h.2.1 with h3 | h3
     ·exact absurd h3.1 h2
     ·exact (he h3.2.2.2).elim
    ·obtain ⟨rfl, hall⟩ := he
     refine Ok.cnd (R := fun c => (c = true ↔ 1 ≤ x.fOpen.length ∧ x.fOpen.length ≤ 16)) ?_ fun c hcc => Ok.done ?_
     ·simp only [mlen_eq]
      refine Ok.br (fun h3 => Ok.done ?_) (fun h3 => Ok.done ?_)
      ·simp at h3 ⊢; omega
      ·simp at h3 ⊢; omega
     ·rw [hcc]
      constructor
      ·intro h; exact ⟨hb, .inr ⟨h2, h.1, h.2, hall⟩, hnone⟩
      ·rintro ⟨_, h3, _⟩
       rcases h3 with h3 | h3
       ·exact absurd h3.1 h2
       ·exact ⟨h3.2.1, h3.2.2.1⟩
theorem ok53 (n : SNat) (hl : SmallN n.fTable) : SOk (s53 n) (fun c => (c = true ↔ Valid n)) := by
 show Ok (g53 n) _
 unfold g53 Valid Head
 refine Ok.cnd (R := fun c => (c = false ↔ (1 ≤ n.fMapping ∧ n.fMapping ≤ 3) ∧ (1 ≤ n.fFilter ∧ n.fFilter ≤ 3) ∧ (1 ≤ n.fTimeout ∧ n.fTimeout ≤ 3600000) ∧ ((n.fHost.size : Int) = 4 ∨ (n.fHost.size : Int) = 16))) ?_ fun c hc => ?_
 ·refine Ok.br (fun h1 => Ok.done ?_) (fun h1 => Ok.br (fun h2 => Ok.done ?_) (fun h2 => Ok.br (fun h3 => Ok.done ?_) (fun h3 => Ok.br (fun h4 => Ok.done ?_) (fun h4 => Ok.br (fun h5 => Ok.done ?_) (fun h5 => Ok.br (fun h6 => Ok.done ?_) (fun h6 => Ok.br (fun h7 => Ok.done ?_) (fun h7 => Ok.done ?_)))))))
  all_goals (simp at *; omega)
 ·refine Ok.br (fun h1 => Ok.done ?_) (fun h1 => ?_)
  ·subst h1; simp at hc ⊢; intros; omega
  have h2 := hc.1 h1
  refine Ok.cnd (R := fun c => (c = false ↔ (1 ≤ n.fLow ∧ n.fHigh ≤ 65535 ∧ n.fLow ≤ n.fHigh ∧ n.fHigh < n.fLow + 64) ∧ (0 ≤ n.fNow ∧ n.fNow ≤ 1099511627776))) ?_ fun d hd => ?_
  ·refine Ok.br (fun h3 => Ok.done ?_) (fun h3 => Ok.br (fun h4 => Ok.done ?_) (fun h4 => Ok.br (fun h5 => Ok.done ?_) (fun h5 => Ok.br (fun h5' => Ok.done ?_) (fun h5' => ?_))))
   ·simp at *; omega
   ·simp at *; omega
   ·simp at *; omega
   ·simp at *; omega
   ·simp at h3 h4 h5 h5'
    rw [wi64_id (n := n.fHigh - n.fLow) (by omega) (by omega)]
    refine Ok.br (fun h6 => Ok.done ?_) (fun h6 => Ok.br (fun h7 => Ok.done ?_) (fun h7 => Ok.done ?_))
    all_goals (simp at *; omega)
  ·refine Ok.br (fun h3 => Ok.done ?_) (fun h3 => ?_)
   ·subst h3; simp at hd ⊢; intros; omega
   have h4 := hd.1 h3
   have hhead : (1 ≤ n.fMapping ∧ n.fMapping ≤ 3) ∧ (1 ≤ n.fFilter ∧ n.fFilter ≤ 3) ∧ (1 ≤ n.fTimeout ∧ n.fTimeout ≤ 3600000) ∧ ((n.fHost.size : Int) = 4 ∨ (n.fHost.size : Int) = 16) ∧ (1 ≤ n.fLow ∧ n.fHigh ≤ 65535 ∧ n.fLow ≤ n.fHigh ∧ n.fHigh < n.fLow + 64) ∧ (0 ≤ n.fNow ∧ n.fNow ≤ 1099511627776) := ⟨h2.1, h2.2.1, h2.2.2.1, h2.2.2.2, h4.1, h4.2⟩
   refine Ok.bind2 (R := fun e => match e with | .inl _ => ¬ AllB n n.fTable | .inr _ => AllB n n.fTable) ?_ (fun e he => Ok.done ⟨fun h => by simp at h, fun h => absurd h.2 he⟩) (fun e he => Ok.done ⟨fun _ => ⟨hhead, he⟩, fun _ => rfl⟩)
   refine Ok.lp (fun i => 0 ≤ i ∧ i ≤ (n.fTable.length : Int) ∧ ∀ j, j < i.toNat → ∀ b, n.fTable[j]? = some b → At1 n n.fTable j b) (fun i => n.fTable.length - i.toNat) ⟨by simp, by simp, by simp⟩ (fuel (by have := hl.1; simp; omega)) fun i hi => ?_
   obtain ⟨h0, h1, h2⟩ := hi
   refine Ok.br (fun hc => ?_) (fun hc => Ok.done ?_)
   ·rw [mlen_eq, decide_eq_true_eq] at hc
    obtain ⟨y, hy⟩ := at_of h0 hc
    have hk := ok79 n i.toNat y hy hl
    rw [show ((i.toNat : Nat) : Int) = i by omega] at hk
    refine Ok.call hk fun c hcc => ?_
    refine Ok.br (fun h3 => Ok.done ?_) (fun h3 => Ok.done ?_)
    ·simp at h3; subst h3; simp at hcc
     intro hall; exact hcc (hall i.toNat y hy)
    ·simp at h3; subst h3; simp at hcc
     rw [wi64_succ h0 hc hl.1]
     refine ⟨⟨by omega, by omega, ?_⟩, by simp only; omega⟩
     rw [toNat_succ h0]
     refine upto_succ h2 fun a ha => ?_
     rw [hy] at ha; simp only [Option.some.injEq] at ha; subst ha
     exact hcc
   ·rw [mlen_eq, decide_eq_false_iff_not] at hc
    refine fun (j : Nat) a hj => ?_
    exact h2 j (by have := (List.getElem?_eq_some_iff.1 hj).1; omega) a hj
end Go.Proofs.YtdiagiflihpidaaDoor
namespace Go.Proofs.YtdiagiflihpidaaDoor
open Go Go.EV
set_option maxRecDepth 100000
def keep (now : Int) (l : List SBinding) : List SBinding := l.filter fun b => decide (now < b.fUntil)
theorem keep_succ {now : Int} {l : List SBinding} {i : Nat} {y : SBinding} (hy : l[i]? = some y) : keep now (l.take (i + 1)) = keep now (l.take i) ++ (if now < y.fUntil then [y] else []) := by
 unfold keep
 rw [List.take_add_one, hy, List.filter_append]
 simp only [Option.toList_some, List.filter_cons, List.filter_nil]
 by_cases h : now < y.fUntil <;> simp [h]
theorem keep_len (now : Int) (l : List SBinding) (i : Nat) : (keep now (l.take i)).length ≤ i := by
 unfold keep
 have := List.length_filter_le (fun b => decide (now < b.fUntil)) (l.take i)
 simp at this; omega
theorem take_all {α : Type} {l : List α} {i : Nat} (h : l.length ≤ i) : l.take i = l := List.take_of_length_le h
theorem ok57 (b : SBinding) (hl : Small b.fOpen) : SOk (s57 b) (fun r => r = b.fOpen) := by
 show Ok (g57 b) _
 unfold g57
 exact Ok.app (by simp; omega) (Ok.done rfl)
theorem ok64 (l : List SAddr) (hl : Small l) : SOk (s64 l) (fun _ => True) := by
 show Ok (g64 l) _
 unfold g64
 exact Ok.app (by simp; omega) (Ok.done trivial)
def Time (n : SNat) (now : Int) (l : List SAddr) : Prop := n.fNow ≤ now ∧ now ≤ 1099511627776 ∧ ∀ a, a ∈ l → Usable a (n.fHost.size : Int)
theorem mem_upto {l : List SAddr} {p : SAddr → Prop} {i : Int} (hc : ¬ i < (l.length : Int)) (h : ∀ j, j < i.toNat → ∀ a, l[j]? = some a → p a) : ∀ a, a ∈ l → p a := fun a ha => by
 obtain ⟨j, hj⟩ := List.mem_iff_getElem?.1 ha
 exact h j (by have := (List.getElem?_eq_some_iff.1 hj).1; omega) a hj
def ErrQ (n : SNat) (now : Int) (l : List SAddr) (r : Int) : Prop := (¬ Valid n ∧ r = 130) ∨ (Valid n ∧ ¬ Time n now l ∧ r = 2) ∨ (Valid n ∧ Time n now l ∧ r = 0)
theorem ok18 (n : SNat) (now : Int) (l : List SAddr) (hl : SmallN n.fTable) (hs : Small l) : SOk (s18 n now l) (ErrQ n now l) := by
 show Ok (g18 n now l) _
 unfold g18 ErrQ
 refine Ok.call (ok53 n hl) fun v hv => ?_
 refine Ok.br (fun h1 => Ok.done ?_) (fun h1 => ?_)
 ·simp at h1; subst h1; simp at hv; exact .inl ⟨hv, rfl⟩
 simp at h1; subst h1; simp at hv
 refine Ok.cnd (R := fun c => (c = false ↔ n.fNow ≤ now ∧ now ≤ 1099511627776)) ?_ fun c hc => ?_
 ·refine Ok.br (fun h2 => Ok.done ?_) (fun h2 => Ok.done ?_)
  ·simp at h2 ⊢; omega
  ·simp at h2 ⊢; omega
 refine Ok.br (fun h2 => Ok.done ?_) (fun h2 => ?_)
 ·refine .inr (.inl ⟨hv, fun ht => ?_, rfl⟩)
  rw [hc.2 ⟨ht.1, ht.2.1⟩] at h2; simp at h2
 have ht := hc.1 h2
 refine Ok.bind2 (R := fun e => match e with | .inl _ => ¬ ∀ a, a ∈ l → Usable a (n.fHost.size : Int) | .inr _ => ∀ a, a ∈ l → Usable a (n.fHost.size : Int)) ?_ (fun e he => Ok.done ?_) (fun e he => Ok.done ?_)
 ·refine Ok.lp (fun i => 0 ≤ i ∧ i ≤ (l.length : Int) ∧ ∀ j, j < i.toNat → ∀ a, l[j]? = some a → Usable a (n.fHost.size : Int)) (fun i => l.length - i.toNat) ⟨by simp, by simp, by simp⟩ (fuel (by simp; omega)) fun i hi => ?_
  obtain ⟨h0, h1, h3⟩ := hi
  refine Ok.br (fun hc => ?_) (fun hc => Ok.done ?_)
  ·rw [mlen_eq, decide_eq_true_eq] at hc
   obtain ⟨y, hy⟩ := at_of h0 hc
   refine Ok.row (by simpa using h0) hy ?_
   refine Ok.call (ok54 _ _) fun c hcc => ?_
   refine Ok.br (fun h4 => Ok.done ?_) (fun h4 => Ok.done ?_)
   ·simp at h4; subst h4; simp at hcc
    intro hall; exact hcc (hall y (List.mem_of_getElem? hy))
   ·simp at h4; subst h4; simp at hcc
    rw [wi64_succ h0 hc hs]
    refine ⟨⟨by omega, by omega, ?_⟩, by simp only; omega⟩
    rw [toNat_succ h0]
    refine upto_succ h3 fun a ha => ?_
    rw [hy] at ha; simp only [Option.some.injEq] at ha; subst ha; exact hcc
  ·rw [mlen_eq, decide_eq_false_iff_not] at hc
   exact mem_upto hc h3
 ·exact .inr (.inl ⟨hv, fun h => he h.2.2, rfl⟩)
 ·exact .inr (.inr ⟨hv, ⟨ht.1, ht.2, he⟩, rfl⟩)
theorem ok19 (n : SNat) (hl : SmallN n.fTable) : SOk (s19 n) (fun r => (¬ Valid n ∧ r = 130) ∨ (Valid n ∧ r = 0)) := by
 show Ok (g19 n) _
 unfold g19
 refine Ok.view (ok55 ⟨n⟩ hl) fun v hv => ?_
 refine Ok.br (fun h1 => Ok.done ?_) (fun h1 => Ok.done ?_)
 ·simp at h1; subst h1; simp at hv; exact .inl ⟨hv, rfl⟩
 ·simp at h1; subst h1; simp at hv; exact .inr ⟨hv, rfl⟩
def StartQ (n : SNat) (now : Int) (l : List SAddr) (r : Int ⊕ List SBinding) : Prop :=
 (¬ Valid n ∧ r = .inl 130) ∨ (Valid n ∧ ¬ Time n now l ∧ r = .inl 2) ∨ (Valid n ∧ Time n now l ∧ r = .inr (keep now n.fTable))
theorem ok56_1 (n : SNat) (now : Int) (l : List SAddr) (hl : SmallN n.fTable) (hs : Small l) : SOk (s56_1 n now l) (StartQ n now l) := by
 have hl1 := hl.1
 show Ok (g56_1 n now l) _
 unfold g56_1 StartQ
 refine Ok.view (ok55 ⟨n⟩ hl) fun v hv => ?_
 refine Ok.br (fun h1 => Ok.done ?_) (fun h1 => ?_)
 ·simp at h1; subst h1; simp at hv; exact .inl ⟨hv, rfl⟩
 simp at h1; subst h1; simp at hv
 refine Ok.cnd (R := fun c => (c = false ↔ n.fNow ≤ now ∧ now ≤ 1099511627776)) ?_ fun c hc => ?_
 ·refine Ok.br (fun h2 => Ok.done ?_) (fun h2 => Ok.done ?_)
  ·simp at h2 ⊢; omega
  ·simp at h2 ⊢; omega
 refine Ok.br (fun h2 => Ok.done ?_) (fun h2 => ?_)
 ·refine .inr (.inl ⟨hv, fun ht => ?_, rfl⟩)
  rw [hc.2 ⟨ht.1, ht.2.1⟩] at h2; simp at h2
 have ht := hc.1 h2
 refine Ok.bind2 (R := fun e => match e with | .inl _ => ¬ ∀ a, a ∈ l → Usable a (n.fHost.size : Int) | .inr _ => ∀ a, a ∈ l → Usable a (n.fHost.size : Int)) ?_ (fun e he => Ok.done ?_) (fun e he => ?_)
 ·refine Ok.lp (fun i => 0 ≤ i ∧ i ≤ (l.length : Int) ∧ ∀ j, j < i.toNat → ∀ a, l[j]? = some a → Usable a (n.fHost.size : Int)) (fun i => l.length - i.toNat) ⟨by simp, by simp, by simp⟩ (fuel (by simp; omega)) fun i hi => ?_
  obtain ⟨h0, h1, h3⟩ := hi
  refine Ok.br (fun hc => ?_) (fun hc => Ok.done ?_)
  ·rw [decide_eq_true_eq] at hc
   obtain ⟨y, hy⟩ := at_of h0 hc
   refine Ok.chk (by simp; omega) (Ok.row rfl (by rw [Nat.zero_add]; exact hy) ?_)
   refine Ok.view (ok84 ⟨n⟩ _) fun c hcc => ?_
   refine Ok.br (fun h4 => Ok.done ?_) (fun h4 => Ok.done ?_)
   ·simp at h4; subst h4; simp at hcc
    intro hall; exact hcc (hall y (List.mem_of_getElem? hy))
   ·simp at h4; subst h4; simp at hcc
    rw [wi64_succ h0 hc hs]
    refine ⟨⟨by omega, by omega, ?_⟩, by simp only; omega⟩
    rw [toNat_succ h0]
    refine upto_succ h3 fun a ha => ?_
    rw [hy] at ha; simp only [Option.some.injEq] at ha; subst ha; exact hcc
  ·rw [decide_eq_false_iff_not] at hc
   exact mem_upto hc h3
 ·exact .inr (.inl ⟨hv, fun h => he h.2.2, rfl⟩)
 ·refine Ok.gh (Ok.bind (R := fun e => e = keep now n.fTable) ?_ fun e hk => Ok.done (.inr (.inr ⟨hv, ⟨ht.1, ht.2, he⟩, by rw [hk]⟩)))
  refine Ok.lp (fun t => ∃ i : Int, t = (keep now (n.fTable.take i.toNat), i) ∧ 0 ≤ i ∧ i ≤ (n.fTable.length : Int)) (fun t => n.fTable.length - t.2.toNat) ⟨0, by simp [keep], by simp, by simp⟩ (fuel (by simp; omega)) fun t hi => ?_
  obtain ⟨i, rfl, h0, h1⟩ := hi
  refine Ok.br (fun hc => ?_) (fun hc => Ok.done ?_)
  ·rw [mlen_eq, decide_eq_true_eq] at hc
   simp only at hc
   obtain ⟨y, hy⟩ := at_of h0 hc
   refine Ok.row (by simpa using h0) hy ?_
   refine Ok.br (fun h4 => ?_) (fun h4 => Ok.done ?_)
   ·refine Ok.call (ok64 _ (hl.2 y (List.mem_of_getElem? hy))) fun _ _ => ?_
    refine Ok.appn ?_ (Ok.gh (Ok.gh (Ok.done ?_)))
    ·have := keep_len now n.fTable i.toNat
     simp only; omega
    ·simp only
     rw [wi64_succ h0 hc hl1]
     refine ⟨⟨i + 1, ?_, by omega, by omega⟩, by simp only; omega⟩
     rw [toNat_succ h0, keep_succ hy, if_pos (by simpa using h4)]
   ·simp only
    rw [wi64_succ h0 hc hl1]
    refine ⟨⟨i + 1, ?_, by omega, by omega⟩, by simp only; omega⟩
    rw [toNat_succ h0, keep_succ hy, if_neg (by simpa using h4)]; simp
  ·rw [mlen_eq, decide_eq_false_iff_not] at hc
   simp only at hc
   show keep now (n.fTable.take i.toNat) = _
   rw [take_all (by omega)]
def nat0 : SNat := ⟨0, 0, 0, false, ByteArray.empty, 0, 0, 0, []⟩
def atT (n : SNat) (now : Int) : SNat := ⟨n.fMapping, n.fFilter, n.fTimeout, n.fHairpin, n.fHost, n.fLow, n.fHigh, now, keep now n.fTable⟩
theorem ok21 (n : SNat) (now : Int) (hl : SmallN n.fTable) : SOk (s21 n now) (fun r => r = keep now n.fTable) := by
 have hl1 := hl.1
 show Ok (g21 n now) _
 unfold g21
 refine Ok.gh (Ok.bind (R := fun e => e = keep now n.fTable) ?_ fun e hk => Ok.done hk)
 refine Ok.lp (fun t => ∃ i : Int, t = (keep now (n.fTable.take i.toNat), i) ∧ 0 ≤ i ∧ i ≤ (n.fTable.length : Int)) (fun t => n.fTable.length - t.2.toNat) ⟨0, by simp [keep], by simp, by simp⟩ (fuel (by simp; omega)) fun t hi => ?_
 obtain ⟨i, rfl, h0, h1⟩ := hi
 refine Ok.br (fun hc => ?_) (fun hc => Ok.done ?_)
 ·rw [mlen_eq, decide_eq_true_eq] at hc
  simp only at hc
  obtain ⟨y, hy⟩ := at_of h0 hc
  refine Ok.row (by simpa using h0) hy ?_
  refine Ok.br (fun h4 => ?_) (fun h4 => Ok.done ?_)
  ·refine Ok.row (by simpa using h0) hy (Ok.call (ok57 _ (hl.2 y (List.mem_of_getElem? hy))) fun r hr => ?_)
   subst hr
   refine Ok.appn ?_ (Ok.gh (Ok.gh (Ok.done ?_)))
   ·have := keep_len now n.fTable i.toNat
    simp only; omega
   ·simp only
    rw [wi64_succ h0 hc hl1]
    refine ⟨⟨i + 1, ?_, by omega, by omega⟩, by simp only; omega⟩
    rw [toNat_succ h0, keep_succ hy, if_pos (by simpa using h4)]
  ·simp only
   rw [wi64_succ h0 hc hl1]
   refine ⟨⟨i + 1, ?_, by omega, by omega⟩, by simp only; omega⟩
   rw [toNat_succ h0, keep_succ hy, if_neg (by simpa using h4)]; simp
 ·rw [mlen_eq, decide_eq_false_iff_not] at hc
  simp only at hc
  show keep now (n.fTable.take i.toNat) = _
  rw [take_all (by omega)]
end Go.Proofs.YtdiagiflihpidaaDoor
namespace Go.Proofs.YtdiagiflihpidaaDoor
open Go Go.EV
set_option maxRecDepth 100000
def Bd (m k : Nat) (l : List SBinding) : Prop := l.length ≤ m ∧ ∀ b, b ∈ l → b.fOpen.length ≤ k
theorem ok89 (n : SNat) (p : Int) (hl : Small n.fTable) : SOk (s89 n p) (fun c => (c = true ↔ ∃ b, b ∈ n.fTable ∧ b.fPort = p)) := by
 show Ok (g89 n p) _
 unfold g89
 refine Ok.bind2 (R := fun e => match e with | .inl _ => ∃ b, b ∈ n.fTable ∧ b.fPort = p | .inr _ => ¬ ∃ b, b ∈ n.fTable ∧ b.fPort = p) ?_ (fun e he => Ok.done ⟨fun _ => he, fun _ => rfl⟩) (fun e he => Ok.done ⟨fun h => by simp at h, fun h => absurd h he⟩)
 refine Ok.lp (fun i => 0 ≤ i ∧ i ≤ (n.fTable.length : Int) ∧ ∀ j, j < i.toNat → ∀ b, n.fTable[j]? = some b → b.fPort ≠ p) (fun i => n.fTable.length - i.toNat) ⟨by simp, by simp, by simp⟩ (fuel (by simp; omega)) fun i hi => ?_
 obtain ⟨h0, h1, h2⟩ := hi
 refine Ok.br (fun hc => ?_) (fun hc => Ok.done ?_)
 ·rw [mlen_eq, decide_eq_true_eq] at hc
  obtain ⟨y, hy⟩ := at_of h0 hc
  refine Ok.row (by simpa using h0) hy (Ok.br (fun h3 => Ok.done ?_) (fun h3 => Ok.done ?_))
  ·exact ⟨y, List.mem_of_getElem? hy, by simpa using h3⟩
  ·rw [wi64_succ h0 hc hl]
   refine ⟨⟨by omega, by omega, ?_⟩, by simp only; omega⟩
   rw [toNat_succ h0]
   refine upto_succ h2 fun b hb => ?_
   rw [hy] at hb; simp only [Option.some.injEq] at hb; subst hb; simpa using h3
 ·rw [mlen_eq, decide_eq_false_iff_not] at hc
  rintro ⟨b, hb, hp⟩
  obtain ⟨j, hj⟩ := List.mem_iff_getElem?.1 hb
  exact h2 j (by have := (List.getElem?_eq_some_iff.1 hj).1; omega) b hj hp
theorem ok61 (b : SBinding) (a : SAddr) (hl : Small b.fOpen) : SOk (s61 b a) (fun c => (c = true ↔ a ∈ b.fOpen)) := by
 show Ok (g61 b a) _
 unfold g61
 refine Ok.bind2 (R := fun e => match e with | .inl _ => a ∈ b.fOpen | .inr _ => ¬ a ∈ b.fOpen) ?_ (fun e he => Ok.done ⟨fun _ => he, fun _ => rfl⟩) (fun e he => Ok.done ⟨fun h => by simp at h, fun h => absurd h he⟩)
 refine Ok.lp (fun i => 0 ≤ i ∧ i ≤ (b.fOpen.length : Int) ∧ ∀ j, j < i.toNat → b.fOpen[j]? ≠ some a) (fun i => b.fOpen.length - i.toNat) ⟨by simp, by simp, by simp⟩ (fuel (by simp; omega)) fun i hi => ?_
 obtain ⟨h0, h1, h2⟩ := hi
 refine Ok.br (fun hc => ?_) (fun hc => Ok.done ?_)
 ·rw [mlen_eq, decide_eq_true_eq] at hc
  obtain ⟨y, hy⟩ := at_of h0 hc
  refine Ok.row (by simpa using h0) hy (Ok.br (fun h3 => Ok.done ?_) (fun h3 => Ok.done ?_))
  ·rw [eA_iff] at h3; subst h3
   exact List.mem_of_getElem? hy
  ·rw [wi64_succ h0 hc hl]
   refine ⟨⟨by omega, by omega, ?_⟩, by simp only; omega⟩
   rw [toNat_succ h0]
   refine upto_succ h2 ?_
   rw [hy]; intro e
   simp only [Option.some.injEq] at e
   rw [(eA_iff (a := y) (b := a)).2 e] at h3; simp at h3
 ·rw [mlen_eq, decide_eq_false_iff_not] at hc
  intro hm
  obtain ⟨j, hj⟩ := List.mem_iff_getElem?.1 hm
  exact h2 j (by have := (List.getElem?_eq_some_iff.1 hj).1; omega) hj
end Go.Proofs.YtdiagiflihpidaaDoor
namespace Go.Proofs.YtdiagiflihpidaaDoor
open Go Go.EV
set_option maxRecDepth 100000
theorem smallN_keep {n : SNat} (hl : SmallN n.fTable) (now : Int) : SmallN (atT n now).fTable :=
 ⟨Nat.le_trans (List.length_filter_le _ _) hl.1, fun b hb => hl.2 b (List.mem_filter.1 hb).1⟩
end Go.Proofs.YtdiagiflihpidaaDoor
