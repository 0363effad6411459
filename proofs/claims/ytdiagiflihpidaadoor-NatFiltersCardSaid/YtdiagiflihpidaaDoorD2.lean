/- Guides and contracts, printed by a program. -/
import Derived.Test.YtdiagiflihpidaaDoorD1
import Derived.KernelRfl

namespace Go.Proofs.YtdiagiflihpidaaDoor
open Go Go.EV
set_option maxRecDepth 100000

/-- tannoy tannoylaw13.NatIns -/
noncomputable def g5 (p0 : SDraft) (p1 : S2Tannoyref13Bend) (p2 : SNat) (p3 : SMove1) (p4 : Int) : TT (Bool) :=
  .call 1001 s16 [] [] fun r476 =>
  .br 0 (!r476)
  (.done false)
  (.call 3004 (s17 p0 p1 p2) [] [] fun r477 =>
    .tt (.call 7003 (s24 p3.fTo) [] [] fun r478 =>
    .call 7012 (s24 p3.fTo) [] [] fun r479 =>
    .tt (.tt (.call 13007 (s27 r477.a0 p3.fNow r478 (SAddr.mk r477.a0.fHost (wi64 (r477.a0.fLow + (wi64 (Int.tmod p4 9)))))) [] [] fun r480 =>
    .call 14007 (s28 r477.a0 p3.fNow r478 (SAddr.mk r477.a0.fHost (wi64 (r477.a0.fLow + (wi64 (Int.tmod p4 9)))))) [] [] fun r481 =>
    .cnd 15 [109]
    (.br 15005 (r480.2.2 != r481.2.2)
      (.done true)
      (.br 15010 (!((decide (r480.2.1.fHost = r481.2.1.fHost)) && ((r480.2.1.fPort == r481.2.1.fPort) && true)))
        (.done true)
        (.call 15012 (s22 r480.1 r481.1) [] [] fun r482 =>
          .done (!r482))))
    (fun (c483 : Bool) => [.bool c483]) fun c483 =>
    .br 0 c483
    (.done false)
    (.tt (.gh 15 (.drop [18, 19]) (.call 13007 (s27 r477.a0 (wi64 (r477.a0.fNow + (wi64 (Int.tmod p3.fAfter 1000)))) r478 (SAddr.mk r477.a0.fHost (wi64 (r477.a0.fLow + (wi64 (Int.tmod p4 9)))))) [] [] fun r484 =>
      .gh 16 (.drop [21, 22]) (.call 14007 (s28 r477.a0 (wi64 (r477.a0.fNow + (wi64 (Int.tmod p3.fAfter 1000)))) r478 (SAddr.mk r477.a0.fHost (wi64 (r477.a0.fLow + (wi64 (Int.tmod p4 9)))))) [] [] fun r485 =>
      .cnd 15 [109]
      (.br 15005 (r484.2.2 != r485.2.2)
        (.done true)
        (.br 15010 (!((decide (r484.2.1.fHost = r485.2.1.fHost)) && ((r484.2.1.fPort == r485.2.1.fPort) && true)))
          (.done true)
          (.call 15012 (s22 r484.1 r485.1) [] [] fun r486 =>
            .done (!r486))))
      (fun (c487 : Bool) => [.bool c487]) fun c487 =>
      .br 0 c487
      (.done false)
      (.ff (.tt (.gh 11 (.drop [15]) (.tt (.gh 15 (.drop [18, 19]) (.call 13007 (s27 r477.a0 p3.fNow p3.fRawFrom (SAddr.mk r477.a0.fHost (wi64 (r477.a0.fLow + (wi64 (Int.tmod p4 9)))))) [] [] fun r488 =>
        .gh 16 (.drop [21, 22]) (.call 14007 (s28 r477.a0 p3.fNow p3.fRawFrom (SAddr.mk r477.a0.fHost (wi64 (r477.a0.fLow + (wi64 (Int.tmod p4 9)))))) [] [] fun r489 =>
        .cnd 15 [109]
        (.br 15005 (r488.2.2 != r489.2.2)
          (.done true)
          (.br 15010 (!((decide (r488.2.1.fHost = r489.2.1.fHost)) && ((r488.2.1.fPort == r489.2.1.fPort) && true)))
            (.done true)
            (.call 15012 (s22 r488.1 r489.1) [] [] fun r490 =>
              .done (!r490))))
        (fun (c491 : Bool) => [.bool c491]) fun c491 =>
        .br 0 c491
        (.done false)
        (.tt (.gh 15 (.drop [18, 19]) (.call 13007 (s27 r477.a0 (wi64 (r477.a0.fNow + (wi64 (Int.tmod p3.fAfter 1000)))) p3.fRawFrom (SAddr.mk r477.a0.fHost (wi64 (r477.a0.fLow + (wi64 (Int.tmod p4 9)))))) [] [] fun r492 =>
          .gh 16 (.drop [21, 22]) (.call 14007 (s28 r477.a0 (wi64 (r477.a0.fNow + (wi64 (Int.tmod p3.fAfter 1000)))) p3.fRawFrom (SAddr.mk r477.a0.fHost (wi64 (r477.a0.fLow + (wi64 (Int.tmod p4 9)))))) [] [] fun r493 =>
          .cnd 15 [109]
          (.br 15005 (r492.2.2 != r493.2.2)
            (.done true)
            (.br 15010 (!((decide (r492.2.1.fHost = r493.2.1.fHost)) && ((r492.2.1.fPort == r493.2.1.fPort) && true)))
              (.done true)
              (.call 15012 (s22 r492.1 r493.1) [] [] fun r494 =>
                .done (!r494))))
          (fun (c495 : Bool) => [.bool c495]) fun c495 =>
          .br 0 c495
          (.done false)
          (.ff (.tt (.gh 11 (.drop [15]) (.tt (.gh 15 (.drop [18, 19]) (.call 13007 (s27 r477.a0 p3.fNow r479 p3.fRawTo) [] [] fun r496 =>
            .gh 16 (.drop [21, 22]) (.call 14007 (s28 r477.a0 p3.fNow r479 p3.fRawTo) [] [] fun r497 =>
            .cnd 15 [109]
            (.br 15005 (r496.2.2 != r497.2.2)
              (.done true)
              (.br 15010 (!((decide (r496.2.1.fHost = r497.2.1.fHost)) && ((r496.2.1.fPort == r497.2.1.fPort) && true)))
                (.done true)
                (.call 15012 (s22 r496.1 r497.1) [] [] fun r498 =>
                  .done (!r498))))
            (fun (c499 : Bool) => [.bool c499]) fun c499 =>
            .br 0 c499
            (.done false)
            (.tt (.gh 15 (.drop [18, 19]) (.call 13007 (s27 r477.a0 (wi64 (r477.a0.fNow + (wi64 (Int.tmod p3.fAfter 1000)))) r479 p3.fRawTo) [] [] fun r500 =>
              .gh 16 (.drop [21, 22]) (.call 14007 (s28 r477.a0 (wi64 (r477.a0.fNow + (wi64 (Int.tmod p3.fAfter 1000)))) r479 p3.fRawTo) [] [] fun r501 =>
              .cnd 15 [109]
              (.br 15005 (r500.2.2 != r501.2.2)
                (.done true)
                (.br 15010 (!((decide (r500.2.1.fHost = r501.2.1.fHost)) && ((r500.2.1.fPort == r501.2.1.fPort) && true)))
                  (.done true)
                  (.call 15012 (s22 r500.1 r501.1) [] [] fun r502 =>
                    .done (!r502))))
              (fun (c503 : Bool) => [.bool c503]) fun c503 =>
              .br 0 c503
              (.done false)
              (.ff (.ff (.tt (.gh 7 (.drop [12]) (.gh 8 (.drop [13]) (.call 7003 (s24 p3.fTo) [] [] fun r504 =>
                .call 7012 (s24 p3.fTo) [] [] fun r505 =>
                .tt (.gh 11 (.drop [15]) (.tt (.gh 15 (.drop [18, 19]) (.call 13007 (s27 r477.a1 p3.fNow r504 (SAddr.mk r477.a1.fHost (wi64 (r477.a1.fLow + (wi64 (Int.tmod p4 9)))))) [] [] fun r506 =>
                .gh 16 (.drop [21, 22]) (.call 14007 (s28 r477.a1 p3.fNow r504 (SAddr.mk r477.a1.fHost (wi64 (r477.a1.fLow + (wi64 (Int.tmod p4 9)))))) [] [] fun r507 =>
                .cnd 15 [109]
                (.br 15005 (r506.2.2 != r507.2.2)
                  (.done true)
                  (.br 15010 (!((decide (r506.2.1.fHost = r507.2.1.fHost)) && ((r506.2.1.fPort == r507.2.1.fPort) && true)))
                    (.done true)
                    (.call 15012 (s22 r506.1 r507.1) [] [] fun r508 =>
                      .done (!r508))))
                (fun (c509 : Bool) => [.bool c509]) fun c509 =>
                .br 0 c509
                (.done false)
                (.tt (.gh 15 (.drop [18, 19]) (.call 13007 (s27 r477.a1 (wi64 (r477.a1.fNow + (wi64 (Int.tmod p3.fAfter 1000)))) r504 (SAddr.mk r477.a1.fHost (wi64 (r477.a1.fLow + (wi64 (Int.tmod p4 9)))))) [] [] fun r510 =>
                  .gh 16 (.drop [21, 22]) (.call 14007 (s28 r477.a1 (wi64 (r477.a1.fNow + (wi64 (Int.tmod p3.fAfter 1000)))) r504 (SAddr.mk r477.a1.fHost (wi64 (r477.a1.fLow + (wi64 (Int.tmod p4 9)))))) [] [] fun r511 =>
                  .cnd 15 [109]
                  (.br 15005 (r510.2.2 != r511.2.2)
                    (.done true)
                    (.br 15010 (!((decide (r510.2.1.fHost = r511.2.1.fHost)) && ((r510.2.1.fPort == r511.2.1.fPort) && true)))
                      (.done true)
                      (.call 15012 (s22 r510.1 r511.1) [] [] fun r512 =>
                        .done (!r512))))
                  (fun (c513 : Bool) => [.bool c513]) fun c513 =>
                  .br 0 c513
                  (.done false)
                  (.ff (.tt (.gh 11 (.drop [15]) (.tt (.gh 15 (.drop [18, 19]) (.call 13007 (s27 r477.a1 p3.fNow p3.fRawFrom (SAddr.mk r477.a1.fHost (wi64 (r477.a1.fLow + (wi64 (Int.tmod p4 9)))))) [] [] fun r514 =>
                    .gh 16 (.drop [21, 22]) (.call 14007 (s28 r477.a1 p3.fNow p3.fRawFrom (SAddr.mk r477.a1.fHost (wi64 (r477.a1.fLow + (wi64 (Int.tmod p4 9)))))) [] [] fun r515 =>
                    .cnd 15 [109]
                    (.br 15005 (r514.2.2 != r515.2.2)
                      (.done true)
                      (.br 15010 (!((decide (r514.2.1.fHost = r515.2.1.fHost)) && ((r514.2.1.fPort == r515.2.1.fPort) && true)))
                        (.done true)
                        (.call 15012 (s22 r514.1 r515.1) [] [] fun r516 =>
                          .done (!r516))))
                    (fun (c517 : Bool) => [.bool c517]) fun c517 =>
                    .br 0 c517
                    (.done false)
                    (.tt (.gh 15 (.drop [18, 19]) (.call 13007 (s27 r477.a1 (wi64 (r477.a1.fNow + (wi64 (Int.tmod p3.fAfter 1000)))) p3.fRawFrom (SAddr.mk r477.a1.fHost (wi64 (r477.a1.fLow + (wi64 (Int.tmod p4 9)))))) [] [] fun r518 =>
                      .gh 16 (.drop [21, 22]) (.call 14007 (s28 r477.a1 (wi64 (r477.a1.fNow + (wi64 (Int.tmod p3.fAfter 1000)))) p3.fRawFrom (SAddr.mk r477.a1.fHost (wi64 (r477.a1.fLow + (wi64 (Int.tmod p4 9)))))) [] [] fun r519 =>
                      .cnd 15 [109]
                      (.br 15005 (r518.2.2 != r519.2.2)
                        (.done true)
                        (.br 15010 (!((decide (r518.2.1.fHost = r519.2.1.fHost)) && ((r518.2.1.fPort == r519.2.1.fPort) && true)))
                          (.done true)
                          (.call 15012 (s22 r518.1 r519.1) [] [] fun r520 =>
                            .done (!r520))))
                      (fun (c521 : Bool) => [.bool c521]) fun c521 =>
                      .br 0 c521
                      (.done false)
                      (.ff (.tt (.gh 11 (.drop [15]) (.tt (.gh 15 (.drop [18, 19]) (.call 13007 (s27 r477.a1 p3.fNow r505 p3.fRawTo) [] [] fun r522 =>
                        .gh 16 (.drop [21, 22]) (.call 14007 (s28 r477.a1 p3.fNow r505 p3.fRawTo) [] [] fun r523 =>
                        .cnd 15 [109]
                        (.br 15005 (r522.2.2 != r523.2.2)
                          (.done true)
                          (.br 15010 (!((decide (r522.2.1.fHost = r523.2.1.fHost)) && ((r522.2.1.fPort == r523.2.1.fPort) && true)))
                            (.done true)
                            (.call 15012 (s22 r522.1 r523.1) [] [] fun r524 =>
                              .done (!r524))))
                        (fun (c525 : Bool) => [.bool c525]) fun c525 =>
                        .br 0 c525
                        (.done false)
                        (.tt (.gh 15 (.drop [18, 19]) (.call 13007 (s27 r477.a1 (wi64 (r477.a1.fNow + (wi64 (Int.tmod p3.fAfter 1000)))) r505 p3.fRawTo) [] [] fun r526 =>
                          .gh 16 (.drop [21, 22]) (.call 14007 (s28 r477.a1 (wi64 (r477.a1.fNow + (wi64 (Int.tmod p3.fAfter 1000)))) r505 p3.fRawTo) [] [] fun r527 =>
                          .cnd 15 [109]
                          (.br 15005 (r526.2.2 != r527.2.2)
                            (.done true)
                            (.br 15010 (!((decide (r526.2.1.fHost = r527.2.1.fHost)) && ((r526.2.1.fPort == r527.2.1.fPort) && true)))
                              (.done true)
                              (.call 15012 (s22 r526.1 r527.1) [] [] fun r528 =>
                                .done (!r528))))
                          (fun (c529 : Bool) => [.bool c529]) fun c529 =>
                          .br 0 c529
                          (.done false)
                          (.ff (.ff (.tt (.gh 7 (.drop [12]) (.gh 8 (.drop [13]) (.call 7003 (s24 p3.fTo) [] [] fun r530 =>
                            .call 7012 (s24 p3.fTo) [] [] fun r531 =>
                            .tt (.gh 11 (.drop [15]) (.tt (.gh 15 (.drop [18, 19]) (.call 13007 (s27 r477.a2 p3.fNow r530 (SAddr.mk r477.a2.fHost (wi64 (r477.a2.fLow + (wi64 (Int.tmod p4 9)))))) [] [] fun r532 =>
                            .gh 16 (.drop [21, 22]) (.call 14007 (s28 r477.a2 p3.fNow r530 (SAddr.mk r477.a2.fHost (wi64 (r477.a2.fLow + (wi64 (Int.tmod p4 9)))))) [] [] fun r533 =>
                            .cnd 15 [109]
                            (.br 15005 (r532.2.2 != r533.2.2)
                              (.done true)
                              (.br 15010 (!((decide (r532.2.1.fHost = r533.2.1.fHost)) && ((r532.2.1.fPort == r533.2.1.fPort) && true)))
                                (.done true)
                                (.call 15012 (s22 r532.1 r533.1) [] [] fun r534 =>
                                  .done (!r534))))
                            (fun (c535 : Bool) => [.bool c535]) fun c535 =>
                            .br 0 c535
                            (.done false)
                            (.tt (.gh 15 (.drop [18, 19]) (.call 13007 (s27 r477.a2 (wi64 (r477.a2.fNow + (wi64 (Int.tmod p3.fAfter 1000)))) r530 (SAddr.mk r477.a2.fHost (wi64 (r477.a2.fLow + (wi64 (Int.tmod p4 9)))))) [] [] fun r536 =>
                              .gh 16 (.drop [21, 22]) (.call 14007 (s28 r477.a2 (wi64 (r477.a2.fNow + (wi64 (Int.tmod p3.fAfter 1000)))) r530 (SAddr.mk r477.a2.fHost (wi64 (r477.a2.fLow + (wi64 (Int.tmod p4 9)))))) [] [] fun r537 =>
                              .cnd 15 [109]
                              (.br 15005 (r536.2.2 != r537.2.2)
                                (.done true)
                                (.br 15010 (!((decide (r536.2.1.fHost = r537.2.1.fHost)) && ((r536.2.1.fPort == r537.2.1.fPort) && true)))
                                  (.done true)
                                  (.call 15012 (s22 r536.1 r537.1) [] [] fun r538 =>
                                    .done (!r538))))
                              (fun (c539 : Bool) => [.bool c539]) fun c539 =>
                              .br 0 c539
                              (.done false)
                              (.ff (.tt (.gh 11 (.drop [15]) (.tt (.gh 15 (.drop [18, 19]) (.call 13007 (s27 r477.a2 p3.fNow p3.fRawFrom (SAddr.mk r477.a2.fHost (wi64 (r477.a2.fLow + (wi64 (Int.tmod p4 9)))))) [] [] fun r540 =>
                                .gh 16 (.drop [21, 22]) (.call 14007 (s28 r477.a2 p3.fNow p3.fRawFrom (SAddr.mk r477.a2.fHost (wi64 (r477.a2.fLow + (wi64 (Int.tmod p4 9)))))) [] [] fun r541 =>
                                .cnd 15 [109]
                                (.br 15005 (r540.2.2 != r541.2.2)
                                  (.done true)
                                  (.br 15010 (!((decide (r540.2.1.fHost = r541.2.1.fHost)) && ((r540.2.1.fPort == r541.2.1.fPort) && true)))
                                    (.done true)
                                    (.call 15012 (s22 r540.1 r541.1) [] [] fun r542 =>
                                      .done (!r542))))
                                (fun (c543 : Bool) => [.bool c543]) fun c543 =>
                                .br 0 c543
                                (.done false)
                                (.tt (.gh 15 (.drop [18, 19]) (.call 13007 (s27 r477.a2 (wi64 (r477.a2.fNow + (wi64 (Int.tmod p3.fAfter 1000)))) p3.fRawFrom (SAddr.mk r477.a2.fHost (wi64 (r477.a2.fLow + (wi64 (Int.tmod p4 9)))))) [] [] fun r544 =>
                                  .gh 16 (.drop [21, 22]) (.call 14007 (s28 r477.a2 (wi64 (r477.a2.fNow + (wi64 (Int.tmod p3.fAfter 1000)))) p3.fRawFrom (SAddr.mk r477.a2.fHost (wi64 (r477.a2.fLow + (wi64 (Int.tmod p4 9)))))) [] [] fun r545 =>
                                  .cnd 15 [109]
                                  (.br 15005 (r544.2.2 != r545.2.2)
                                    (.done true)
                                    (.br 15010 (!((decide (r544.2.1.fHost = r545.2.1.fHost)) && ((r544.2.1.fPort == r545.2.1.fPort) && true)))
                                      (.done true)
                                      (.call 15012 (s22 r544.1 r545.1) [] [] fun r546 =>
                                        .done (!r546))))
                                  (fun (c547 : Bool) => [.bool c547]) fun c547 =>
                                  .br 0 c547
                                  (.done false)
                                  (.ff (.tt (.gh 11 (.drop [15]) (.tt (.gh 15 (.drop [18, 19]) (.call 13007 (s27 r477.a2 p3.fNow r531 p3.fRawTo) [] [] fun r548 =>
                                    .gh 16 (.drop [21, 22]) (.call 14007 (s28 r477.a2 p3.fNow r531 p3.fRawTo) [] [] fun r549 =>
                                    .cnd 15 [109]
                                    (.br 15005 (r548.2.2 != r549.2.2)
                                      (.done true)
                                      (.br 15010 (!((decide (r548.2.1.fHost = r549.2.1.fHost)) && ((r548.2.1.fPort == r549.2.1.fPort) && true)))
                                        (.done true)
                                        (.call 15012 (s22 r548.1 r549.1) [] [] fun r550 =>
                                          .done (!r550))))
                                    (fun (c551 : Bool) => [.bool c551]) fun c551 =>
                                    .br 0 c551
                                    (.done false)
                                    (.tt (.gh 15 (.drop [18, 19]) (.call 13007 (s27 r477.a2 (wi64 (r477.a2.fNow + (wi64 (Int.tmod p3.fAfter 1000)))) r531 p3.fRawTo) [] [] fun r552 =>
                                      .gh 16 (.drop [21, 22]) (.call 14007 (s28 r477.a2 (wi64 (r477.a2.fNow + (wi64 (Int.tmod p3.fAfter 1000)))) r531 p3.fRawTo) [] [] fun r553 =>
                                      .cnd 15 [109]
                                      (.br 15005 (r552.2.2 != r553.2.2)
                                        (.done true)
                                        (.br 15010 (!((decide (r552.2.1.fHost = r553.2.1.fHost)) && ((r552.2.1.fPort == r553.2.1.fPort) && true)))
                                          (.done true)
                                          (.call 15012 (s22 r552.1 r553.1) [] [] fun r554 =>
                                            .done (!r554))))
                                      (fun (c555 : Bool) => [.bool c555]) fun c555 =>
                                      .br 0 c555
                                      (.done false)
                                      (.ff (.ff (.tt (.gh 7 (.drop [12]) (.gh 8 (.drop [13]) (.call 7003 (s24 p3.fTo) [] [] fun r556 =>
                                        .call 7012 (s24 p3.fTo) [] [] fun r557 =>
                                        .tt (.gh 11 (.drop [15]) (.tt (.gh 15 (.drop [18, 19]) (.call 13007 (s27 r477.a3 p3.fNow r556 (SAddr.mk r477.a3.fHost (wi64 (r477.a3.fLow + (wi64 (Int.tmod p4 9)))))) [] [] fun r558 =>
                                        .gh 16 (.drop [21, 22]) (.call 14007 (s28 r477.a3 p3.fNow r556 (SAddr.mk r477.a3.fHost (wi64 (r477.a3.fLow + (wi64 (Int.tmod p4 9)))))) [] [] fun r559 =>
                                        .cnd 15 [109]
                                        (.br 15005 (r558.2.2 != r559.2.2)
                                          (.done true)
                                          (.br 15010 (!((decide (r558.2.1.fHost = r559.2.1.fHost)) && ((r558.2.1.fPort == r559.2.1.fPort) && true)))
                                            (.done true)
                                            (.call 15012 (s22 r558.1 r559.1) [] [] fun r560 =>
                                              .done (!r560))))
                                        (fun (c561 : Bool) => [.bool c561]) fun c561 =>
                                        .br 0 c561
                                        (.done false)
                                        (.tt (.gh 15 (.drop [18, 19]) (.call 13007 (s27 r477.a3 (wi64 (r477.a3.fNow + (wi64 (Int.tmod p3.fAfter 1000)))) r556 (SAddr.mk r477.a3.fHost (wi64 (r477.a3.fLow + (wi64 (Int.tmod p4 9)))))) [] [] fun r562 =>
                                          .gh 16 (.drop [21, 22]) (.call 14007 (s28 r477.a3 (wi64 (r477.a3.fNow + (wi64 (Int.tmod p3.fAfter 1000)))) r556 (SAddr.mk r477.a3.fHost (wi64 (r477.a3.fLow + (wi64 (Int.tmod p4 9)))))) [] [] fun r563 =>
                                          .cnd 15 [109]
                                          (.br 15005 (r562.2.2 != r563.2.2)
                                            (.done true)
                                            (.br 15010 (!((decide (r562.2.1.fHost = r563.2.1.fHost)) && ((r562.2.1.fPort == r563.2.1.fPort) && true)))
                                              (.done true)
                                              (.call 15012 (s22 r562.1 r563.1) [] [] fun r564 =>
                                                .done (!r564))))
                                          (fun (c565 : Bool) => [.bool c565]) fun c565 =>
                                          .br 0 c565
                                          (.done false)
                                          (.ff (.tt (.gh 11 (.drop [15]) (.tt (.gh 15 (.drop [18, 19]) (.call 13007 (s27 r477.a3 p3.fNow p3.fRawFrom (SAddr.mk r477.a3.fHost (wi64 (r477.a3.fLow + (wi64 (Int.tmod p4 9)))))) [] [] fun r566 =>
                                            .gh 16 (.drop [21, 22]) (.call 14007 (s28 r477.a3 p3.fNow p3.fRawFrom (SAddr.mk r477.a3.fHost (wi64 (r477.a3.fLow + (wi64 (Int.tmod p4 9)))))) [] [] fun r567 =>
                                            .cnd 15 [109]
                                            (.br 15005 (r566.2.2 != r567.2.2)
                                              (.done true)
                                              (.br 15010 (!((decide (r566.2.1.fHost = r567.2.1.fHost)) && ((r566.2.1.fPort == r567.2.1.fPort) && true)))
                                                (.done true)
                                                (.call 15012 (s22 r566.1 r567.1) [] [] fun r568 =>
                                                  .done (!r568))))
                                            (fun (c569 : Bool) => [.bool c569]) fun c569 =>
                                            .br 0 c569
                                            (.done false)
                                            (.tt (.gh 15 (.drop [18, 19]) (.call 13007 (s27 r477.a3 (wi64 (r477.a3.fNow + (wi64 (Int.tmod p3.fAfter 1000)))) p3.fRawFrom (SAddr.mk r477.a3.fHost (wi64 (r477.a3.fLow + (wi64 (Int.tmod p4 9)))))) [] [] fun r570 =>
                                              .gh 16 (.drop [21, 22]) (.call 14007 (s28 r477.a3 (wi64 (r477.a3.fNow + (wi64 (Int.tmod p3.fAfter 1000)))) p3.fRawFrom (SAddr.mk r477.a3.fHost (wi64 (r477.a3.fLow + (wi64 (Int.tmod p4 9)))))) [] [] fun r571 =>
                                              .cnd 15 [109]
                                              (.br 15005 (r570.2.2 != r571.2.2)
                                                (.done true)
                                                (.br 15010 (!((decide (r570.2.1.fHost = r571.2.1.fHost)) && ((r570.2.1.fPort == r571.2.1.fPort) && true)))
                                                  (.done true)
                                                  (.call 15012 (s22 r570.1 r571.1) [] [] fun r572 =>
                                                    .done (!r572))))
                                              (fun (c573 : Bool) => [.bool c573]) fun c573 =>
                                              .br 0 c573
                                              (.done false)
                                              (.ff (.tt (.gh 11 (.drop [15]) (.tt (.gh 15 (.drop [18, 19]) (.call 13007 (s27 r477.a3 p3.fNow r557 p3.fRawTo) [] [] fun r574 =>
                                                .gh 16 (.drop [21, 22]) (.call 14007 (s28 r477.a3 p3.fNow r557 p3.fRawTo) [] [] fun r575 =>
                                                .cnd 15 [109]
                                                (.br 15005 (r574.2.2 != r575.2.2)
                                                  (.done true)
                                                  (.br 15010 (!((decide (r574.2.1.fHost = r575.2.1.fHost)) && ((r574.2.1.fPort == r575.2.1.fPort) && true)))
                                                    (.done true)
                                                    (.call 15012 (s22 r574.1 r575.1) [] [] fun r576 =>
                                                      .done (!r576))))
                                                (fun (c577 : Bool) => [.bool c577]) fun c577 =>
                                                .br 0 c577
                                                (.done false)
                                                (.tt (.gh 15 (.drop [18, 19]) (.call 13007 (s27 r477.a3 (wi64 (r477.a3.fNow + (wi64 (Int.tmod p3.fAfter 1000)))) r557 p3.fRawTo) [] [] fun r578 =>
                                                  .gh 16 (.drop [21, 22]) (.call 14007 (s28 r477.a3 (wi64 (r477.a3.fNow + (wi64 (Int.tmod p3.fAfter 1000)))) r557 p3.fRawTo) [] [] fun r579 =>
                                                  .cnd 15 [109]
                                                  (.br 15005 (r578.2.2 != r579.2.2)
                                                    (.done true)
                                                    (.br 15010 (!((decide (r578.2.1.fHost = r579.2.1.fHost)) && ((r578.2.1.fPort == r579.2.1.fPort) && true)))
                                                      (.done true)
                                                      (.call 15012 (s22 r578.1 r579.1) [] [] fun r580 =>
                                                        .done (!r580))))
                                                  (fun (c581 : Bool) => [.bool c581]) fun c581 =>
                                                  .br 0 c581
                                                  (.done false)
                                                  (.ff (.ff (.ff (.done true)))))))))))))))))))))))))))))))))))))))))))))))))))))))))))))))))))))))))))))))))))))))))))))))))))))))))))))))))))))))))))))))))))))))))))))))))
theorem k5 (p0 : SDraft) (p1 : S2Tannoyref13Bend) (p2 : SNat) (p3 : SMove1) (p4 : Int) : FnD Tryd.prog GG [0, 1, 2, 3, 4, 5, 6, 7, 8, 10, 12, 13, 15, 17, 18, 19, 20, 21, 22, 23, 25, 29, 30, 31, 57, 58, 59, 70, 71, 72, 109] Tryd.f5 [.agg [.int .u8 p0.fMapping, .int .u8 p0.fFilter, .int .u8 p0.fPorts, .int .u16 p0.fTimeout, .bool p0.fHairpin, .sl false 4 (List.map tySMove.c p0.fMoves)], .agg [.int .u8 p1.a0.fWhat, .int .u8 p1.a0.fAt, .int .i64 p1.a0.fN, .str p1.a0.fA.fHost, .int .i64 p1.a0.fA.fPort, .str p1.a0.fS, .int .u8 p1.a1.fWhat, .int .u8 p1.a1.fAt, .int .i64 p1.a1.fN, .str p1.a1.fA.fHost, .int .i64 p1.a1.fA.fPort, .str p1.a1.fS], .agg [.int .i64 p2.fMapping, .int .i64 p2.fFilter, .int .i64 p2.fTimeout, .bool p2.fHairpin, .str p2.fHost, .int .i64 p2.fLow, .int .i64 p2.fHigh, .int .i64 p2.fNow, .sl false 7 (List.map tySBinding.c p2.fTable)], .agg [.int .u8 p3.fFrom, .int .u8 p3.fTo, .int .u16 p3.fAfter, .int .i64 p3.fNow, .str p3.fRawFrom.fHost, .int .i64 p3.fRawFrom.fPort, .str p3.fRawTo.fHost, .int .i64 p3.fRawTo.fPort], .int .u8 p4] (g5 p0 p1 p2 p3 p4) (fun r => .bool r) := by unfold FnD; kernel_rfl
noncomputable def s5 (p0 : SDraft) (p1 : S2Tannoyref13Bend) (p2 : SNat) (p3 : SMove1) (p4 : Int) : EV.Spec Tryd.prog GG (Bool) := .ofFn 5 mixed Tryd.func5 (k5 p0 p1 p2 p3 p4)

end Go.Proofs.YtdiagiflihpidaaDoor
