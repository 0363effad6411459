/- Guides and contracts, printed by a program. -/
import Derived.Test.YtdiagiflihpidaaDoorD2
import Derived.KernelRfl

namespace Go.Proofs.YtdiagiflihpidaaDoor
open Go Go.EV
set_option maxRecDepth 100000

/-- tannoy tannoylaw13.NatOuts -/
noncomputable def g4 (p0 : SDraft) (p1 : S2Tannoyref13Bend) (p2 : SNat) (p3 : SMove1) : TT (Bool) :=
  .call 1001 s16 [] [] fun r582 =>
  .br 0 (!r582)
  (.done false)
  (.call 3004 (s17 p0 p1 p2) [] [] fun r583 =>
    .tt (.call 6003 (s23 p3.fFrom) [] [] fun r584 =>
    .call 6006 (s24 p3.fTo) [] [] fun r585 =>
    .call 6012 (s24 p3.fTo) [] [] fun r586 =>
    .call 6016 (s23 p3.fFrom) [] [] fun r587 =>
    .tt (.tt (.call 12007 (s25 r583.a0 p3.fNow r584 r585) [] [] fun r588 =>
    .call 13007 (s26 r583.a0 p3.fNow r584 r585) [] [] fun r589 =>
    .cnd 14 [101]
    (.br 14005 (r588.2.2 != r589.2.2)
      (.done true)
      (.br 14010 (!((decide (r588.2.1.fHost = r589.2.1.fHost)) && ((r588.2.1.fPort == r589.2.1.fPort) && true)))
        (.done true)
        (.call 14012 (s22 r588.1 r589.1) [] [] fun r590 =>
          .done (!r590))))
    (fun (c591 : Bool) => [.bool c591]) fun c591 =>
    .br 0 c591
    (.done false)
    (.tt (.gh 14 (.drop [15, 16]) (.call 12007 (s25 r583.a0 (wi64 (r583.a0.fNow + (wi64 (Int.tmod p3.fAfter 1000)))) r584 r585) [] [] fun r592 =>
      .gh 15 (.drop [18, 19]) (.call 13007 (s26 r583.a0 (wi64 (r583.a0.fNow + (wi64 (Int.tmod p3.fAfter 1000)))) r584 r585) [] [] fun r593 =>
      .cnd 14 [101]
      (.br 14005 (r592.2.2 != r593.2.2)
        (.done true)
        (.br 14010 (!((decide (r592.2.1.fHost = r593.2.1.fHost)) && ((r592.2.1.fPort == r593.2.1.fPort) && true)))
          (.done true)
          (.call 14012 (s22 r592.1 r593.1) [] [] fun r594 =>
            .done (!r594))))
      (fun (c595 : Bool) => [.bool c595]) fun c595 =>
      .br 0 c595
      (.done false)
      (.ff (.tt (.gh 10 (.drop [12]) (.tt (.gh 14 (.drop [15, 16]) (.call 12007 (s25 r583.a0 p3.fNow p3.fRawFrom r586) [] [] fun r596 =>
        .gh 15 (.drop [18, 19]) (.call 13007 (s26 r583.a0 p3.fNow p3.fRawFrom r586) [] [] fun r597 =>
        .cnd 14 [101]
        (.br 14005 (r596.2.2 != r597.2.2)
          (.done true)
          (.br 14010 (!((decide (r596.2.1.fHost = r597.2.1.fHost)) && ((r596.2.1.fPort == r597.2.1.fPort) && true)))
            (.done true)
            (.call 14012 (s22 r596.1 r597.1) [] [] fun r598 =>
              .done (!r598))))
        (fun (c599 : Bool) => [.bool c599]) fun c599 =>
        .br 0 c599
        (.done false)
        (.tt (.gh 14 (.drop [15, 16]) (.call 12007 (s25 r583.a0 (wi64 (r583.a0.fNow + (wi64 (Int.tmod p3.fAfter 1000)))) p3.fRawFrom r586) [] [] fun r600 =>
          .gh 15 (.drop [18, 19]) (.call 13007 (s26 r583.a0 (wi64 (r583.a0.fNow + (wi64 (Int.tmod p3.fAfter 1000)))) p3.fRawFrom r586) [] [] fun r601 =>
          .cnd 14 [101]
          (.br 14005 (r600.2.2 != r601.2.2)
            (.done true)
            (.br 14010 (!((decide (r600.2.1.fHost = r601.2.1.fHost)) && ((r600.2.1.fPort == r601.2.1.fPort) && true)))
              (.done true)
              (.call 14012 (s22 r600.1 r601.1) [] [] fun r602 =>
                .done (!r602))))
          (fun (c603 : Bool) => [.bool c603]) fun c603 =>
          .br 0 c603
          (.done false)
          (.ff (.tt (.gh 10 (.drop [12]) (.tt (.gh 14 (.drop [15, 16]) (.call 12007 (s25 r583.a0 p3.fNow r587 p3.fRawTo) [] [] fun r604 =>
            .gh 15 (.drop [18, 19]) (.call 13007 (s26 r583.a0 p3.fNow r587 p3.fRawTo) [] [] fun r605 =>
            .cnd 14 [101]
            (.br 14005 (r604.2.2 != r605.2.2)
              (.done true)
              (.br 14010 (!((decide (r604.2.1.fHost = r605.2.1.fHost)) && ((r604.2.1.fPort == r605.2.1.fPort) && true)))
                (.done true)
                (.call 14012 (s22 r604.1 r605.1) [] [] fun r606 =>
                  .done (!r606))))
            (fun (c607 : Bool) => [.bool c607]) fun c607 =>
            .br 0 c607
            (.done false)
            (.tt (.gh 14 (.drop [15, 16]) (.call 12007 (s25 r583.a0 (wi64 (r583.a0.fNow + (wi64 (Int.tmod p3.fAfter 1000)))) r587 p3.fRawTo) [] [] fun r608 =>
              .gh 15 (.drop [18, 19]) (.call 13007 (s26 r583.a0 (wi64 (r583.a0.fNow + (wi64 (Int.tmod p3.fAfter 1000)))) r587 p3.fRawTo) [] [] fun r609 =>
              .cnd 14 [101]
              (.br 14005 (r608.2.2 != r609.2.2)
                (.done true)
                (.br 14010 (!((decide (r608.2.1.fHost = r609.2.1.fHost)) && ((r608.2.1.fPort == r609.2.1.fPort) && true)))
                  (.done true)
                  (.call 14012 (s22 r608.1 r609.1) [] [] fun r610 =>
                    .done (!r610))))
              (fun (c611 : Bool) => [.bool c611]) fun c611 =>
              .br 0 c611
              (.done false)
              (.ff (.ff (.tt (.gh 7 (.drop [10]) (.call 6003 (s23 p3.fFrom) [] [] fun r612 =>
                .call 6006 (s24 p3.fTo) [] [] fun r613 =>
                .call 6012 (s24 p3.fTo) [] [] fun r614 =>
                .call 6016 (s23 p3.fFrom) [] [] fun r615 =>
                .tt (.gh 10 (.drop [12]) (.tt (.gh 14 (.drop [15, 16]) (.call 12007 (s25 r583.a1 p3.fNow r612 r613) [] [] fun r616 =>
                .gh 15 (.drop [18, 19]) (.call 13007 (s26 r583.a1 p3.fNow r612 r613) [] [] fun r617 =>
                .cnd 14 [101]
                (.br 14005 (r616.2.2 != r617.2.2)
                  (.done true)
                  (.br 14010 (!((decide (r616.2.1.fHost = r617.2.1.fHost)) && ((r616.2.1.fPort == r617.2.1.fPort) && true)))
                    (.done true)
                    (.call 14012 (s22 r616.1 r617.1) [] [] fun r618 =>
                      .done (!r618))))
                (fun (c619 : Bool) => [.bool c619]) fun c619 =>
                .br 0 c619
                (.done false)
                (.tt (.gh 14 (.drop [15, 16]) (.call 12007 (s25 r583.a1 (wi64 (r583.a1.fNow + (wi64 (Int.tmod p3.fAfter 1000)))) r612 r613) [] [] fun r620 =>
                  .gh 15 (.drop [18, 19]) (.call 13007 (s26 r583.a1 (wi64 (r583.a1.fNow + (wi64 (Int.tmod p3.fAfter 1000)))) r612 r613) [] [] fun r621 =>
                  .cnd 14 [101]
                  (.br 14005 (r620.2.2 != r621.2.2)
                    (.done true)
                    (.br 14010 (!((decide (r620.2.1.fHost = r621.2.1.fHost)) && ((r620.2.1.fPort == r621.2.1.fPort) && true)))
                      (.done true)
                      (.call 14012 (s22 r620.1 r621.1) [] [] fun r622 =>
                        .done (!r622))))
                  (fun (c623 : Bool) => [.bool c623]) fun c623 =>
                  .br 0 c623
                  (.done false)
                  (.ff (.tt (.gh 10 (.drop [12]) (.tt (.gh 14 (.drop [15, 16]) (.call 12007 (s25 r583.a1 p3.fNow p3.fRawFrom r614) [] [] fun r624 =>
                    .gh 15 (.drop [18, 19]) (.call 13007 (s26 r583.a1 p3.fNow p3.fRawFrom r614) [] [] fun r625 =>
                    .cnd 14 [101]
                    (.br 14005 (r624.2.2 != r625.2.2)
                      (.done true)
                      (.br 14010 (!((decide (r624.2.1.fHost = r625.2.1.fHost)) && ((r624.2.1.fPort == r625.2.1.fPort) && true)))
                        (.done true)
                        (.call 14012 (s22 r624.1 r625.1) [] [] fun r626 =>
                          .done (!r626))))
                    (fun (c627 : Bool) => [.bool c627]) fun c627 =>
                    .br 0 c627
                    (.done false)
                    (.tt (.gh 14 (.drop [15, 16]) (.call 12007 (s25 r583.a1 (wi64 (r583.a1.fNow + (wi64 (Int.tmod p3.fAfter 1000)))) p3.fRawFrom r614) [] [] fun r628 =>
                      .gh 15 (.drop [18, 19]) (.call 13007 (s26 r583.a1 (wi64 (r583.a1.fNow + (wi64 (Int.tmod p3.fAfter 1000)))) p3.fRawFrom r614) [] [] fun r629 =>
                      .cnd 14 [101]
                      (.br 14005 (r628.2.2 != r629.2.2)
                        (.done true)
                        (.br 14010 (!((decide (r628.2.1.fHost = r629.2.1.fHost)) && ((r628.2.1.fPort == r629.2.1.fPort) && true)))
                          (.done true)
                          (.call 14012 (s22 r628.1 r629.1) [] [] fun r630 =>
                            .done (!r630))))
                      (fun (c631 : Bool) => [.bool c631]) fun c631 =>
                      .br 0 c631
                      (.done false)
                      (.ff (.tt (.gh 10 (.drop [12]) (.tt (.gh 14 (.drop [15, 16]) (.call 12007 (s25 r583.a1 p3.fNow r615 p3.fRawTo) [] [] fun r632 =>
                        .gh 15 (.drop [18, 19]) (.call 13007 (s26 r583.a1 p3.fNow r615 p3.fRawTo) [] [] fun r633 =>
                        .cnd 14 [101]
                        (.br 14005 (r632.2.2 != r633.2.2)
                          (.done true)
                          (.br 14010 (!((decide (r632.2.1.fHost = r633.2.1.fHost)) && ((r632.2.1.fPort == r633.2.1.fPort) && true)))
                            (.done true)
                            (.call 14012 (s22 r632.1 r633.1) [] [] fun r634 =>
                              .done (!r634))))
                        (fun (c635 : Bool) => [.bool c635]) fun c635 =>
                        .br 0 c635
                        (.done false)
                        (.tt (.gh 14 (.drop [15, 16]) (.call 12007 (s25 r583.a1 (wi64 (r583.a1.fNow + (wi64 (Int.tmod p3.fAfter 1000)))) r615 p3.fRawTo) [] [] fun r636 =>
                          .gh 15 (.drop [18, 19]) (.call 13007 (s26 r583.a1 (wi64 (r583.a1.fNow + (wi64 (Int.tmod p3.fAfter 1000)))) r615 p3.fRawTo) [] [] fun r637 =>
                          .cnd 14 [101]
                          (.br 14005 (r636.2.2 != r637.2.2)
                            (.done true)
                            (.br 14010 (!((decide (r636.2.1.fHost = r637.2.1.fHost)) && ((r636.2.1.fPort == r637.2.1.fPort) && true)))
                              (.done true)
                              (.call 14012 (s22 r636.1 r637.1) [] [] fun r638 =>
                                .done (!r638))))
                          (fun (c639 : Bool) => [.bool c639]) fun c639 =>
                          .br 0 c639
                          (.done false)
                          (.ff (.ff (.tt (.gh 7 (.drop [10]) (.call 6003 (s23 p3.fFrom) [] [] fun r640 =>
                            .call 6006 (s24 p3.fTo) [] [] fun r641 =>
                            .call 6012 (s24 p3.fTo) [] [] fun r642 =>
                            .call 6016 (s23 p3.fFrom) [] [] fun r643 =>
                            .tt (.gh 10 (.drop [12]) (.tt (.gh 14 (.drop [15, 16]) (.call 12007 (s25 r583.a2 p3.fNow r640 r641) [] [] fun r644 =>
                            .gh 15 (.drop [18, 19]) (.call 13007 (s26 r583.a2 p3.fNow r640 r641) [] [] fun r645 =>
                            .cnd 14 [101]
                            (.br 14005 (r644.2.2 != r645.2.2)
                              (.done true)
                              (.br 14010 (!((decide (r644.2.1.fHost = r645.2.1.fHost)) && ((r644.2.1.fPort == r645.2.1.fPort) && true)))
                                (.done true)
                                (.call 14012 (s22 r644.1 r645.1) [] [] fun r646 =>
                                  .done (!r646))))
                            (fun (c647 : Bool) => [.bool c647]) fun c647 =>
                            .br 0 c647
                            (.done false)
                            (.tt (.gh 14 (.drop [15, 16]) (.call 12007 (s25 r583.a2 (wi64 (r583.a2.fNow + (wi64 (Int.tmod p3.fAfter 1000)))) r640 r641) [] [] fun r648 =>
                              .gh 15 (.drop [18, 19]) (.call 13007 (s26 r583.a2 (wi64 (r583.a2.fNow + (wi64 (Int.tmod p3.fAfter 1000)))) r640 r641) [] [] fun r649 =>
                              .cnd 14 [101]
                              (.br 14005 (r648.2.2 != r649.2.2)
                                (.done true)
                                (.br 14010 (!((decide (r648.2.1.fHost = r649.2.1.fHost)) && ((r648.2.1.fPort == r649.2.1.fPort) && true)))
                                  (.done true)
                                  (.call 14012 (s22 r648.1 r649.1) [] [] fun r650 =>
                                    .done (!r650))))
                              (fun (c651 : Bool) => [.bool c651]) fun c651 =>
                              .br 0 c651
                              (.done false)
                              (.ff (.tt (.gh 10 (.drop [12]) (.tt (.gh 14 (.drop [15, 16]) (.call 12007 (s25 r583.a2 p3.fNow p3.fRawFrom r642) [] [] fun r652 =>
                                .gh 15 (.drop [18, 19]) (.call 13007 (s26 r583.a2 p3.fNow p3.fRawFrom r642) [] [] fun r653 =>
                                .cnd 14 [101]
                                (.br 14005 (r652.2.2 != r653.2.2)
                                  (.done true)
                                  (.br 14010 (!((decide (r652.2.1.fHost = r653.2.1.fHost)) && ((r652.2.1.fPort == r653.2.1.fPort) && true)))
                                    (.done true)
                                    (.call 14012 (s22 r652.1 r653.1) [] [] fun r654 =>
                                      .done (!r654))))
                                (fun (c655 : Bool) => [.bool c655]) fun c655 =>
                                .br 0 c655
                                (.done false)
                                (.tt (.gh 14 (.drop [15, 16]) (.call 12007 (s25 r583.a2 (wi64 (r583.a2.fNow + (wi64 (Int.tmod p3.fAfter 1000)))) p3.fRawFrom r642) [] [] fun r656 =>
                                  .gh 15 (.drop [18, 19]) (.call 13007 (s26 r583.a2 (wi64 (r583.a2.fNow + (wi64 (Int.tmod p3.fAfter 1000)))) p3.fRawFrom r642) [] [] fun r657 =>
                                  .cnd 14 [101]
                                  (.br 14005 (r656.2.2 != r657.2.2)
                                    (.done true)
                                    (.br 14010 (!((decide (r656.2.1.fHost = r657.2.1.fHost)) && ((r656.2.1.fPort == r657.2.1.fPort) && true)))
                                      (.done true)
                                      (.call 14012 (s22 r656.1 r657.1) [] [] fun r658 =>
                                        .done (!r658))))
                                  (fun (c659 : Bool) => [.bool c659]) fun c659 =>
                                  .br 0 c659
                                  (.done false)
                                  (.ff (.tt (.gh 10 (.drop [12]) (.tt (.gh 14 (.drop [15, 16]) (.call 12007 (s25 r583.a2 p3.fNow r643 p3.fRawTo) [] [] fun r660 =>
                                    .gh 15 (.drop [18, 19]) (.call 13007 (s26 r583.a2 p3.fNow r643 p3.fRawTo) [] [] fun r661 =>
                                    .cnd 14 [101]
                                    (.br 14005 (r660.2.2 != r661.2.2)
                                      (.done true)
                                      (.br 14010 (!((decide (r660.2.1.fHost = r661.2.1.fHost)) && ((r660.2.1.fPort == r661.2.1.fPort) && true)))
                                        (.done true)
                                        (.call 14012 (s22 r660.1 r661.1) [] [] fun r662 =>
                                          .done (!r662))))
                                    (fun (c663 : Bool) => [.bool c663]) fun c663 =>
                                    .br 0 c663
                                    (.done false)
                                    (.tt (.gh 14 (.drop [15, 16]) (.call 12007 (s25 r583.a2 (wi64 (r583.a2.fNow + (wi64 (Int.tmod p3.fAfter 1000)))) r643 p3.fRawTo) [] [] fun r664 =>
                                      .gh 15 (.drop [18, 19]) (.call 13007 (s26 r583.a2 (wi64 (r583.a2.fNow + (wi64 (Int.tmod p3.fAfter 1000)))) r643 p3.fRawTo) [] [] fun r665 =>
                                      .cnd 14 [101]
                                      (.br 14005 (r664.2.2 != r665.2.2)
                                        (.done true)
                                        (.br 14010 (!((decide (r664.2.1.fHost = r665.2.1.fHost)) && ((r664.2.1.fPort == r665.2.1.fPort) && true)))
                                          (.done true)
                                          (.call 14012 (s22 r664.1 r665.1) [] [] fun r666 =>
                                            .done (!r666))))
                                      (fun (c667 : Bool) => [.bool c667]) fun c667 =>
                                      .br 0 c667
                                      (.done false)
                                      (.ff (.ff (.tt (.gh 7 (.drop [10]) (.call 6003 (s23 p3.fFrom) [] [] fun r668 =>
                                        .call 6006 (s24 p3.fTo) [] [] fun r669 =>
                                        .call 6012 (s24 p3.fTo) [] [] fun r670 =>
                                        .call 6016 (s23 p3.fFrom) [] [] fun r671 =>
                                        .tt (.gh 10 (.drop [12]) (.tt (.gh 14 (.drop [15, 16]) (.call 12007 (s25 r583.a3 p3.fNow r668 r669) [] [] fun r672 =>
                                        .gh 15 (.drop [18, 19]) (.call 13007 (s26 r583.a3 p3.fNow r668 r669) [] [] fun r673 =>
                                        .cnd 14 [101]
                                        (.br 14005 (r672.2.2 != r673.2.2)
                                          (.done true)
                                          (.br 14010 (!((decide (r672.2.1.fHost = r673.2.1.fHost)) && ((r672.2.1.fPort == r673.2.1.fPort) && true)))
                                            (.done true)
                                            (.call 14012 (s22 r672.1 r673.1) [] [] fun r674 =>
                                              .done (!r674))))
                                        (fun (c675 : Bool) => [.bool c675]) fun c675 =>
                                        .br 0 c675
                                        (.done false)
                                        (.tt (.gh 14 (.drop [15, 16]) (.call 12007 (s25 r583.a3 (wi64 (r583.a3.fNow + (wi64 (Int.tmod p3.fAfter 1000)))) r668 r669) [] [] fun r676 =>
                                          .gh 15 (.drop [18, 19]) (.call 13007 (s26 r583.a3 (wi64 (r583.a3.fNow + (wi64 (Int.tmod p3.fAfter 1000)))) r668 r669) [] [] fun r677 =>
                                          .cnd 14 [101]
                                          (.br 14005 (r676.2.2 != r677.2.2)
                                            (.done true)
                                            (.br 14010 (!((decide (r676.2.1.fHost = r677.2.1.fHost)) && ((r676.2.1.fPort == r677.2.1.fPort) && true)))
                                              (.done true)
                                              (.call 14012 (s22 r676.1 r677.1) [] [] fun r678 =>
                                                .done (!r678))))
                                          (fun (c679 : Bool) => [.bool c679]) fun c679 =>
                                          .br 0 c679
                                          (.done false)
                                          (.ff (.tt (.gh 10 (.drop [12]) (.tt (.gh 14 (.drop [15, 16]) (.call 12007 (s25 r583.a3 p3.fNow p3.fRawFrom r670) [] [] fun r680 =>
                                            .gh 15 (.drop [18, 19]) (.call 13007 (s26 r583.a3 p3.fNow p3.fRawFrom r670) [] [] fun r681 =>
                                            .cnd 14 [101]
                                            (.br 14005 (r680.2.2 != r681.2.2)
                                              (.done true)
                                              (.br 14010 (!((decide (r680.2.1.fHost = r681.2.1.fHost)) && ((r680.2.1.fPort == r681.2.1.fPort) && true)))
                                                (.done true)
                                                (.call 14012 (s22 r680.1 r681.1) [] [] fun r682 =>
                                                  .done (!r682))))
                                            (fun (c683 : Bool) => [.bool c683]) fun c683 =>
                                            .br 0 c683
                                            (.done false)
                                            (.tt (.gh 14 (.drop [15, 16]) (.call 12007 (s25 r583.a3 (wi64 (r583.a3.fNow + (wi64 (Int.tmod p3.fAfter 1000)))) p3.fRawFrom r670) [] [] fun r684 =>
                                              .gh 15 (.drop [18, 19]) (.call 13007 (s26 r583.a3 (wi64 (r583.a3.fNow + (wi64 (Int.tmod p3.fAfter 1000)))) p3.fRawFrom r670) [] [] fun r685 =>
                                              .cnd 14 [101]
                                              (.br 14005 (r684.2.2 != r685.2.2)
                                                (.done true)
                                                (.br 14010 (!((decide (r684.2.1.fHost = r685.2.1.fHost)) && ((r684.2.1.fPort == r685.2.1.fPort) && true)))
                                                  (.done true)
                                                  (.call 14012 (s22 r684.1 r685.1) [] [] fun r686 =>
                                                    .done (!r686))))
                                              (fun (c687 : Bool) => [.bool c687]) fun c687 =>
                                              .br 0 c687
                                              (.done false)
                                              (.ff (.tt (.gh 10 (.drop [12]) (.tt (.gh 14 (.drop [15, 16]) (.call 12007 (s25 r583.a3 p3.fNow r671 p3.fRawTo) [] [] fun r688 =>
                                                .gh 15 (.drop [18, 19]) (.call 13007 (s26 r583.a3 p3.fNow r671 p3.fRawTo) [] [] fun r689 =>
                                                .cnd 14 [101]
                                                (.br 14005 (r688.2.2 != r689.2.2)
                                                  (.done true)
                                                  (.br 14010 (!((decide (r688.2.1.fHost = r689.2.1.fHost)) && ((r688.2.1.fPort == r689.2.1.fPort) && true)))
                                                    (.done true)
                                                    (.call 14012 (s22 r688.1 r689.1) [] [] fun r690 =>
                                                      .done (!r690))))
                                                (fun (c691 : Bool) => [.bool c691]) fun c691 =>
                                                .br 0 c691
                                                (.done false)
                                                (.tt (.gh 14 (.drop [15, 16]) (.call 12007 (s25 r583.a3 (wi64 (r583.a3.fNow + (wi64 (Int.tmod p3.fAfter 1000)))) r671 p3.fRawTo) [] [] fun r692 =>
                                                  .gh 15 (.drop [18, 19]) (.call 13007 (s26 r583.a3 (wi64 (r583.a3.fNow + (wi64 (Int.tmod p3.fAfter 1000)))) r671 p3.fRawTo) [] [] fun r693 =>
                                                  .cnd 14 [101]
                                                  (.br 14005 (r692.2.2 != r693.2.2)
                                                    (.done true)
                                                    (.br 14010 (!((decide (r692.2.1.fHost = r693.2.1.fHost)) && ((r692.2.1.fPort == r693.2.1.fPort) && true)))
                                                      (.done true)
                                                      (.call 14012 (s22 r692.1 r693.1) [] [] fun r694 =>
                                                        .done (!r694))))
                                                  (fun (c695 : Bool) => [.bool c695]) fun c695 =>
                                                  .br 0 c695
                                                  (.done false)
                                                  (.ff (.ff (.ff (.done true))))))))))))))))))))))))))))))))))))))))))))))))))))))))))))))))))))))))))))))))))))))))))))))))))))))))))))))))))))))))))))))))))))))))))))))
theorem k4 (p0 : SDraft) (p1 : S2Tannoyref13Bend) (p2 : SNat) (p3 : SMove1) : FnD Tryd.prog GG [0, 1, 2, 3, 4, 5, 6, 7, 8, 10, 12, 14, 15, 16, 17, 18, 19, 20, 22, 26, 27, 28, 49, 50, 51, 62, 63, 64, 101] Tryd.f4 [.agg [.int .u8 p0.fMapping, .int .u8 p0.fFilter, .int .u8 p0.fPorts, .int .u16 p0.fTimeout, .bool p0.fHairpin, .sl false 4 (List.map tySMove.c p0.fMoves)], .agg [.int .u8 p1.a0.fWhat, .int .u8 p1.a0.fAt, .int .i64 p1.a0.fN, .str p1.a0.fA.fHost, .int .i64 p1.a0.fA.fPort, .str p1.a0.fS, .int .u8 p1.a1.fWhat, .int .u8 p1.a1.fAt, .int .i64 p1.a1.fN, .str p1.a1.fA.fHost, .int .i64 p1.a1.fA.fPort, .str p1.a1.fS], .agg [.int .i64 p2.fMapping, .int .i64 p2.fFilter, .int .i64 p2.fTimeout, .bool p2.fHairpin, .str p2.fHost, .int .i64 p2.fLow, .int .i64 p2.fHigh, .int .i64 p2.fNow, .sl false 7 (List.map tySBinding.c p2.fTable)], .agg [.int .u8 p3.fFrom, .int .u8 p3.fTo, .int .u16 p3.fAfter, .int .i64 p3.fNow, .str p3.fRawFrom.fHost, .int .i64 p3.fRawFrom.fPort, .str p3.fRawTo.fHost, .int .i64 p3.fRawTo.fPort]] (g4 p0 p1 p2 p3) (fun r => .bool r) := by unfold FnD; kernel_rfl
noncomputable def s4 (p0 : SDraft) (p1 : S2Tannoyref13Bend) (p2 : SNat) (p3 : SMove1) : EV.Spec Tryd.prog GG (Bool) := .ofFn 4 mixed Tryd.func4 (k4 p0 p1 p2 p3)

end Go.Proofs.YtdiagiflihpidaaDoor
