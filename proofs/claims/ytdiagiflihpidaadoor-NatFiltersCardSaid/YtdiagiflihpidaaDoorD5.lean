/- Guides and contracts, printed by a program. -/
import Derived.Test.YtdiagiflihpidaaDoorD4
import Derived.KernelRfl

namespace Go.Proofs.YtdiagiflihpidaaDoor
open Go Go.EV
set_option maxRecDepth 100000

/-- tannoy tannoylaw13.NatLoops -/
noncomputable def g9 (p0 : SDraft) (p1 : S2Tannoyref13Bend) (p2 : SNat) (p3 : SMove1) (p4 : Int) : TT (Bool) :=
  .call 1001 s16 [] [] fun r705 =>
  .br 0 (!r705)
  (.done false)
  (.call 3004 (s17 p0 p1 p2) [] [] fun r706 =>
    .tt (.call 7003 (s23 p3.fFrom) [] [] fun r707 =>
    .call 7012 (s23 p3.fFrom) [] [] fun r708 =>
    .tt (.call 10013 (s31 r706.a0 (wi64 (r706.a0.fNow + (wi64 (Int.tmod p3.fAfter 1000)))) r707 (SAddr.mk r706.a0.fHost (wi64 (r706.a0.fLow + (wi64 (Int.tmod p4 9)))))) [] [] fun r709 =>
    .call 11013 (s32 r706.a0 (wi64 (r706.a0.fNow + (wi64 (Int.tmod p3.fAfter 1000)))) r707 (SAddr.mk r706.a0.fHost (wi64 (r706.a0.fLow + (wi64 (Int.tmod p4 9)))))) [] [] fun r710 =>
    .cnd 12 [115]
    (.br 12005 (r709.2.2.2 != r710.2.2.2)
      (.done true)
      (.br 12010 (!((decide (r709.2.1.fHost = r710.2.1.fHost)) && ((r709.2.1.fPort == r710.2.1.fPort) && true)))
        (.done true)
        (.br 12015 (!((decide (r709.2.2.1.fHost = r710.2.2.1.fHost)) && ((r709.2.2.1.fPort == r710.2.2.1.fPort) && true)))
          (.done true)
          (.call 12017 (s22 r709.1 r710.1) [] [] fun r711 =>
            .done (!r711)))))
    (fun (c712 : Bool) => [.bool c712]) fun c712 =>
    .br 0 c712
    (.done false)
    (.tt (.gh 11 (.drop [15]) (.gh 12 (.drop [16, 17, 18]) (.call 10013 (s31 r706.a0 (wi64 (r706.a0.fNow + (wi64 (Int.tmod p3.fAfter 1000)))) p3.fRawFrom (SAddr.mk r706.a0.fHost (wi64 (r706.a0.fLow + (wi64 (Int.tmod p4 9)))))) [] [] fun r713 =>
      .gh 13 (.drop [20, 21, 22]) (.call 11013 (s32 r706.a0 (wi64 (r706.a0.fNow + (wi64 (Int.tmod p3.fAfter 1000)))) p3.fRawFrom (SAddr.mk r706.a0.fHost (wi64 (r706.a0.fLow + (wi64 (Int.tmod p4 9)))))) [] [] fun r714 =>
      .cnd 12 [115]
      (.br 12005 (r713.2.2.2 != r714.2.2.2)
        (.done true)
        (.br 12010 (!((decide (r713.2.1.fHost = r714.2.1.fHost)) && ((r713.2.1.fPort == r714.2.1.fPort) && true)))
          (.done true)
          (.br 12015 (!((decide (r713.2.2.1.fHost = r714.2.2.1.fHost)) && ((r713.2.2.1.fPort == r714.2.2.1.fPort) && true)))
            (.done true)
            (.call 12017 (s22 r713.1 r714.1) [] [] fun r715 =>
              .done (!r715)))))
      (fun (c716 : Bool) => [.bool c716]) fun c716 =>
      .br 0 c716
      (.done false)
      (.tt (.gh 11 (.drop [15]) (.gh 12 (.drop [16, 17, 18]) (.call 10013 (s31 r706.a0 (wi64 (r706.a0.fNow + (wi64 (Int.tmod p3.fAfter 1000)))) r708 p3.fRawTo) [] [] fun r717 =>
        .gh 13 (.drop [20, 21, 22]) (.call 11013 (s32 r706.a0 (wi64 (r706.a0.fNow + (wi64 (Int.tmod p3.fAfter 1000)))) r708 p3.fRawTo) [] [] fun r718 =>
        .cnd 12 [115]
        (.br 12005 (r717.2.2.2 != r718.2.2.2)
          (.done true)
          (.br 12010 (!((decide (r717.2.1.fHost = r718.2.1.fHost)) && ((r717.2.1.fPort == r718.2.1.fPort) && true)))
            (.done true)
            (.br 12015 (!((decide (r717.2.2.1.fHost = r718.2.2.1.fHost)) && ((r717.2.2.1.fPort == r718.2.2.1.fPort) && true)))
              (.done true)
              (.call 12017 (s22 r717.1 r718.1) [] [] fun r719 =>
                .done (!r719)))))
        (fun (c720 : Bool) => [.bool c720]) fun c720 =>
        .br 0 c720
        (.done false)
        (.ff (.tt (.gh 7 (.drop [12]) (.gh 8 (.drop [13]) (.call 7003 (s23 p3.fFrom) [] [] fun r721 =>
          .call 7012 (s23 p3.fFrom) [] [] fun r722 =>
          .tt (.gh 11 (.drop [15]) (.gh 12 (.drop [16, 17, 18]) (.call 10013 (s31 r706.a1 (wi64 (r706.a1.fNow + (wi64 (Int.tmod p3.fAfter 1000)))) r721 (SAddr.mk r706.a1.fHost (wi64 (r706.a1.fLow + (wi64 (Int.tmod p4 9)))))) [] [] fun r723 =>
          .gh 13 (.drop [20, 21, 22]) (.call 11013 (s32 r706.a1 (wi64 (r706.a1.fNow + (wi64 (Int.tmod p3.fAfter 1000)))) r721 (SAddr.mk r706.a1.fHost (wi64 (r706.a1.fLow + (wi64 (Int.tmod p4 9)))))) [] [] fun r724 =>
          .cnd 12 [115]
          (.br 12005 (r723.2.2.2 != r724.2.2.2)
            (.done true)
            (.br 12010 (!((decide (r723.2.1.fHost = r724.2.1.fHost)) && ((r723.2.1.fPort == r724.2.1.fPort) && true)))
              (.done true)
              (.br 12015 (!((decide (r723.2.2.1.fHost = r724.2.2.1.fHost)) && ((r723.2.2.1.fPort == r724.2.2.1.fPort) && true)))
                (.done true)
                (.call 12017 (s22 r723.1 r724.1) [] [] fun r725 =>
                  .done (!r725)))))
          (fun (c726 : Bool) => [.bool c726]) fun c726 =>
          .br 0 c726
          (.done false)
          (.tt (.gh 11 (.drop [15]) (.gh 12 (.drop [16, 17, 18]) (.call 10013 (s31 r706.a1 (wi64 (r706.a1.fNow + (wi64 (Int.tmod p3.fAfter 1000)))) p3.fRawFrom (SAddr.mk r706.a1.fHost (wi64 (r706.a1.fLow + (wi64 (Int.tmod p4 9)))))) [] [] fun r727 =>
            .gh 13 (.drop [20, 21, 22]) (.call 11013 (s32 r706.a1 (wi64 (r706.a1.fNow + (wi64 (Int.tmod p3.fAfter 1000)))) p3.fRawFrom (SAddr.mk r706.a1.fHost (wi64 (r706.a1.fLow + (wi64 (Int.tmod p4 9)))))) [] [] fun r728 =>
            .cnd 12 [115]
            (.br 12005 (r727.2.2.2 != r728.2.2.2)
              (.done true)
              (.br 12010 (!((decide (r727.2.1.fHost = r728.2.1.fHost)) && ((r727.2.1.fPort == r728.2.1.fPort) && true)))
                (.done true)
                (.br 12015 (!((decide (r727.2.2.1.fHost = r728.2.2.1.fHost)) && ((r727.2.2.1.fPort == r728.2.2.1.fPort) && true)))
                  (.done true)
                  (.call 12017 (s22 r727.1 r728.1) [] [] fun r729 =>
                    .done (!r729)))))
            (fun (c730 : Bool) => [.bool c730]) fun c730 =>
            .br 0 c730
            (.done false)
            (.tt (.gh 11 (.drop [15]) (.gh 12 (.drop [16, 17, 18]) (.call 10013 (s31 r706.a1 (wi64 (r706.a1.fNow + (wi64 (Int.tmod p3.fAfter 1000)))) r722 p3.fRawTo) [] [] fun r731 =>
              .gh 13 (.drop [20, 21, 22]) (.call 11013 (s32 r706.a1 (wi64 (r706.a1.fNow + (wi64 (Int.tmod p3.fAfter 1000)))) r722 p3.fRawTo) [] [] fun r732 =>
              .cnd 12 [115]
              (.br 12005 (r731.2.2.2 != r732.2.2.2)
                (.done true)
                (.br 12010 (!((decide (r731.2.1.fHost = r732.2.1.fHost)) && ((r731.2.1.fPort == r732.2.1.fPort) && true)))
                  (.done true)
                  (.br 12015 (!((decide (r731.2.2.1.fHost = r732.2.2.1.fHost)) && ((r731.2.2.1.fPort == r732.2.2.1.fPort) && true)))
                    (.done true)
                    (.call 12017 (s22 r731.1 r732.1) [] [] fun r733 =>
                      .done (!r733)))))
              (fun (c734 : Bool) => [.bool c734]) fun c734 =>
              .br 0 c734
              (.done false)
              (.ff (.tt (.gh 7 (.drop [12]) (.gh 8 (.drop [13]) (.call 7003 (s23 p3.fFrom) [] [] fun r735 =>
                .call 7012 (s23 p3.fFrom) [] [] fun r736 =>
                .tt (.gh 11 (.drop [15]) (.gh 12 (.drop [16, 17, 18]) (.call 10013 (s31 r706.a2 (wi64 (r706.a2.fNow + (wi64 (Int.tmod p3.fAfter 1000)))) r735 (SAddr.mk r706.a2.fHost (wi64 (r706.a2.fLow + (wi64 (Int.tmod p4 9)))))) [] [] fun r737 =>
                .gh 13 (.drop [20, 21, 22]) (.call 11013 (s32 r706.a2 (wi64 (r706.a2.fNow + (wi64 (Int.tmod p3.fAfter 1000)))) r735 (SAddr.mk r706.a2.fHost (wi64 (r706.a2.fLow + (wi64 (Int.tmod p4 9)))))) [] [] fun r738 =>
                .cnd 12 [115]
                (.br 12005 (r737.2.2.2 != r738.2.2.2)
                  (.done true)
                  (.br 12010 (!((decide (r737.2.1.fHost = r738.2.1.fHost)) && ((r737.2.1.fPort == r738.2.1.fPort) && true)))
                    (.done true)
                    (.br 12015 (!((decide (r737.2.2.1.fHost = r738.2.2.1.fHost)) && ((r737.2.2.1.fPort == r738.2.2.1.fPort) && true)))
                      (.done true)
                      (.call 12017 (s22 r737.1 r738.1) [] [] fun r739 =>
                        .done (!r739)))))
                (fun (c740 : Bool) => [.bool c740]) fun c740 =>
                .br 0 c740
                (.done false)
                (.tt (.gh 11 (.drop [15]) (.gh 12 (.drop [16, 17, 18]) (.call 10013 (s31 r706.a2 (wi64 (r706.a2.fNow + (wi64 (Int.tmod p3.fAfter 1000)))) p3.fRawFrom (SAddr.mk r706.a2.fHost (wi64 (r706.a2.fLow + (wi64 (Int.tmod p4 9)))))) [] [] fun r741 =>
                  .gh 13 (.drop [20, 21, 22]) (.call 11013 (s32 r706.a2 (wi64 (r706.a2.fNow + (wi64 (Int.tmod p3.fAfter 1000)))) p3.fRawFrom (SAddr.mk r706.a2.fHost (wi64 (r706.a2.fLow + (wi64 (Int.tmod p4 9)))))) [] [] fun r742 =>
                  .cnd 12 [115]
                  (.br 12005 (r741.2.2.2 != r742.2.2.2)
                    (.done true)
                    (.br 12010 (!((decide (r741.2.1.fHost = r742.2.1.fHost)) && ((r741.2.1.fPort == r742.2.1.fPort) && true)))
                      (.done true)
                      (.br 12015 (!((decide (r741.2.2.1.fHost = r742.2.2.1.fHost)) && ((r741.2.2.1.fPort == r742.2.2.1.fPort) && true)))
                        (.done true)
                        (.call 12017 (s22 r741.1 r742.1) [] [] fun r743 =>
                          .done (!r743)))))
                  (fun (c744 : Bool) => [.bool c744]) fun c744 =>
                  .br 0 c744
                  (.done false)
                  (.tt (.gh 11 (.drop [15]) (.gh 12 (.drop [16, 17, 18]) (.call 10013 (s31 r706.a2 (wi64 (r706.a2.fNow + (wi64 (Int.tmod p3.fAfter 1000)))) r736 p3.fRawTo) [] [] fun r745 =>
                    .gh 13 (.drop [20, 21, 22]) (.call 11013 (s32 r706.a2 (wi64 (r706.a2.fNow + (wi64 (Int.tmod p3.fAfter 1000)))) r736 p3.fRawTo) [] [] fun r746 =>
                    .cnd 12 [115]
                    (.br 12005 (r745.2.2.2 != r746.2.2.2)
                      (.done true)
                      (.br 12010 (!((decide (r745.2.1.fHost = r746.2.1.fHost)) && ((r745.2.1.fPort == r746.2.1.fPort) && true)))
                        (.done true)
                        (.br 12015 (!((decide (r745.2.2.1.fHost = r746.2.2.1.fHost)) && ((r745.2.2.1.fPort == r746.2.2.1.fPort) && true)))
                          (.done true)
                          (.call 12017 (s22 r745.1 r746.1) [] [] fun r747 =>
                            .done (!r747)))))
                    (fun (c748 : Bool) => [.bool c748]) fun c748 =>
                    .br 0 c748
                    (.done false)
                    (.ff (.tt (.gh 7 (.drop [12]) (.gh 8 (.drop [13]) (.call 7003 (s23 p3.fFrom) [] [] fun r749 =>
                      .call 7012 (s23 p3.fFrom) [] [] fun r750 =>
                      .tt (.gh 11 (.drop [15]) (.gh 12 (.drop [16, 17, 18]) (.call 10013 (s31 r706.a3 (wi64 (r706.a3.fNow + (wi64 (Int.tmod p3.fAfter 1000)))) r749 (SAddr.mk r706.a3.fHost (wi64 (r706.a3.fLow + (wi64 (Int.tmod p4 9)))))) [] [] fun r751 =>
                      .gh 13 (.drop [20, 21, 22]) (.call 11013 (s32 r706.a3 (wi64 (r706.a3.fNow + (wi64 (Int.tmod p3.fAfter 1000)))) r749 (SAddr.mk r706.a3.fHost (wi64 (r706.a3.fLow + (wi64 (Int.tmod p4 9)))))) [] [] fun r752 =>
                      .cnd 12 [115]
                      (.br 12005 (r751.2.2.2 != r752.2.2.2)
                        (.done true)
                        (.br 12010 (!((decide (r751.2.1.fHost = r752.2.1.fHost)) && ((r751.2.1.fPort == r752.2.1.fPort) && true)))
                          (.done true)
                          (.br 12015 (!((decide (r751.2.2.1.fHost = r752.2.2.1.fHost)) && ((r751.2.2.1.fPort == r752.2.2.1.fPort) && true)))
                            (.done true)
                            (.call 12017 (s22 r751.1 r752.1) [] [] fun r753 =>
                              .done (!r753)))))
                      (fun (c754 : Bool) => [.bool c754]) fun c754 =>
                      .br 0 c754
                      (.done false)
                      (.tt (.gh 11 (.drop [15]) (.gh 12 (.drop [16, 17, 18]) (.call 10013 (s31 r706.a3 (wi64 (r706.a3.fNow + (wi64 (Int.tmod p3.fAfter 1000)))) p3.fRawFrom (SAddr.mk r706.a3.fHost (wi64 (r706.a3.fLow + (wi64 (Int.tmod p4 9)))))) [] [] fun r755 =>
                        .gh 13 (.drop [20, 21, 22]) (.call 11013 (s32 r706.a3 (wi64 (r706.a3.fNow + (wi64 (Int.tmod p3.fAfter 1000)))) p3.fRawFrom (SAddr.mk r706.a3.fHost (wi64 (r706.a3.fLow + (wi64 (Int.tmod p4 9)))))) [] [] fun r756 =>
                        .cnd 12 [115]
                        (.br 12005 (r755.2.2.2 != r756.2.2.2)
                          (.done true)
                          (.br 12010 (!((decide (r755.2.1.fHost = r756.2.1.fHost)) && ((r755.2.1.fPort == r756.2.1.fPort) && true)))
                            (.done true)
                            (.br 12015 (!((decide (r755.2.2.1.fHost = r756.2.2.1.fHost)) && ((r755.2.2.1.fPort == r756.2.2.1.fPort) && true)))
                              (.done true)
                              (.call 12017 (s22 r755.1 r756.1) [] [] fun r757 =>
                                .done (!r757)))))
                        (fun (c758 : Bool) => [.bool c758]) fun c758 =>
                        .br 0 c758
                        (.done false)
                        (.tt (.gh 11 (.drop [15]) (.gh 12 (.drop [16, 17, 18]) (.call 10013 (s31 r706.a3 (wi64 (r706.a3.fNow + (wi64 (Int.tmod p3.fAfter 1000)))) r750 p3.fRawTo) [] [] fun r759 =>
                          .gh 13 (.drop [20, 21, 22]) (.call 11013 (s32 r706.a3 (wi64 (r706.a3.fNow + (wi64 (Int.tmod p3.fAfter 1000)))) r750 p3.fRawTo) [] [] fun r760 =>
                          .cnd 12 [115]
                          (.br 12005 (r759.2.2.2 != r760.2.2.2)
                            (.done true)
                            (.br 12010 (!((decide (r759.2.1.fHost = r760.2.1.fHost)) && ((r759.2.1.fPort == r760.2.1.fPort) && true)))
                              (.done true)
                              (.br 12015 (!((decide (r759.2.2.1.fHost = r760.2.2.1.fHost)) && ((r759.2.2.1.fPort == r760.2.2.1.fPort) && true)))
                                (.done true)
                                (.call 12017 (s22 r759.1 r760.1) [] [] fun r761 =>
                                  .done (!r761)))))
                          (fun (c762 : Bool) => [.bool c762]) fun c762 =>
                          .br 0 c762
                          (.done false)
                          (.ff (.ff (.done true)))))))))))))))))))))))))))))))))))))))))))))))))))))))))))))))))))))))))
theorem k9 (p0 : SDraft) (p1 : S2Tannoyref13Bend) (p2 : SNat) (p3 : SMove1) (p4 : Int) : FnD Tryd.prog GG [0, 1, 2, 3, 4, 5, 6, 7, 8, 10, 12, 13, 15, 16, 17, 18, 19, 20, 21, 22, 23, 25, 29, 30, 31, 57, 58, 59, 115] Tryd.f9 [.agg [.int .u8 p0.fMapping, .int .u8 p0.fFilter, .int .u8 p0.fPorts, .int .u16 p0.fTimeout, .bool p0.fHairpin, .sl false 4 (List.map tySMove.c p0.fMoves)], .agg [.int .u8 p1.a0.fWhat, .int .u8 p1.a0.fAt, .int .i64 p1.a0.fN, .str p1.a0.fA.fHost, .int .i64 p1.a0.fA.fPort, .str p1.a0.fS, .int .u8 p1.a1.fWhat, .int .u8 p1.a1.fAt, .int .i64 p1.a1.fN, .str p1.a1.fA.fHost, .int .i64 p1.a1.fA.fPort, .str p1.a1.fS], .agg [.int .i64 p2.fMapping, .int .i64 p2.fFilter, .int .i64 p2.fTimeout, .bool p2.fHairpin, .str p2.fHost, .int .i64 p2.fLow, .int .i64 p2.fHigh, .int .i64 p2.fNow, .sl false 7 (List.map tySBinding.c p2.fTable)], .agg [.int .u8 p3.fFrom, .int .u8 p3.fTo, .int .u16 p3.fAfter, .int .i64 p3.fNow, .str p3.fRawFrom.fHost, .int .i64 p3.fRawFrom.fPort, .str p3.fRawTo.fHost, .int .i64 p3.fRawTo.fPort], .int .u8 p4] (g9 p0 p1 p2 p3 p4) (fun r => .bool r) := by unfold FnD; kernel_rfl
noncomputable def s9 (p0 : SDraft) (p1 : S2Tannoyref13Bend) (p2 : SNat) (p3 : SMove1) (p4 : Int) : EV.Spec Tryd.prog GG (Bool) := .ofFn 9 mixed Tryd.func9 (k9 p0 p1 p2 p3 p4)

end Go.Proofs.YtdiagiflihpidaaDoor
