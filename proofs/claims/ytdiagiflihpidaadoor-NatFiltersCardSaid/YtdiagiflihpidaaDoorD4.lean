/- Guides and contracts, printed by a program.
   Guides and contracts, printed by a program. -/
import Derived.Test.YtdiagiflihpidaaDoorD3
import Derived.KernelRfl

namespace Go.Proofs.YtdiagiflihpidaaDoor
open Go Go.EV
set_option maxRecDepth 100000

/-- tannoy tannoyref13.Loop -/
noncomputable def g32 (p0 : SNat) (p1 : Int) (p2 : SAddr) (p3 : SAddr) : TT (SNat × SAddr × SAddr × Int) :=
  .view 1006 (s18 p0 p1 [p2, p3]) [] fun r696 =>
  .br 0 (r696 != 0)
  (.done ((SNat.mk 0 0 0 false ByteArray.empty 0 0 0 []), (SAddr.mk ByteArray.empty 0), (SAddr.mk ByteArray.empty 0), r696))
  (.br 0 (!p0.fHairpin)
    (.done ((SNat.mk 0 0 0 false ByteArray.empty 0 0 0 []), (SAddr.mk ByteArray.empty 0), (SAddr.mk ByteArray.empty 0), 4))
    (.call 6005 (s26 p0 p1 p2 p3) [] [] fun r697 =>
      .br 0 (r697.2.2 != 0)
      (.done ((SNat.mk 0 0 0 false ByteArray.empty 0 0 0 []), (SAddr.mk ByteArray.empty 0), (SAddr.mk ByteArray.empty 0), r697.2.2))
      (.call 9005 (s28 r697.1 p1 r697.2.1 p3) [] [] fun r698 =>
        .br 0 (r698.2.2 != 0)
        (.done ((SNat.mk 0 0 0 false ByteArray.empty 0 0 0 []), (SAddr.mk ByteArray.empty 0), (SAddr.mk ByteArray.empty 0), r698.2.2))
        (.done (r698.1, r697.2.1, r698.2.1, 0)))))
theorem k32 (p0 : SNat) (p1 : Int) (p2 : SAddr) (p3 : SAddr) : FnD Tryd.prog GG [0, 1, 2, 3, 4, 6, 7, 8, 9, 10, 11, 12, 13, 14, 15, 16, 24, 31, 45, 60] Tryd.f32 [.agg [.int .i64 p0.fMapping, .int .i64 p0.fFilter, .int .i64 p0.fTimeout, .bool p0.fHairpin, .str p0.fHost, .int .i64 p0.fLow, .int .i64 p0.fHigh, .int .i64 p0.fNow, .sl false 7 (List.map tySBinding.c p0.fTable)], .int .i64 p1, .agg [.str p2.fHost, .int .i64 p2.fPort], .agg [.str p3.fHost, .int .i64 p3.fPort]] (g32 p0 p1 p2 p3) (fun r => .tup [.agg [.int .i64 r.1.fMapping, .int .i64 r.1.fFilter, .int .i64 r.1.fTimeout, .bool r.1.fHairpin, .str r.1.fHost, .int .i64 r.1.fLow, .int .i64 r.1.fHigh, .int .i64 r.1.fNow, .sl false 7 (List.map tySBinding.c r.1.fTable)], .agg [.str r.2.1.fHost, .int .i64 r.2.1.fPort], .agg [.str r.2.2.1.fHost, .int .i64 r.2.2.1.fPort], .int .i64 r.2.2.2]) := by unfold FnD; kernel_rfl
noncomputable def s32 (p0 : SNat) (p1 : Int) (p2 : SAddr) (p3 : SAddr) : EV.Spec Tryd.prog GG (SNat × SAddr × SAddr × Int) := .ofFn 32 mixed Tryd.func32 (k32 p0 p1 p2 p3)

end Go.Proofs.YtdiagiflihpidaaDoor

namespace Go.Proofs.YtdiagiflihpidaaDoor
open Go Go.EV
set_option maxRecDepth 100000

/-- tannoy nat.Loop -/
noncomputable def g31 (p0 : SNat) (p1 : Int) (p2 : SAddr) (p3 : SAddr) : TT (SNat × SAddr × SAddr × Int) :=
  .call2 1006 (s56_1 p0 p1 [p2, p3]) [(1000000, 19)] [(15, 500362), (600074, 500363)] (fun r699 =>
    .br 0 (r699 != 0)
    (.done ((SNat.mk 0 0 0 false ByteArray.empty 0 0 0 []), (SAddr.mk ByteArray.empty 0), (SAddr.mk ByteArray.empty 0), r699))
    (.br 0 (!p0.fHairpin)
      (.done ((SNat.mk 0 0 0 false ByteArray.empty 0 0 0 []), (SAddr.mk ByteArray.empty 0), (SAddr.mk ByteArray.empty 0), 4))
      (.call 6005 (s25 p0 p1 p2 p3) [] [] fun r700 =>
        .br 0 (r700.2.2 != 0)
        (.done ((SNat.mk 0 0 0 false ByteArray.empty 0 0 0 []), (SAddr.mk ByteArray.empty 0), (SAddr.mk ByteArray.empty 0), r700.2.2))
        (.call 9005 (s27 r700.1 p1 r700.2.1 p3) [] [] fun r701 =>
          .br 0 (r701.2.2 != 0)
          (.done ((SNat.mk 0 0 0 false ByteArray.empty 0 0 0 []), (SAddr.mk ByteArray.empty 0), (SAddr.mk ByteArray.empty 0), r701.2.2))
          (.done (r701.1, r700.2.1, r701.2.1, 0))))))
  (fun r702 =>
    .ff (.br 0 (!p0.fHairpin)
    (.done ((SNat.mk 0 0 0 false ByteArray.empty 0 0 0 []), (SAddr.mk ByteArray.empty 0), (SAddr.mk ByteArray.empty 0), 4))
    (.call 6005 (s25 p0 p1 p2 p3) [] [] fun r703 =>
      .br 0 (r703.2.2 != 0)
      (.done ((SNat.mk 0 0 0 false ByteArray.empty 0 0 0 []), (SAddr.mk ByteArray.empty 0), (SAddr.mk ByteArray.empty 0), r703.2.2))
      (.call 9005 (s27 r703.1 p1 r703.2.1 p3) [] [] fun r704 =>
        .br 0 (r704.2.2 != 0)
        (.done ((SNat.mk 0 0 0 false ByteArray.empty 0 0 0 []), (SAddr.mk ByteArray.empty 0), (SAddr.mk ByteArray.empty 0), r704.2.2))
        (.done (r704.1, r703.2.1, r704.2.1, 0))))))
theorem k31 (p0 : SNat) (p1 : Int) (p2 : SAddr) (p3 : SAddr) : FnD Tryd.prog GG [0, 1, 2, 3, 4, 6, 7, 8, 9, 10, 11, 13, 24, 31, 45, 60] Tryd.f31 [.agg [.int .i64 p0.fMapping, .int .i64 p0.fFilter, .int .i64 p0.fTimeout, .bool p0.fHairpin, .str p0.fHost, .int .i64 p0.fLow, .int .i64 p0.fHigh, .int .i64 p0.fNow, .sl false 7 (List.map tySBinding.c p0.fTable)], .int .i64 p1, .agg [.str p2.fHost, .int .i64 p2.fPort], .agg [.str p3.fHost, .int .i64 p3.fPort]] (g31 p0 p1 p2 p3) (fun r => .tup [.agg [.int .i64 r.1.fMapping, .int .i64 r.1.fFilter, .int .i64 r.1.fTimeout, .bool r.1.fHairpin, .str r.1.fHost, .int .i64 r.1.fLow, .int .i64 r.1.fHigh, .int .i64 r.1.fNow, .sl false 7 (List.map tySBinding.c r.1.fTable)], .agg [.str r.2.1.fHost, .int .i64 r.2.1.fPort], .agg [.str r.2.2.1.fHost, .int .i64 r.2.2.1.fPort], .int .i64 r.2.2.2]) := by unfold FnD; kernel_rfl
noncomputable def s31 (p0 : SNat) (p1 : Int) (p2 : SAddr) (p3 : SAddr) : EV.Spec Tryd.prog GG (SNat × SAddr × SAddr × Int) := .ofFn 31 mixed Tryd.func31 (k31 p0 p1 p2 p3)

end Go.Proofs.YtdiagiflihpidaaDoor
