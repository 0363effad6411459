/- Guides and contracts, printed by a program. -/
import Derived.Test.YtdiagiflihpidaaDoorD7
import Derived.KernelRfl

namespace Go.Proofs.YtdiagiflihpidaaDoor
open Go Go.EV
set_option maxRecDepth 100000

/-- tannoy tannoylaw13.NatFilters -/
noncomputable def g8 (p0 : SDraft) (p1 : SMove1) (p2 : Int) (p3 : Int) : TT (Bool) :=
  .call 1001 s16 [] [] fun r815 =>
  .br 0 (!r815)
  (.done false)
  (.call 3002 (s29 p0) [] [] fun r816 =>
    .call 5002 (s24 p2) [] [] fun r817 =>
    .call 6006 (s27 r816 r816.fNow r817 (SAddr.mk r816.fHost (wi64 (r816.fLow + (wi64 (Int.tmod p3 8)))))) [] [] fun r818 =>
    .br 0 (r818.2.2 != 0)
    (.done (r818.2.2 == 4))
    (.call 9003 (s22 r816 r818.1) [] [] fun r819 =>
      .br 0 (!r819)
      (.done false)
      (.bind2 1
        (.lp (fun (l830 : Int) => Ext.lit .normal [(8, .bool false), (9, .ptr 9 0 0), (10, .ptr 10 0 0), (11, .ptr 11 0 0), (13, .ptr 13 0 0), (54, .sl false 7 (List.map tySBinding.c r816.fTable)), (55, .int .i64 (mlen tySBinding r816.fTable)), (56, .int .i64 l830)] [(9, ⟨9, true, [[.int .i64 r816.fMapping, .int .i64 r816.fFilter, .int .i64 r816.fTimeout, .bool r816.fHairpin, .str r816.fHost, .int .i64 r816.fLow, .int .i64 r816.fHigh, .int .i64 r816.fNow, .sl false 7 (List.map tySBinding.c r816.fTable)]]⟩), (10, ⟨2, true, [[.str r816.fHost, .int .i64 (wi64 (r816.fLow + (wi64 (Int.tmod p3 8))))]]⟩), (11, ⟨2, true, [[.str r817.fHost, .int .i64 r817.fPort]]⟩), (13, ⟨2, true, [[.str r818.2.1.fHost, .int .i64 r818.2.1.fPort]]⟩)])
          (fun l830 =>
            .br 0 (decide (l830 < (mlen tySBinding r816.fTable)))
            (.row 13001 tySBinding r816.fTable l830.toNat (decide (0 ≤ l830)) fun x831 =>
              .br 0 (x831.fPort != (wi64 (r816.fLow + (wi64 (Int.tmod p3 8)))))
              (.done (.inl (wi64 (l830 + 1))))
              (.bind 1
                (.lp (fun (l835 : Bool × Int) => Ext.lit .normal [(8, .bool false), (9, .ptr 9 0 0), (10, .ptr 10 0 0), (11, .ptr 11 0 0), (13, .ptr 13 0 0), (16, .ptr 16 0 0), (17, .bool l835.1), (54, .sl false 7 (List.map tySBinding.c r816.fTable)), (55, .int .i64 (mlen tySBinding r816.fTable)), (56, .int .i64 l830), (69, .sl false 2 (List.map tySAddr.c x831.fOpen)), (70, .int .i64 (mlen tySAddr x831.fOpen)), (71, .int .i64 l835.2)] [(9, ⟨9, true, [[.int .i64 r816.fMapping, .int .i64 r816.fFilter, .int .i64 r816.fTimeout, .bool r816.fHairpin, .str r816.fHost, .int .i64 r816.fLow, .int .i64 r816.fHigh, .int .i64 r816.fNow, .sl false 7 (List.map tySBinding.c r816.fTable)]]⟩), (10, ⟨2, true, [[.str r816.fHost, .int .i64 (wi64 (r816.fLow + (wi64 (Int.tmod p3 8))))]]⟩), (11, ⟨2, true, [[.str r817.fHost, .int .i64 r817.fPort]]⟩), (13, ⟨2, true, [[.str r818.2.1.fHost, .int .i64 r818.2.1.fPort]]⟩), (16, ⟨7, true, [[.str x831.fInside.fHost, .int .i64 x831.fInside.fPort, .str x831.fPeer.fHost, .int .i64 x831.fPeer.fPort, .int .i64 x831.fPort, .int .i64 x831.fUntil, .sl false 2 (List.map tySAddr.c x831.fOpen)]]⟩)])
                  (fun l835 =>
                    .br 0 (decide (l835.2 < (mlen tySAddr x831.fOpen)))
                    (.row 18001 tySAddr x831.fOpen l835.2.toNat (decide (0 ≤ l835.2)) fun x836 =>
                      .cnd 19 [17]
                      (.br 19003 l835.1
                        (.done true)
                        (.br 19009 (decide (x836.fHost = r817.fHost))
                          (.br 19013 (r816.fFilter == 2)
                            (.done true)
                            (.done (x836.fPort == r817.fPort)))
                          (.done false)))
                      (fun (c837 : Bool) => [.bool c837]) fun c837 =>
                      .done (.inl (c837, (wi64 (l835.2 + 1)))))
                    (.done (.inr (r816.fMapping, r816.fFilter, r816.fTimeout, r816.fHairpin, r816.fHost, r816.fLow, r816.fHigh, r816.fNow, r816.fTable, (wi64 (r816.fLow + (wi64 (Int.tmod p3 8)))), r817.fHost, r817.fPort, r818.2.1.fHost, r818.2.1.fPort, x831.fInside.fHost, x831.fInside.fPort, x831.fPeer.fHost, x831.fPeer.fPort, x831.fPort, x831.fUntil, x831.fOpen, l835.1, (mlen tySBinding r816.fTable)))))
                  ((r816.fFilter == 1), 0))
                (fun (e838 : Int × Int × Int × Bool × ByteArray × Int × Int × Int × (List SBinding) × Int × ByteArray × Int × ByteArray × Int × ByteArray × Int × ByteArray × Int × Int × Int × (List SAddr) × Bool × Int) => Ext.lit (.exit 2) [(8, .bool false), (9, .ptr 9 0 0), (10, .ptr 10 0 0), (11, .ptr 11 0 0), (13, .ptr 13 0 0), (16, .ptr 16 0 0), (17, .bool e838.2.2.2.2.2.2.2.2.2.2.2.2.2.2.2.2.2.2.2.2.2.1), (54, .sl false 7 (List.map tySBinding.c e838.2.2.2.2.2.2.2.2.1)), (55, .int .i64 e838.2.2.2.2.2.2.2.2.2.2.2.2.2.2.2.2.2.2.2.2.2.2), (56, .int .i64 l830)] [(9, ⟨9, true, [[.int .i64 e838.1, .int .i64 e838.2.1, .int .i64 e838.2.2.1, .bool e838.2.2.2.1, .str e838.2.2.2.2.1, .int .i64 e838.2.2.2.2.2.1, .int .i64 e838.2.2.2.2.2.2.1, .int .i64 e838.2.2.2.2.2.2.2.1, .sl false 7 (List.map tySBinding.c e838.2.2.2.2.2.2.2.2.1)]]⟩), (10, ⟨2, true, [[.str e838.2.2.2.2.1, .int .i64 e838.2.2.2.2.2.2.2.2.2.1]]⟩), (11, ⟨2, true, [[.str e838.2.2.2.2.2.2.2.2.2.2.1, .int .i64 e838.2.2.2.2.2.2.2.2.2.2.2.1]]⟩), (13, ⟨2, true, [[.str e838.2.2.2.2.2.2.2.2.2.2.2.2.1, .int .i64 e838.2.2.2.2.2.2.2.2.2.2.2.2.2.1]]⟩), (16, ⟨7, true, [[.str e838.2.2.2.2.2.2.2.2.2.2.2.2.2.2.1, .int .i64 e838.2.2.2.2.2.2.2.2.2.2.2.2.2.2.2.1, .str e838.2.2.2.2.2.2.2.2.2.2.2.2.2.2.2.2.1, .int .i64 e838.2.2.2.2.2.2.2.2.2.2.2.2.2.2.2.2.2.1, .int .i64 e838.2.2.2.2.2.2.2.2.2.2.2.2.2.2.2.2.2.2.1, .int .i64 e838.2.2.2.2.2.2.2.2.2.2.2.2.2.2.2.2.2.2.2.1, .sl false 2 (List.map tySAddr.c e838.2.2.2.2.2.2.2.2.2.2.2.2.2.2.2.2.2.2.2.2.1)]]⟩)])
                (fun e838 =>
                  .cnd 21 [8]
                  (.br 21003 e838.2.2.2.2.2.2.2.2.2.2.2.2.2.2.2.2.2.2.2.2.2.1
                    (.done ((decide (e838.2.2.2.2.2.2.2.2.2.2.2.2.1 = e838.2.2.2.2.2.2.2.2.2.2.2.2.2.2.1)) && ((e838.2.2.2.2.2.2.2.2.2.2.2.2.2.1 == e838.2.2.2.2.2.2.2.2.2.2.2.2.2.2.2.1) && true)))
                    (.done false))
                  (fun (c839 : Bool) => [.bool c839]) fun c839 =>
                  .done (.inr (.inl c839)))))
            (.done (.inr (.inr ()))))
          0)
        (fun (e840 : Bool) => Ext.lit .ret [(8, .bool e840)] [])
        (fun (e841 : Unit) => Ext.lit (.exit 0) [(8, .bool false)] [])
        (fun e840 =>
          .done e840)
        (fun e841 =>
          .done false))))
theorem k8 (p0 : SDraft) (p1 : SMove1) (p2 : Int) (p3 : Int) : FnD Tryd.prog GG [0, 1, 2, 3, 4, 8, 9, 10, 11, 12, 13, 14, 16, 17, 19, 21, 46, 52, 54, 55, 56, 57, 64, 69, 70, 71, 72] Tryd.f8 [.agg [.int .u8 p0.fMapping, .int .u8 p0.fFilter, .int .u8 p0.fPorts, .int .u16 p0.fTimeout, .bool p0.fHairpin, .sl false 4 (List.map tySMove.c p0.fMoves)], .agg [.int .u8 p1.fFrom, .int .u8 p1.fTo, .int .u16 p1.fAfter, .int .i64 p1.fNow, .str p1.fRawFrom.fHost, .int .i64 p1.fRawFrom.fPort, .str p1.fRawTo.fHost, .int .i64 p1.fRawTo.fPort], .int .u8 p2, .int .u8 p3] (g8 p0 p1 p2 p3) (fun r => .bool r) := by unfold FnD; kernel_rfl
noncomputable def s8 (p0 : SDraft) (p1 : SMove1) (p2 : Int) (p3 : Int) : EV.Spec Tryd.prog GG (Bool) := .ofFn 8 mixed Tryd.func8 (k8 p0 p1 p2 p3)

end Go.Proofs.YtdiagiflihpidaaDoor
