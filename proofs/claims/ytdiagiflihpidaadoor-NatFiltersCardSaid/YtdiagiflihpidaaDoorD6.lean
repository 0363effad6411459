/- Guides and contracts, printed by a program. -/
import Derived.Test.YtdiagiflihpidaaDoorD5
import Derived.KernelRfl

namespace Go.Proofs.YtdiagiflihpidaaDoor
open Go Go.EV
set_option maxRecDepth 100000

/-- tannoy tannoylaw13.copied -/
noncomputable def g30 (p0 : SNat) : TT (SNat) :=
  .gh 1 (.virt 600371 3 7) (.bind 0
  (.lp (fun (l768 : (List SBinding) × Int) => Ext.of .normal [(1, .ptr 1 0 0), (2, .ptr 2 0 0), (3, .ref 600371 0 l768.1.length), (7, .sl false 7 (List.map tySBinding.c p0.fTable)), (8, .int .i64 (mlen tySBinding p0.fTable)), (9, .int .i64 l768.2)] [(1, ⟨9, true, [[.int .i64 p0.fMapping, .int .i64 p0.fFilter, .int .i64 p0.fTimeout, .bool p0.fHairpin, .str p0.fHost, .int .i64 p0.fLow, .int .i64 p0.fHigh, .int .i64 p0.fNow, .sl false 7 (List.map tySBinding.c p0.fTable)]]⟩), (2, ⟨9, true, [[.int .i64 0, .int .i64 0, .int .i64 0, .bool false, .str ByteArray.empty, .int .i64 0, .int .i64 0, .int .i64 0, .nilsl]]⟩)] [BT.of 600371 tySBindingO6 7 l768.1 true] (by rfl))
    (fun l768 =>
      .br 0 (decide (l768.2 < (mlen tySBinding p0.fTable)))
      (.row 4001 tySBinding p0.fTable l768.2.toNat (decide (0 ≤ l768.2)) fun x769 =>
        .call 5003 (s64 x769.fOpen) [] [(7, 500373)] fun r770 =>
        .appn 6004 tySBindingO6 l768.1 x769 6 500373 tySAddr x769.fOpen 88 (.gh 0 (.drop [600371]) (.gh 0 (.ren 20 600371) (.done (.inl ((l768.1 ++ [x769]), (wi64 (l768.2 + 1))))))))
      (.done (.inr l768.1)))
    ([], 0))
  (fun (e771 : (List SBinding)) => Ext.of (.exit 0) [(1, .ptr 1 0 0), (2, .ptr 2 0 0), (3, .ref 600371 0 e771.length)] [(1, ⟨9, true, [[.int .i64 p0.fMapping, .int .i64 p0.fFilter, .int .i64 p0.fTimeout, .bool p0.fHairpin, .str p0.fHost, .int .i64 p0.fLow, .int .i64 p0.fHigh, .int .i64 p0.fNow, .sl false 7 (List.map tySBinding.c p0.fTable)]]⟩), (2, ⟨9, true, [[.int .i64 0, .int .i64 0, .int .i64 0, .bool false, .str ByteArray.empty, .int .i64 0, .int .i64 0, .int .i64 0, .nilsl]]⟩)] [BT.of 600371 tySBindingO6 7 e771 true] (by rfl))
  (fun e771 =>
    .gh 0 (.share [⟨600371, _, tySBindingO6, e771⟩, ⟨600371, _, tySBindingO6, e771⟩, ⟨600371, _, tySBindingO6, e771⟩]) (.done (SNat.mk p0.fMapping p0.fFilter p0.fTimeout p0.fHairpin p0.fHost p0.fLow p0.fHigh p0.fNow e771))))
theorem k30 (p0 : SNat) : FnD Tryd.prog GG [0, 1, 2, 3, 5, 7, 8, 9, 10] Tryd.f30 [.agg [.int .i64 p0.fMapping, .int .i64 p0.fFilter, .int .i64 p0.fTimeout, .bool p0.fHairpin, .str p0.fHost, .int .i64 p0.fLow, .int .i64 p0.fHigh, .int .i64 p0.fNow, .sl false 7 (List.map tySBinding.c p0.fTable)]] (g30 p0) (fun r => .agg [.int .i64 r.fMapping, .int .i64 r.fFilter, .int .i64 r.fTimeout, .bool r.fHairpin, .str r.fHost, .int .i64 r.fLow, .int .i64 r.fHigh, .int .i64 r.fNow, .sl false 7 (List.map tySBinding.c r.fTable)]) := by unfold FnD; kernel_rfl
noncomputable def s30 (p0 : SNat) : EV.Spec Tryd.prog GG (SNat) := .ofFn 30 mixed Tryd.func30 (k30 p0)

/-- tannoy tannoylaw13.NatReplies -/
noncomputable def g6 (p0 : SDraft) (p1 : SMove1) (p2 : Int) : TT (Bool) :=
  .call 1001 s16 [] [] fun r763 =>
  .br 0 (!r763)
  (.done false)
  (.call 3002 (s29 p0) [] [] fun r764 =>
    .call 4002 (s30 r764) [] [] fun r772 =>
    .call 5003 (s23 p1.fFrom) [] [] fun r773 =>
    .call 5006 (s24 p1.fTo) [] [] fun r774 =>
    .call 7005 (s25 r764 (wi64 (r764.fNow + (wi64 (Int.tmod p1.fAfter 1000)))) r773 r774) [] [] fun r775 =>
    .cnd 8 [60]
    (.call 8003 (s22 r764 r772) [] [] fun r776 =>
      .br 8006 (!r776)
      (.done true)
      (.br 8009 (r775.2.2 != 0)
        (.done (r775.2.2 != 4))
        (.done false)))
    (fun (c777 : Bool) => [.bool c777]) fun c777 =>
    .br 0 c777
    (.done false)
    (.br 0 (r775.2.2 == 4)
      (.call 11003 (s20 r764 (wi64 (r764.fNow + (wi64 (Int.tmod p1.fAfter 1000))))) [] [] fun r778 =>
        .cnd 12 [6]
        (.br 12004 (r778.2 == 0)
          (.done ((mlen tySBinding r778.1.fTable) == (wi64 ((wi64 (r764.fHigh - r764.fLow)) + 1))))
          (.done false))
        (fun (c779 : Bool) => [.bool c779]) fun c779 =>
        .done c779)
      (.chk 13007 (!((wi64 (r764.fTimeout + 3)) == 0)) (.call 14005 (s27 r775.1 (wi64 ((wi64 (r764.fNow + (wi64 (Int.tmod p1.fAfter 1000)))) + (Int.tmod (wi64 p2) (wi64 (r764.fTimeout + 3))))) r774 r775.2.1) [] [] fun r780 =>
        .cnd 15 [129]
        (.call 15002 (s19 r775.1) [] [] fun r781 =>
          .br 15005 (r781 != 0)
          (.done true)
          (.br 15011 (r775.1.fNow != (wi64 (r764.fNow + (wi64 (Int.tmod p1.fAfter 1000)))))
            (.done true)
            (.br 15018 (!decide (r775.2.1.fHost = r764.fHost))
              (.done true)
              (.br 15025 (decide (r775.2.1.fPort < r764.fLow))
                (.done true)
                (.done (decide (r764.fHigh < r775.2.1.fPort)))))))
        (fun (c782 : Bool) => [.bool c782]) fun c782 =>
        .br 0 c782
        (.done false)
        (.br 0 (decide ((wi64 ((wi64 (r764.fNow + (wi64 (Int.tmod p1.fAfter 1000)))) + r764.fTimeout)) ≤ (wi64 ((wi64 (r764.fNow + (wi64 (Int.tmod p1.fAfter 1000)))) + (Int.tmod (wi64 p2) (wi64 (r764.fTimeout + 3)))))))
          (.done (r780.2.2 == 4))
          (.cnd 19 [6]
            (.br 19004 (r780.2.2 == 0)
              (.br 19009 ((decide (r780.2.1.fHost = r773.fHost)) && ((r780.2.1.fPort == r773.fPort) && true))
                (.call 19010 (s19 r780.1) [] [] fun r783 =>
                  .br 19014 (r783 == 0)
                  (.done (r780.1.fNow == (wi64 ((wi64 (r764.fNow + (wi64 (Int.tmod p1.fAfter 1000)))) + (Int.tmod (wi64 p2) (wi64 (r764.fTimeout + 3)))))))
                  (.done false))
                (.done false))
              (.done false))
            (fun (c784 : Bool) => [.bool c784]) fun c784 =>
            .done c784))))))
theorem k6 (p0 : SDraft) (p1 : SMove1) (p2 : Int) : FnD Tryd.prog GG [0, 1, 2, 3, 4, 6, 7, 8, 9, 10, 11, 12, 13, 14, 15, 16, 17, 18, 19, 20, 22, 60, 62, 129, 135] Tryd.f6 [.agg [.int .u8 p0.fMapping, .int .u8 p0.fFilter, .int .u8 p0.fPorts, .int .u16 p0.fTimeout, .bool p0.fHairpin, .sl false 4 (List.map tySMove.c p0.fMoves)], .agg [.int .u8 p1.fFrom, .int .u8 p1.fTo, .int .u16 p1.fAfter, .int .i64 p1.fNow, .str p1.fRawFrom.fHost, .int .i64 p1.fRawFrom.fPort, .str p1.fRawTo.fHost, .int .i64 p1.fRawTo.fPort], .int .u16 p2] (g6 p0 p1 p2) (fun r => .bool r) := by unfold FnD; kernel_rfl
noncomputable def s6 (p0 : SDraft) (p1 : SMove1) (p2 : Int) : EV.Spec Tryd.prog GG (Bool) := .ofFn 6 mixed Tryd.func6 (k6 p0 p1 p2)

end Go.Proofs.YtdiagiflihpidaaDoor
