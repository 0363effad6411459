/- Guides and contracts, printed by a program. -/
import Derived.Test.YtdiagiflihpidaaDoorC4
import Derived.KernelRfl

namespace Go.Proofs.YtdiagiflihpidaaDoor
open Go Go.EV
set_option maxRecDepth 100000

/-- tannoy tannoyref13.In -/
noncomputable def g28 (p0 : SNat) (p1 : Int) (p2 : SAddr) (p3 : SAddr) : TT (SNat × SAddr × Int) :=
  .view 1006 (s18 p0 p1 [p2, p3]) [] fun r462 =>
  .br 0 (r462 != 0)
  (.done ((SNat.mk 0 0 0 false ByteArray.empty 0 0 0 []), (SAddr.mk ByteArray.empty 0), r462))
  (.br 0 (!decide (p3.fHost = p0.fHost))
    (.done ((SNat.mk 0 0 0 false ByteArray.empty 0 0 0 []), (SAddr.mk ByteArray.empty 0), 2))
    (.call 6003 (s21 p0 p1) [] [(600014, 500361)] fun r463 =>
      .bind2 1
      (.lp (fun (l469 : Int) => Ext.of .normal [(4, .ptr 4 0 0), (6, .ptr 6 0 0), (7, .ptr 7 0 0), (8, .ptr 8 0 0), (9, .ptr 9 0 0), (10, .int .i64 0), (12, .int .i64 l469)] [(4, ⟨9, true, [[.int .i64 p0.fMapping, .int .i64 p0.fFilter, .int .i64 p0.fTimeout, .bool p0.fHairpin, .str p0.fHost, .int .i64 p0.fLow, .int .i64 p0.fHigh, .int .i64 p1, .ref 500361 0 r463.length]]⟩), (6, ⟨2, true, [[.str p2.fHost, .int .i64 p2.fPort]]⟩), (7, ⟨2, true, [[.str p3.fHost, .int .i64 p3.fPort]]⟩), (8, ⟨9, true, [[.int .i64 0, .int .i64 0, .int .i64 0, .bool false, .str ByteArray.empty, .int .i64 0, .int .i64 0, .int .i64 0, .nilsl]]⟩), (9, ⟨2, true, [[.str ByteArray.empty, .int .i64 0]]⟩)] [BT.of 500361 tySBindingO6 7 r463 true] (by rfl))
        (fun l469 =>
          .br 0 (decide (l469 < (r463.length : Int)))
          (.chk 10004 (decide (0 ≤ l469) && decide (l469 < (r463.length : Int))) (.row 10005 tySBindingO6 r463 (0 + l469.toNat) true fun x470 =>
            .cnd 11 [64]
            (.br 11007 (x470.fPort == p3.fPort)
              (.br 11011 (p0.fFilter == 1)
                (.done true)
                (.call 11015 (s59 p0.fFilter p2) [] [] fun r471 =>
                  .call 11016 (s61 x470 r471) [] [] fun r472 =>
                  .done r472))
              (.done false))
            (fun (c473 : Bool) => [.bool c473]) fun c473 =>
            .br 0 c473
            (.done (.inr (.inl (x470.fInside.fHost, x470.fInside.fPort))))
            (.done (.inl (wi64 (l469 + 1))))))
          (.done (.inr (.inr ()))))
        0)
      (fun (e474 : ByteArray × Int) => Ext.of .ret [(8, .ptr 8 0 0), (9, .ptr 9 0 0), (10, .int .i64 0)] [(8, ⟨9, true, [[.int .i64 p0.fMapping, .int .i64 p0.fFilter, .int .i64 p0.fTimeout, .bool p0.fHairpin, .str p0.fHost, .int .i64 p0.fLow, .int .i64 p0.fHigh, .int .i64 p1, .ref 500361 0 r463.length]]⟩), (9, ⟨2, true, [[.str e474.1, .int .i64 e474.2]]⟩)] [BT.of 500361 tySBindingO6 7 r463 true] (by rfl))
      (fun (e475 : Unit) => Ext.lit (.exit 0) [(8, .ptr 8 0 0), (9, .ptr 9 0 0), (10, .int .i64 0)] [(8, ⟨9, true, [[.int .i64 0, .int .i64 0, .int .i64 0, .bool false, .str ByteArray.empty, .int .i64 0, .int .i64 0, .int .i64 0, .nilsl]]⟩), (9, ⟨2, true, [[.str ByteArray.empty, .int .i64 0]]⟩)])
      (fun e474 =>
        .gh 0 (.share [⟨500361, _, tySBindingO6, r463⟩]) (.done ((SNat.mk p0.fMapping p0.fFilter p0.fTimeout p0.fHairpin p0.fHost p0.fLow p0.fHigh p1 r463), (SAddr.mk e474.1 e474.2), 0)))
      (fun e475 =>
        .done ((SNat.mk 0 0 0 false ByteArray.empty 0 0 0 []), (SAddr.mk ByteArray.empty 0), 4))))
theorem k28 (p0 : SNat) (p1 : Int) (p2 : SAddr) (p3 : SAddr) : FnD Tryd.prog GG [0, 1, 2, 3, 4, 6, 7, 8, 9, 10, 11, 12, 13, 21, 29, 39, 64] Tryd.f28 [.agg [.int .i64 p0.fMapping, .int .i64 p0.fFilter, .int .i64 p0.fTimeout, .bool p0.fHairpin, .str p0.fHost, .int .i64 p0.fLow, .int .i64 p0.fHigh, .int .i64 p0.fNow, .sl false 7 (List.map tySBinding.c p0.fTable)], .int .i64 p1, .agg [.str p2.fHost, .int .i64 p2.fPort], .agg [.str p3.fHost, .int .i64 p3.fPort]] (g28 p0 p1 p2 p3) (fun r => .tup [.agg [.int .i64 r.1.fMapping, .int .i64 r.1.fFilter, .int .i64 r.1.fTimeout, .bool r.1.fHairpin, .str r.1.fHost, .int .i64 r.1.fLow, .int .i64 r.1.fHigh, .int .i64 r.1.fNow, .sl false 7 (List.map tySBinding.c r.1.fTable)], .agg [.str r.2.1.fHost, .int .i64 r.2.1.fPort], .int .i64 r.2.2]) := by unfold FnD; kernel_rfl
noncomputable def s28 (p0 : SNat) (p1 : Int) (p2 : SAddr) (p3 : SAddr) : EV.Spec Tryd.prog GG (SNat × SAddr × Int) := .ofFn 28 mixed Tryd.func28 (k28 p0 p1 p2 p3)

end Go.Proofs.YtdiagiflihpidaaDoor
