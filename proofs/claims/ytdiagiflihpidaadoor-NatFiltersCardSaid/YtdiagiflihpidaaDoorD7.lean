/- Guides and contracts, printed by a program. -/
import Derived.Test.YtdiagiflihpidaaDoorD6
import Derived.KernelRfl

namespace Go.Proofs.YtdiagiflihpidaaDoor
open Go Go.EV
set_option maxRecDepth 100000

def ty_u8 : Ty Int := ⟨fun x => [.int .u8 x], fun x => [.int .u8 x], fun _ => rfl, fun _ => rfl, fun _ _ => rfl, fun _ => rfl⟩

/-- tannoy tannoylaw13.NatKeeps -/
noncomputable def g7 (p0 : SDraft) (p1 : SMove1) (p2 : (List Int)) : TT (Bool) :=
  .call 1001 s16 [] [] fun r785 =>
  .br 0 (!r785)
  (.done false)
  (.call 5002 (s29 (SDraft.mk 0 p0.fFilter p0.fPorts 3999 p0.fHairpin p0.fMoves)) [] [] fun r786 =>
    .call 6003 (s23 p1.fFrom) [] [] fun r787 =>
    .call 7007 (s24 p1.fTo) [] [] fun r788 =>
    .call 7008 (s25 r786 r786.fNow r787 r788) [] [] fun r789 =>
    .br 0 (r789.2.2 != 0)
    (.done (r789.2.2 == 4))
    (.chk 10005 (decide (0 ≤ (if (20 : Int) < (mlen ty_u8 p2) then (20 : Int) else (mlen ty_u8 p2))) && decide ((if (20 : Int) < (mlen ty_u8 p2) then (20 : Int) else (mlen ty_u8 p2)) ≤ ((mlenn ty_u8 p2) : Int))) (.re 10005 (ReW.cutHi 49 1 ty_u8 p2 ((if (20 : Int) < (mlen ty_u8 p2) then (20 : Int) else (mlen ty_u8 p2)).toNat)) (.bind2 1
      (.lp (fun (l801 : Int × Int × Int × Bool × ByteArray × Int × Int × Int × (List SBinding) × Int) => Ext.lit .normal [(4, .ptr 4 0 0), (6, .bool false), (8, .ptr 8 0 0), (9, .ptr 9 0 0), (10, .ptr 10 0 0), (49, .sl false 1 (List.map ty_u8.c (p2.take ((if (20 : Int) < (mlen ty_u8 p2) then (20 : Int) else (mlen ty_u8 p2)).toNat)))), (50, .int .i64 (mlen ty_u8 (p2.take ((if (20 : Int) < (mlen ty_u8 p2) then (20 : Int) else (mlen ty_u8 p2)).toNat)))), (51, .int .i64 l801.2.2.2.2.2.2.2.2.2)] [(4, ⟨8, true, [[.int .u8 p1.fFrom, .int .u8 p1.fTo, .int .u16 p1.fAfter, .int .i64 p1.fNow, .str p1.fRawFrom.fHost, .int .i64 p1.fRawFrom.fPort, .str p1.fRawTo.fHost, .int .i64 p1.fRawTo.fPort]]⟩), (8, ⟨2, true, [[.str r787.fHost, .int .i64 r787.fPort]]⟩), (9, ⟨9, true, [[.int .i64 l801.1, .int .i64 l801.2.1, .int .i64 l801.2.2.1, .bool l801.2.2.2.1, .str l801.2.2.2.2.1, .int .i64 l801.2.2.2.2.2.1, .int .i64 l801.2.2.2.2.2.2.1, .int .i64 l801.2.2.2.2.2.2.2.1, .sl false 7 (List.map tySBinding.c l801.2.2.2.2.2.2.2.2.1)]]⟩), (10, ⟨2, true, [[.str r789.2.1.fHost, .int .i64 r789.2.1.fPort]]⟩)])
        (fun l801 =>
          .br 0 (decide (l801.2.2.2.2.2.2.2.2.2 < (mlen ty_u8 (p2.take ((if (20 : Int) < (mlen ty_u8 p2) then (20 : Int) else (mlen ty_u8 p2)).toNat)))))
          (.row 12001 ty_u8 (p2.take ((if (20 : Int) < (mlen ty_u8 p2) then (20 : Int) else (mlen ty_u8 p2)).toNat)) l801.2.2.2.2.2.2.2.2.2.toNat (decide (0 ≤ l801.2.2.2.2.2.2.2.2.2)) fun x802 =>
            .call 13010 (s24 x802) [] [] fun r803 =>
            .call 13011 (s25 (SNat.mk l801.1 l801.2.1 l801.2.2.1 l801.2.2.2.1 l801.2.2.2.2.1 l801.2.2.2.2.2.1 l801.2.2.2.2.2.2.1 l801.2.2.2.2.2.2.2.1 l801.2.2.2.2.2.2.2.2.1) (wi64 (l801.2.2.2.2.2.2.2.1 + (wi64 (Int.tmod x802 50)))) r787 r803) [] [] fun r804 =>
            .cnd 14 [76]
            (.br 14004 (r804.2.2 != 0)
              (.done true)
              (.done (!((decide (r804.2.1.fHost = r789.2.1.fHost)) && ((r804.2.1.fPort == r789.2.1.fPort) && true)))))
            (fun (c805 : Bool) => [.bool c805]) fun c805 =>
            .br 0 c805
            (.done (.inr (.inl (l801.1, l801.2.1, l801.2.2.1, l801.2.2.2.1, l801.2.2.2.2.1, l801.2.2.2.2.2.1, l801.2.2.2.2.2.2.1, l801.2.2.2.2.2.2.2.1, l801.2.2.2.2.2.2.2.2.1))))
            (.call 17005 (s23 x802) [] [] fun r806 =>
              .call 17008 (s24 p1.fTo) [] [] fun r807 =>
              .call 17009 (s25 r804.1 r804.1.fNow r806 r807) [] [] fun r808 =>
              .cnd 18 [110]
              (.br 18004 (r808.2.2 != 0)
                (.br 18008 (r808.2.2 != 4)
                  (.done true)
                  (.br 18011 (r808.2.2 == 0)
                    (.call 18015 (s23 x802) [] [] fun r809 =>
                      .done (!(((decide (r808.2.1.fHost = r789.2.1.fHost)) && ((r808.2.1.fPort == r789.2.1.fPort) && true)) == ((decide (r809.fHost = r787.fHost)) && ((r809.fPort == r787.fPort) && true)))))
                    (.done false)))
                (.br 18011 (r808.2.2 == 0)
                  (.call 18015 (s23 x802) [] [] fun r810 =>
                    .done (!(((decide (r808.2.1.fHost = r789.2.1.fHost)) && ((r808.2.1.fPort == r789.2.1.fPort) && true)) == ((decide (r810.fHost = r787.fHost)) && ((r810.fPort == r787.fPort) && true)))))
                  (.done false)))
              (fun (c811 : Bool) => [.bool c811]) fun c811 =>
              .br 0 c811
              (.done (.inr (.inl (r804.1.fMapping, r804.1.fFilter, r804.1.fTimeout, r804.1.fHairpin, r804.1.fHost, r804.1.fLow, r804.1.fHigh, r804.1.fNow, r804.1.fTable))))
              (.br 0 (r808.2.2 == 0)
                (.done (.inl (r808.1.fMapping, r808.1.fFilter, r808.1.fTimeout, r808.1.fHairpin, r808.1.fHost, r808.1.fLow, r808.1.fHigh, r808.1.fNow, r808.1.fTable, (wi64 (l801.2.2.2.2.2.2.2.2.2 + 1)))))
                (.done (.inl (r804.1.fMapping, r804.1.fFilter, r804.1.fTimeout, r804.1.fHairpin, r804.1.fHost, r804.1.fLow, r804.1.fHigh, r804.1.fNow, r804.1.fTable, (wi64 (l801.2.2.2.2.2.2.2.2.2 + 1))))))))
          (.done (.inr (.inr (l801.1, l801.2.1, l801.2.2.1, l801.2.2.2.1, l801.2.2.2.2.1, l801.2.2.2.2.2.1, l801.2.2.2.2.2.2.1, l801.2.2.2.2.2.2.2.1, l801.2.2.2.2.2.2.2.2.1)))))
        (r789.1.fMapping, r789.1.fFilter, r789.1.fTimeout, r789.1.fHairpin, r789.1.fHost, r789.1.fLow, r789.1.fHigh, r789.1.fNow, r789.1.fTable, 0))
      (fun (e812 : Int × Int × Int × Bool × ByteArray × Int × Int × Int × (List SBinding)) => Ext.lit .ret [(6, .bool false), (9, .ptr 9 0 0)] [(9, ⟨9, true, [[.int .i64 e812.1, .int .i64 e812.2.1, .int .i64 e812.2.2.1, .bool e812.2.2.2.1, .str e812.2.2.2.2.1, .int .i64 e812.2.2.2.2.2.1, .int .i64 e812.2.2.2.2.2.2.1, .int .i64 e812.2.2.2.2.2.2.2.1, .sl false 7 (List.map tySBinding.c e812.2.2.2.2.2.2.2.2)]]⟩)])
      (fun (e813 : Int × Int × Int × Bool × ByteArray × Int × Int × Int × (List SBinding)) => Ext.lit (.exit 0) [(6, .bool false), (9, .ptr 9 0 0)] [(9, ⟨9, true, [[.int .i64 e813.1, .int .i64 e813.2.1, .int .i64 e813.2.2.1, .bool e813.2.2.2.1, .str e813.2.2.2.2.1, .int .i64 e813.2.2.2.2.2.1, .int .i64 e813.2.2.2.2.2.2.1, .int .i64 e813.2.2.2.2.2.2.2.1, .sl false 7 (List.map tySBinding.c e813.2.2.2.2.2.2.2.2)]]⟩)])
      (fun e812 =>
        .done false)
      (fun e813 =>
        .call 23002 (s19 (SNat.mk e813.1 e813.2.1 e813.2.2.1 e813.2.2.2.1 e813.2.2.2.2.1 e813.2.2.2.2.2.1 e813.2.2.2.2.2.2.1 e813.2.2.2.2.2.2.2.1 e813.2.2.2.2.2.2.2.2)) [] [] fun r814 =>
        .done (r814 == 0))))))
theorem k7 (p0 : SDraft) (p1 : SMove1) (p2 : (List Int)) : FnD Tryd.prog GG [0, 1, 2, 3, 4, 6, 7, 8, 9, 10, 11, 13, 14, 15, 16, 17, 18, 19, 21, 42, 49, 50, 51, 52, 76, 110, 112] Tryd.f7 [.agg [.int .u8 p0.fMapping, .int .u8 p0.fFilter, .int .u8 p0.fPorts, .int .u16 p0.fTimeout, .bool p0.fHairpin, .sl false 4 (List.map tySMove.c p0.fMoves)], .agg [.int .u8 p1.fFrom, .int .u8 p1.fTo, .int .u16 p1.fAfter, .int .i64 p1.fNow, .str p1.fRawFrom.fHost, .int .i64 p1.fRawFrom.fPort, .str p1.fRawTo.fHost, .int .i64 p1.fRawTo.fPort], .sl false 1 (List.map ty_u8.c p2)] (g7 p0 p1 p2) (fun r => .bool r) := by unfold FnD; kernel_rfl
noncomputable def s7 (p0 : SDraft) (p1 : SMove1) (p2 : (List Int)) : EV.Spec Tryd.prog GG (Bool) := .ofFn 7 mixed Tryd.func7 (k7 p0 p1 p2)

end Go.Proofs.YtdiagiflihpidaaDoor
