/- Guides and contracts, printed by a program.
   Guides and contracts, printed by a program. -/
import Derived.Test.YtdiagiflihpidaaDoorK3
import Derived.KernelRfl

namespace Go.Proofs.YtdiagiflihpidaaDoor
open Go Go.EV
set_option maxRecDepth 100000

/-- tannoy tannoylaw13.addr -/
noncomputable def g33 (p0 : Int) (p1 : Int) (p2 : Int) (p3 : Int) (p4 : Int) : TT (SAddr) :=
  .done (SAddr.mk (strOfNums [p0, p1, p2, p3]) p4)
theorem k33 (p0 : Int) (p1 : Int) (p2 : Int) (p3 : Int) (p4 : Int) : FnD Tryd.prog GG [0, 1, 2, 3, 4, 10] Tryd.f33 [.int .u8 p0, .int .u8 p1, .int .u8 p2, .int .u8 p3, .int .i64 p4] (g33 p0 p1 p2 p3 p4) (fun r => .agg [.str r.fHost, .int .i64 r.fPort]) := by unfold FnD; kernel_rfl
noncomputable def s33 (p0 : Int) (p1 : Int) (p2 : Int) (p3 : Int) (p4 : Int) : EV.Spec Tryd.prog GG (SAddr) := .ofFn 33 mixed Tryd.func33 (k33 p0 p1 p2 p3 p4)

/-- tannoy tannoylaw13.sample -/
noncomputable def g34  : TT (SNat) :=
  .done (SNat.mk 1 3 1000 true (bs [192, 0, 2, 9]) 5000 5001 0 [])
theorem k34  : FnD Tryd.prog GG [0] Tryd.f34 [] (g34) (fun r => .agg [.int .i64 r.fMapping, .int .i64 r.fFilter, .int .i64 r.fTimeout, .bool r.fHairpin, .str r.fHost, .int .i64 r.fLow, .int .i64 r.fHigh, .int .i64 r.fNow, .sl false 7 (List.map tySBinding.c r.fTable)]) := by unfold FnD; kernel_rfl
noncomputable def s34  : EV.Spec Tryd.prog GG (SNat) := .ofFn 34 mixed Tryd.func34 (k34)

/-- tannoy tannoylaw13.wakes -/
noncomputable def g16  : TT (Bool) :=
  .call 1001 (s33 10 0 0 1 5000) [] [] fun r230 =>
  .call 1002 (s33 198 51 100 1 80) [] [] fun r231 =>
  .call 2001 s34 [] [] fun r232 =>
  .call 2004 (s25 r232 0 r230 r231) [] [] fun r233 =>
  .call 3004 (s27 r233.1 5 r231 r233.2.1) [] [] fun r234 =>
  .call 4002 (s33 198 51 100 1 81) [] [] fun r235 =>
  .call 4004 (s27 r233.1 5 r235 r233.2.1) [] [] fun r236 =>
  .call 5002 (s20 r233.1 1000) [] [] fun r237 =>
  .cnd 6 [0]
  (.br 6004 (r233.2.2 == 0)
    (.call 6005 (s33 192 0 2 9 5000) [] [] fun r238 =>
      .br 6009 ((decide (r233.2.1.fHost = r238.fHost)) && ((r233.2.1.fPort == r238.fPort) && true))
      (.br 6013 (r234.2.2 == 0)
        (.br 6018 ((decide (r234.2.1.fHost = r230.fHost)) && ((r234.2.1.fPort == r230.fPort) && true))
          (.br 6022 (r236.2.2 == 4)
            (.br 6026 (r237.2 == 0)
              (.br 6032 ((mlen tySBinding r237.1.fTable) == 0)
                (.br 6038 ((mlen tySBinding r233.1.fTable) == 1)
                  (.call 6039 (s19 r233.1) [] [] fun r239 =>
                    .br 6043 (r239 == 0)
                    (.call 6044 (s19 (SNat.mk 0 0 0 false ByteArray.empty 0 0 0 [])) [] [] fun r240 =>
                      .done (r240 == 130))
                    (.done false))
                  (.done false))
                (.done false))
              (.done false))
            (.done false))
          (.done false))
        (.done false))
      (.done false))
    (.done false))
  (fun (c241 : Bool) => [.bool c241]) fun c241 =>
  .done c241
theorem k16  : FnD Tryd.prog GG [0, 1, 2, 3, 4, 5, 7, 8, 11, 12, 13] Tryd.f16 [] (g16) (fun r => .bool r) := by unfold FnD; kernel_rfl
noncomputable def s16  : EV.Spec Tryd.prog GG (Bool) := .ofFn 16 mixed Tryd.func16 (k16)

/-- tannoy tannoyref13.copied -/
noncomputable def g57 (p0 : SBinding) : TT ((List SAddr)) :=
  .app 2004 tySAddr [] p0.fOpen 24 true (by intros; rfl) (.done ([] ++ p0.fOpen))
theorem k57 (p0 : SBinding) : FnB Tryd.prog GG [0, 1, 2, 3] Tryd.f57 [.agg [.str p0.fInside.fHost, .int .i64 p0.fInside.fPort, .str p0.fPeer.fHost, .int .i64 p0.fPeer.fPort, .int .i64 p0.fPort, .int .i64 p0.fUntil, .sl false 2 (List.map tySAddr.c p0.fOpen)]] (Ext.of .normal (argTs [.agg [.str p0.fInside.fHost, .int .i64 p0.fInside.fPort, .str p0.fPeer.fHost, .int .i64 p0.fPeer.fPort, .int .i64 p0.fPort, .int .i64 p0.fUntil, .sl false 2 (List.map tySAddr.c p0.fOpen)]]) [] [] (by rfl)) (g57 p0) (fun (r : (List SAddr)) => .agg [.str p0.fInside.fHost, .int .i64 p0.fInside.fPort, .str p0.fPeer.fHost, .int .i64 p0.fPeer.fPort, .int .i64 p0.fPort, .int .i64 p0.fUntil, .ref 7 0 r.length]) (fun (r : (List SAddr)) => Ext.of .normal [] [] [BT.of 7 tySAddr 2 r true] (by rfl)) := by unfold FnB; kernel_rfl
noncomputable def s57 (p0 : SBinding) : EV.Spec Tryd.prog GG ((List SAddr)) := .ofFnB 57 [7] mixed Tryd.func57 rfl (fun _ => rfl) (k57 p0)

/-- (tannoy tannoyref13.Bend).Of -/
noncomputable def g35 (p0 : SBend) (p1 : SNat) : TT (SNat) :=
  .gh 1 (.virt 600078 5 7) (.bind 0
  (.lp (fun (l258 : (List SBinding) × Int) => Ext.of .normal [(2, .ptr 2 0 0), (3, .ptr 3 0 0), (4, .ptr 4 0 0), (5, .ref 600078 0 l258.1.length), (6, .int .i64 l258.2)] [(2, ⟨6, true, [[.int .u8 p0.fWhat, .int .u8 p0.fAt, .int .i64 p0.fN, .str p0.fA.fHost, .int .i64 p0.fA.fPort, .str p0.fS]]⟩), (3, ⟨9, true, [[.int .i64 p1.fMapping, .int .i64 p1.fFilter, .int .i64 p1.fTimeout, .bool p1.fHairpin, .str p1.fHost, .int .i64 p1.fLow, .int .i64 p1.fHigh, .int .i64 p1.fNow, .sl false 7 (List.map tySBinding.c p1.fTable)]]⟩), (4, ⟨9, true, [[.int .i64 0, .int .i64 0, .int .i64 0, .bool false, .str ByteArray.empty, .int .i64 0, .int .i64 0, .int .i64 0, .nilsl]]⟩)] [BT.of 600078 tySBindingO6 7 l258.1 true] (by rfl))
    (fun l258 =>
      .br 0 (decide (l258.2 < (mlen tySBinding p1.fTable)))
      (.row 5005 tySBinding p1.fTable l258.2.toNat (decide (0 ≤ l258.2)) fun x259 =>
        .call 5007 (s57 x259) [] [(7, 500080)] fun r260 =>
        .appn 5009 tySBindingO6 l258.1 (SBinding.mk x259.fInside x259.fPeer x259.fPort x259.fUntil r260) 6 500080 tySAddr r260 88 (.gh 0 (.drop [600078]) (.gh 0 (.ren 23 600078) (.done (.inl ((l258.1 ++ [(SBinding.mk x259.fInside x259.fPeer x259.fPort x259.fUntil r260)]), (wi64 (l258.2 + 1))))))))
      (.done (.inr l258.1)))
    ([], 0))
  (fun (e261 : (List SBinding)) => Ext.of (.exit 0) [(2, .ptr 2 0 0), (3, .ptr 3 0 0), (4, .ptr 4 0 0), (5, .ref 600078 0 e261.length)] [(2, ⟨6, true, [[.int .u8 p0.fWhat, .int .u8 p0.fAt, .int .i64 p0.fN, .str p0.fA.fHost, .int .i64 p0.fA.fPort, .str p0.fS]]⟩), (3, ⟨9, true, [[.int .i64 p1.fMapping, .int .i64 p1.fFilter, .int .i64 p1.fTimeout, .bool p1.fHairpin, .str p1.fHost, .int .i64 p1.fLow, .int .i64 p1.fHigh, .int .i64 p1.fNow, .sl false 7 (List.map tySBinding.c p1.fTable)]]⟩), (4, ⟨9, true, [[.int .i64 0, .int .i64 0, .int .i64 0, .bool false, .str ByteArray.empty, .int .i64 0, .int .i64 0, .int .i64 0, .nilsl]]⟩)] [BT.of 600078 tySBindingO6 7 e261 true] (by rfl))
  (fun e261 =>
    .bind 0
    (.br 0 ((Int.tmod p0.fWhat 14) == 0)
      (.gh 0 (.ren 600078 600081) (.done (p0.fN, p1.fFilter, p1.fTimeout, p1.fHost, p1.fLow, p1.fHigh, p1.fNow, e261)))
      (.br 0 ((Int.tmod p0.fWhat 14) == 1)
        (.gh 0 (.ren 600078 600081) (.done (p1.fMapping, p0.fN, p1.fTimeout, p1.fHost, p1.fLow, p1.fHigh, p1.fNow, e261)))
        (.br 0 ((Int.tmod p0.fWhat 14) == 2)
          (.gh 0 (.ren 600078 600081) (.done (p1.fMapping, p1.fFilter, p0.fN, p1.fHost, p1.fLow, p1.fHigh, p1.fNow, e261)))
          (.br 0 ((Int.tmod p0.fWhat 14) == 3)
            (.gh 0 (.ren 600078 600081) (.done (p1.fMapping, p1.fFilter, p1.fTimeout, p0.fS, p1.fLow, p1.fHigh, p1.fNow, e261)))
            (.br 0 ((Int.tmod p0.fWhat 14) == 4)
              (.gh 0 (.ren 600078 600081) (.done (p1.fMapping, p1.fFilter, p1.fTimeout, p1.fHost, p0.fN, p1.fHigh, p1.fNow, e261)))
              (.br 0 ((Int.tmod p0.fWhat 14) == 5)
                (.gh 0 (.ren 600078 600081) (.done (p1.fMapping, p1.fFilter, p1.fTimeout, p1.fHost, p1.fLow, p0.fN, p1.fNow, e261)))
                (.br 0 ((Int.tmod p0.fWhat 14) == 6)
                  (.gh 0 (.ren 600078 600081) (.done (p1.fMapping, p1.fFilter, p1.fTimeout, p1.fHost, p1.fLow, p1.fHigh, p0.fN, e261)))
                  (.br 0 ((Int.tmod p0.fWhat 14) == 7)
                    (.app 23012 tySBindingO6 e261 [(SBinding.mk p0.fA (SAddr.mk ByteArray.empty 0) p0.fN (wi64 (p1.fNow + 1)) [])] 88 false (by intro h; cases h) (.gh 0 (.ren 77 600081) (.done (p1.fMapping, p1.fFilter, p1.fTimeout, p1.fHost, p1.fLow, p1.fHigh, p1.fNow, (e261 ++ [(SBinding.mk p0.fA (SAddr.mk ByteArray.empty 0) p0.fN (wi64 (p1.fNow + 1)) [])])))))
                    (.gh 0 (.ren 600078 600081) (.done (p1.fMapping, p1.fFilter, p1.fTimeout, p1.fHost, p1.fLow, p1.fHigh, p1.fNow, e261)))))))))))
    (fun (e262 : Int × Int × Int × ByteArray × Int × Int × Int × (List SBinding)) => Ext.of .normal [(2, .ptr 2 0 0), (3, .ptr 3 0 0), (4, .ptr 4 0 0)] [(2, ⟨6, true, [[.int .u8 p0.fWhat, .int .u8 p0.fAt, .int .i64 p0.fN, .str p0.fA.fHost, .int .i64 p0.fA.fPort, .str p0.fS]]⟩), (3, ⟨9, true, [[.int .i64 e262.1, .int .i64 e262.2.1, .int .i64 e262.2.2.1, .bool p1.fHairpin, .str e262.2.2.2.1, .int .i64 e262.2.2.2.2.1, .int .i64 e262.2.2.2.2.2.1, .int .i64 e262.2.2.2.2.2.2.1, .ref 600081 0 e262.2.2.2.2.2.2.2.length]]⟩), (4, ⟨9, true, [[.int .i64 0, .int .i64 0, .int .i64 0, .bool false, .str ByteArray.empty, .int .i64 0, .int .i64 0, .int .i64 0, .nilsl]]⟩)] [BT.of 600081 tySBindingO6 7 e262.2.2.2.2.2.2.2 true] (by rfl))
    (fun e262 =>
      .br 0 ((e262.2.2.2.2.2.2.2.length : Int) == 0)
      (.gh 0 (.share [⟨600081, _, tySBindingO6, e262.2.2.2.2.2.2.2⟩, ⟨600081, _, tySBindingO6, e262.2.2.2.2.2.2.2⟩]) (.done (SNat.mk e262.1 e262.2.1 e262.2.2.1 p1.fHairpin e262.2.2.2.1 e262.2.2.2.2.1 e262.2.2.2.2.2.1 e262.2.2.2.2.2.2.1 e262.2.2.2.2.2.2.2)))
      (.chk 26009 (!((e262.2.2.2.2.2.2.2.length : Int) == 0)) (.chk 26010 (decide (0 ≤ (Int.tmod (wi64 p0.fAt) (e262.2.2.2.2.2.2.2.length : Int))) && decide ((Int.tmod (wi64 p0.fAt) (e262.2.2.2.2.2.2.2.length : Int)) < (e262.2.2.2.2.2.2.2.length : Int))) (.br 0 ((Int.tmod p0.fWhat 14) == 8)
        (.row 29006 tySBindingO6 e262.2.2.2.2.2.2.2 (0 + (Int.tmod (wi64 p0.fAt) (e262.2.2.2.2.2.2.2.length : Int)).toNat) true fun x263 =>
          .re 29006 (ReW.put 600081 7 tySBindingO6 e262.2.2.2.2.2.2.2 (0 + (Int.tmod (wi64 p0.fAt) (e262.2.2.2.2.2.2.2.length : Int)).toNat) (SBinding.mk p0.fA x263.fPeer x263.fPort x263.fUntil x263.fOpen)) (.gh 42 (.len 600081 ((e262.2.2.2.2.2.2.2.set (0 + (Int.tmod (wi64 p0.fAt) (e262.2.2.2.2.2.2.2.length : Int)).toNat) (SBinding.mk p0.fA x263.fPeer x263.fPort x263.fUntil x263.fOpen)).length) [e262.2.2.2.2.2.2.2.length] (by simp)) (.gh 0 (.share [⟨600081, _, tySBindingO6, (e262.2.2.2.2.2.2.2.set (0 + (Int.tmod (wi64 p0.fAt) (e262.2.2.2.2.2.2.2.length : Int)).toNat) (SBinding.mk p0.fA x263.fPeer x263.fPort x263.fUntil x263.fOpen))⟩, ⟨600081, _, tySBindingO6, (e262.2.2.2.2.2.2.2.set (0 + (Int.tmod (wi64 p0.fAt) (e262.2.2.2.2.2.2.2.length : Int)).toNat) (SBinding.mk p0.fA x263.fPeer x263.fPort x263.fUntil x263.fOpen))⟩]) (.done (SNat.mk e262.1 e262.2.1 e262.2.2.1 p1.fHairpin e262.2.2.2.1 e262.2.2.2.2.1 e262.2.2.2.2.2.1 e262.2.2.2.2.2.2.1 (e262.2.2.2.2.2.2.2.set (0 + (Int.tmod (wi64 p0.fAt) (e262.2.2.2.2.2.2.2.length : Int)).toNat) (SBinding.mk p0.fA x263.fPeer x263.fPort x263.fUntil x263.fOpen)))))))
        (.br 0 ((Int.tmod p0.fWhat 14) == 9)
          (.row 31006 tySBindingO6 e262.2.2.2.2.2.2.2 (0 + (Int.tmod (wi64 p0.fAt) (e262.2.2.2.2.2.2.2.length : Int)).toNat) true fun x264 =>
            .re 31006 (ReW.put 600081 7 tySBindingO6 e262.2.2.2.2.2.2.2 (0 + (Int.tmod (wi64 p0.fAt) (e262.2.2.2.2.2.2.2.length : Int)).toNat) (SBinding.mk x264.fInside p0.fA x264.fPort x264.fUntil x264.fOpen)) (.gh 42 (.len 600081 ((e262.2.2.2.2.2.2.2.set (0 + (Int.tmod (wi64 p0.fAt) (e262.2.2.2.2.2.2.2.length : Int)).toNat) (SBinding.mk x264.fInside p0.fA x264.fPort x264.fUntil x264.fOpen)).length) [e262.2.2.2.2.2.2.2.length] (by simp)) (.gh 0 (.share [⟨600081, _, tySBindingO6, (e262.2.2.2.2.2.2.2.set (0 + (Int.tmod (wi64 p0.fAt) (e262.2.2.2.2.2.2.2.length : Int)).toNat) (SBinding.mk x264.fInside p0.fA x264.fPort x264.fUntil x264.fOpen))⟩, ⟨600081, _, tySBindingO6, (e262.2.2.2.2.2.2.2.set (0 + (Int.tmod (wi64 p0.fAt) (e262.2.2.2.2.2.2.2.length : Int)).toNat) (SBinding.mk x264.fInside p0.fA x264.fPort x264.fUntil x264.fOpen))⟩]) (.done (SNat.mk e262.1 e262.2.1 e262.2.2.1 p1.fHairpin e262.2.2.2.1 e262.2.2.2.2.1 e262.2.2.2.2.2.1 e262.2.2.2.2.2.2.1 (e262.2.2.2.2.2.2.2.set (0 + (Int.tmod (wi64 p0.fAt) (e262.2.2.2.2.2.2.2.length : Int)).toNat) (SBinding.mk x264.fInside p0.fA x264.fPort x264.fUntil x264.fOpen)))))))
          (.br 0 ((Int.tmod p0.fWhat 14) == 10)
            (.row 33006 tySBindingO6 e262.2.2.2.2.2.2.2 (0 + (Int.tmod (wi64 p0.fAt) (e262.2.2.2.2.2.2.2.length : Int)).toNat) true fun x265 =>
              .re 33006 (ReW.put 600081 7 tySBindingO6 e262.2.2.2.2.2.2.2 (0 + (Int.tmod (wi64 p0.fAt) (e262.2.2.2.2.2.2.2.length : Int)).toNat) (SBinding.mk x265.fInside x265.fPeer p0.fN x265.fUntil x265.fOpen)) (.gh 42 (.len 600081 ((e262.2.2.2.2.2.2.2.set (0 + (Int.tmod (wi64 p0.fAt) (e262.2.2.2.2.2.2.2.length : Int)).toNat) (SBinding.mk x265.fInside x265.fPeer p0.fN x265.fUntil x265.fOpen)).length) [e262.2.2.2.2.2.2.2.length] (by simp)) (.gh 0 (.share [⟨600081, _, tySBindingO6, (e262.2.2.2.2.2.2.2.set (0 + (Int.tmod (wi64 p0.fAt) (e262.2.2.2.2.2.2.2.length : Int)).toNat) (SBinding.mk x265.fInside x265.fPeer p0.fN x265.fUntil x265.fOpen))⟩, ⟨600081, _, tySBindingO6, (e262.2.2.2.2.2.2.2.set (0 + (Int.tmod (wi64 p0.fAt) (e262.2.2.2.2.2.2.2.length : Int)).toNat) (SBinding.mk x265.fInside x265.fPeer p0.fN x265.fUntil x265.fOpen))⟩]) (.done (SNat.mk e262.1 e262.2.1 e262.2.2.1 p1.fHairpin e262.2.2.2.1 e262.2.2.2.2.1 e262.2.2.2.2.2.1 e262.2.2.2.2.2.2.1 (e262.2.2.2.2.2.2.2.set (0 + (Int.tmod (wi64 p0.fAt) (e262.2.2.2.2.2.2.2.length : Int)).toNat) (SBinding.mk x265.fInside x265.fPeer p0.fN x265.fUntil x265.fOpen)))))))
            (.br 0 ((Int.tmod p0.fWhat 14) == 11)
              (.row 35006 tySBindingO6 e262.2.2.2.2.2.2.2 (0 + (Int.tmod (wi64 p0.fAt) (e262.2.2.2.2.2.2.2.length : Int)).toNat) true fun x266 =>
                .re 35006 (ReW.put 600081 7 tySBindingO6 e262.2.2.2.2.2.2.2 (0 + (Int.tmod (wi64 p0.fAt) (e262.2.2.2.2.2.2.2.length : Int)).toNat) (SBinding.mk x266.fInside x266.fPeer x266.fPort p0.fN x266.fOpen)) (.gh 42 (.len 600081 ((e262.2.2.2.2.2.2.2.set (0 + (Int.tmod (wi64 p0.fAt) (e262.2.2.2.2.2.2.2.length : Int)).toNat) (SBinding.mk x266.fInside x266.fPeer x266.fPort p0.fN x266.fOpen)).length) [e262.2.2.2.2.2.2.2.length] (by simp)) (.gh 0 (.share [⟨600081, _, tySBindingO6, (e262.2.2.2.2.2.2.2.set (0 + (Int.tmod (wi64 p0.fAt) (e262.2.2.2.2.2.2.2.length : Int)).toNat) (SBinding.mk x266.fInside x266.fPeer x266.fPort p0.fN x266.fOpen))⟩, ⟨600081, _, tySBindingO6, (e262.2.2.2.2.2.2.2.set (0 + (Int.tmod (wi64 p0.fAt) (e262.2.2.2.2.2.2.2.length : Int)).toNat) (SBinding.mk x266.fInside x266.fPeer x266.fPort p0.fN x266.fOpen))⟩]) (.done (SNat.mk e262.1 e262.2.1 e262.2.2.1 p1.fHairpin e262.2.2.2.1 e262.2.2.2.2.1 e262.2.2.2.2.2.1 e262.2.2.2.2.2.2.1 (e262.2.2.2.2.2.2.2.set (0 + (Int.tmod (wi64 p0.fAt) (e262.2.2.2.2.2.2.2.length : Int)).toNat) (SBinding.mk x266.fInside x266.fPeer x266.fPort p0.fN x266.fOpen)))))))
              (.br 0 ((Int.tmod p0.fWhat 14) == 12)
                (.rowt 37005 tySBindingO6 e262.2.2.2.2.2.2.2 (0 + (Int.tmod (wi64 p0.fAt) (e262.2.2.2.2.2.2.2.length : Int)).toNat) 6 fun x267 =>
                  .re 37005 (ReW.take 600081 7 true tySBindingO6 e262.2.2.2.2.2.2.2 (0 + (Int.tmod (wi64 p0.fAt) (e262.2.2.2.2.2.2.2.length : Int)).toNat) [.str x267.fInside.fHost, .int .i64 x267.fInside.fPort, .str x267.fPeer.fHost, .int .i64 x267.fPeer.fPort, .int .i64 x267.fPort, .int .i64 x267.fUntil, .sl false 2 (List.map tySAddr.c x267.fOpen)] rfl 131 2 tySAddr x267.fOpen (fun _ => rfl) (fun n => .ref 131 0 n)) (.app 37009 tySAddr x267.fOpen [p0.fA] 24 false (by intro h; cases h) (.nst 37012 tySBindingO6 e262.2.2.2.2.2.2.2 [.str x267.fInside.fHost, .int .i64 x267.fInside.fPort, .str x267.fPeer.fHost, .int .i64 x267.fPeer.fPort, .int .i64 x267.fPort, .int .i64 x267.fUntil, .sl false 2 (List.map tySAddr.c x267.fOpen)] (0 + (Int.tmod (wi64 p0.fAt) (e262.2.2.2.2.2.2.2.length : Int)).toNat) 6 (SBinding.mk x267.fInside x267.fPeer x267.fPort x267.fUntil (x267.fOpen ++ [p0.fA])) tySAddr (x267.fOpen ++ [p0.fA]) none (.gh 42 (.len 600081 ((e262.2.2.2.2.2.2.2.set (0 + (Int.tmod (wi64 p0.fAt) (e262.2.2.2.2.2.2.2.length : Int)).toNat) (SBinding.mk x267.fInside x267.fPeer x267.fPort x267.fUntil (x267.fOpen ++ [p0.fA]))).length) [e262.2.2.2.2.2.2.2.length] (by simp)) (.gh 0 (.share [⟨600081, _, tySBindingO6, (e262.2.2.2.2.2.2.2.set (0 + (Int.tmod (wi64 p0.fAt) (e262.2.2.2.2.2.2.2.length : Int)).toNat) (SBinding.mk x267.fInside x267.fPeer x267.fPort x267.fUntil (x267.fOpen ++ [p0.fA])))⟩, ⟨600081, _, tySBindingO6, (e262.2.2.2.2.2.2.2.set (0 + (Int.tmod (wi64 p0.fAt) (e262.2.2.2.2.2.2.2.length : Int)).toNat) (SBinding.mk x267.fInside x267.fPeer x267.fPort x267.fUntil (x267.fOpen ++ [p0.fA])))⟩]) (.done (SNat.mk e262.1 e262.2.1 e262.2.2.1 p1.fHairpin e262.2.2.2.1 e262.2.2.2.2.1 e262.2.2.2.2.2.1 e262.2.2.2.2.2.2.1 (e262.2.2.2.2.2.2.2.set (0 + (Int.tmod (wi64 p0.fAt) (e262.2.2.2.2.2.2.2.length : Int)).toNat) (SBinding.mk x267.fInside x267.fPeer x267.fPort x267.fUntil (x267.fOpen ++ [p0.fA]))))))))))
                (.br 0 ((Int.tmod p0.fWhat 14) == 13)
                  (.row 39004 tySBindingO6 e262.2.2.2.2.2.2.2 (0 + (Int.tmod (wi64 p0.fAt) (e262.2.2.2.2.2.2.2.length : Int)).toNat) true fun x268 =>
                    .re 39004 (ReW.put 600081 7 tySBindingO6 e262.2.2.2.2.2.2.2 (0 + (Int.tmod (wi64 p0.fAt) (e262.2.2.2.2.2.2.2.length : Int)).toNat) (SBinding.mk x268.fInside x268.fPeer x268.fPort x268.fUntil [])) (.gh 42 (.len 600081 ((e262.2.2.2.2.2.2.2.set (0 + (Int.tmod (wi64 p0.fAt) (e262.2.2.2.2.2.2.2.length : Int)).toNat) (SBinding.mk x268.fInside x268.fPeer x268.fPort x268.fUntil [])).length) [e262.2.2.2.2.2.2.2.length] (by simp)) (.gh 0 (.share [⟨600081, _, tySBindingO6, (e262.2.2.2.2.2.2.2.set (0 + (Int.tmod (wi64 p0.fAt) (e262.2.2.2.2.2.2.2.length : Int)).toNat) (SBinding.mk x268.fInside x268.fPeer x268.fPort x268.fUntil []))⟩, ⟨600081, _, tySBindingO6, (e262.2.2.2.2.2.2.2.set (0 + (Int.tmod (wi64 p0.fAt) (e262.2.2.2.2.2.2.2.length : Int)).toNat) (SBinding.mk x268.fInside x268.fPeer x268.fPort x268.fUntil []))⟩]) (.done (SNat.mk e262.1 e262.2.1 e262.2.2.1 p1.fHairpin e262.2.2.2.1 e262.2.2.2.2.1 e262.2.2.2.2.2.1 e262.2.2.2.2.2.2.1 (e262.2.2.2.2.2.2.2.set (0 + (Int.tmod (wi64 p0.fAt) (e262.2.2.2.2.2.2.2.length : Int)).toNat) (SBinding.mk x268.fInside x268.fPeer x268.fPort x268.fUntil [])))))))
                  (.gh 0 (.share [⟨600081, _, tySBindingO6, e262.2.2.2.2.2.2.2⟩, ⟨600081, _, tySBindingO6, e262.2.2.2.2.2.2.2⟩]) (.done (SNat.mk e262.1 e262.2.1 e262.2.2.1 p1.fHairpin e262.2.2.2.1 e262.2.2.2.2.1 e262.2.2.2.2.2.1 e262.2.2.2.2.2.2.1 e262.2.2.2.2.2.2.2))))))))))))))
theorem k35 (p0 : SBend) (p1 : SNat) : FnD Tryd.prog GG [0, 1, 2, 3, 4, 5, 6, 7, 12, 28, 29, 34, 39, 44, 49, 54, 59, 64, 82, 96, 97, 104, 111, 118, 125, 138] Tryd.f35 [.agg [.int .u8 p0.fWhat, .int .u8 p0.fAt, .int .i64 p0.fN, .str p0.fA.fHost, .int .i64 p0.fA.fPort, .str p0.fS], .agg [.int .i64 p1.fMapping, .int .i64 p1.fFilter, .int .i64 p1.fTimeout, .bool p1.fHairpin, .str p1.fHost, .int .i64 p1.fLow, .int .i64 p1.fHigh, .int .i64 p1.fNow, .sl false 7 (List.map tySBinding.c p1.fTable)]] (g35 p0 p1) (fun r => .agg [.int .i64 r.fMapping, .int .i64 r.fFilter, .int .i64 r.fTimeout, .bool r.fHairpin, .str r.fHost, .int .i64 r.fLow, .int .i64 r.fHigh, .int .i64 r.fNow, .sl false 7 (List.map tySBinding.c r.fTable)]) := by unfold FnD; kernel_rfl
noncomputable def s35 (p0 : SBend) (p1 : SNat) : EV.Spec Tryd.prog GG (SNat) := .ofFn 35 mixed Tryd.func35 (k35 p0 p1)

/-- slices.Equal   tannoy api.Addr tannoy api.Addr  -/
noncomputable def g36 (p0 : (List SAddr)) (p1 : (List SAddr)) : TT (Bool) :=
  .br 0 ((mlen tySAddr p0) != (mlen tySAddr p1))
  (.done false)
  (.bind2 1
    (.lp (fun (l272 : Int) => Ext.lit .normal [(0, .sl false 2 (List.map tySAddr.c p0)), (1, .sl false 2 (List.map tySAddr.c p1)), (4, .bool false), (12, .int .i64 (mlen tySAddr p0)), (13, .int .i64 l272)] [])
      (fun l272 =>
        .br 0 (decide (l272 < (mlen tySAddr p0)))
        (.row 6003 tySAddr p0 l272.toNat (decide (0 ≤ l272)) fun x273 =>
          .row 6007 tySAddr p1 l272.toNat (decide (0 ≤ l272)) fun x274 =>
          .br 0 (!((decide (x273.fHost = x274.fHost)) && ((x273.fPort == x274.fPort) && true)))
          (.done (.inr (.inl ())))
          (.done (.inl (wi64 (l272 + 1)))))
        (.done (.inr (.inr ()))))
      0)
    (fun (e275 : Unit) => Ext.lit .ret [(4, .bool false)] [])
    (fun (e276 : Unit) => Ext.lit (.exit 0) [(4, .bool false)] [])
    (fun e275 =>
      .done false)
    (fun e276 =>
      .done true))
theorem k36 (p0 : (List SAddr)) (p1 : (List SAddr)) : FnD Tryd.prog GG [0, 1, 4, 5, 10, 12, 13, 14, 24] Tryd.f36 [.sl false 2 (List.map tySAddr.c p0), .sl false 2 (List.map tySAddr.c p1)] (g36 p0 p1) (fun r => .bool r) := by unfold FnD; kernel_rfl
noncomputable def s36 (p0 : (List SAddr)) (p1 : (List SAddr)) : EV.Spec Tryd.prog GG (Bool) := .ofFn 36 mixed Tryd.func36 (k36 p0 p1)

end Go.Proofs.YtdiagiflihpidaaDoor

namespace Go.Proofs.YtdiagiflihpidaaDoor
open Go Go.EV
set_option maxRecDepth 100000

/-- tannoy tannoylaw13.NatKnown -/
noncomputable def g10  : TT (Bool) :=
  .call 1001 s16 [] [] fun r277 =>
  .br 0 (!r277)
  (.done false)
  (.call 3001 (s33 10 0 0 1 5000) [] [] fun r278 =>
    .call 3002 (s33 10 0 0 2 5000) [] [] fun r279 =>
    .call 3003 (s33 198 51 100 1 80) [] [] fun r280 =>
    .call 3004 (s33 198 51 100 1 81) [] [] fun r281 =>
    .call 4001 (s33 192 0 2 9 5000) [] [] fun r282 =>
    .call 5001 s34 [] [] fun r283 =>
    .call 5004 (s25 r283 0 r278 r280) [] [] fun r284 =>
    .call 6004 (s25 r284.1 10 r279 r280) [] [] fun r285 =>
    .call 7002 (s33 10 0 0 3 1) [] [] fun r286 =>
    .call 7004 (s25 r285.1 10 r286 r280) [] [] fun r287 =>
    .call 8004 (s27 r284.1 1000 r280 r282) [] [] fun r288 =>
    .call 9004 (s25 r284.1 10 r278 r281) [] [] fun r289 =>
    .call 10004 (s31 r284.1 20 r279 r282) [] [] fun r290 =>
    .call 11001 s34 [] [] fun r291 =>
    .call 11003 (s33 192 0 2 9 5001) [] [] fun r292 =>
    .call 11004 (s25 r291 0 r278 r292) [] [] fun r293 =>
    .call 12002 (s33 10 0 0 2 5001) [] [] fun r294 =>
    .call 12004 (s31 r293.1 20 r294 r282) [] [] fun r295 =>
    .call 13001 s34 [] [] fun r296 =>
    .call 13002 (s33 192 0 2 9 1) [] [] fun r297 =>
    .call 13004 (s25 r296 0 r297 r280) [] [] fun r298 =>
    .call 14001 s34 [] [] fun r299 =>
    .call 14004 (s25 r299 (-1) r278 r280) [] [] fun r300 =>
    .call 15003 (s33 192 0 2 8 5000) [] [] fun r301 =>
    .call 15004 (s27 r284.1 5 r280 r301) [] [] fun r302 =>
    .call 16001 s34 [] [] fun r303 =>
    .call 16006 (s25 r303 0 r278 (SAddr.mk r280.fHost 0)) [] [] fun r304 =>
    .call 17001 s34 [] [] fun r305 =>
    .chk 17007 (decide (r280.fHost.size + r280.fHost.size ≤ 9223372036854775807)) (.chk 17010 (decide ((r280.fHost ++ r280.fHost).size + r280.fHost.size ≤ 9223372036854775807)) (.chk 17013 (decide (((r280.fHost ++ r280.fHost) ++ r280.fHost).size + r280.fHost.size ≤ 9223372036854775807)) (.call 17015 (s25 r305 0 r278 (SAddr.mk (((r280.fHost ++ r280.fHost) ++ r280.fHost) ++ r280.fHost) 1)) [] [] fun r306 =>
    .call 18001 s34 [] [] fun r307 =>
    .call 18002 (s20 r307 1099511627777) [] [] fun r308 =>
    .call 19001 s34 [] [] fun r309 =>
    .call 21004 (s31 (SNat.mk r309.fMapping r309.fFilter r309.fTimeout false r309.fHost r309.fLow r309.fHigh r309.fNow r309.fTable) 0 r282 r282) [] [] fun r310 =>
    .tt (.call 25003 (s35 (SBend.mk 0 0 0 (SAddr.mk ByteArray.empty 0) ByteArray.empty) r284.1) [] [] fun r311 =>
    .call 25004 (s19 r311) [] [] fun r312 =>
    .br 0 (r312 != 130)
    (.done false)
    (.tt (.gh 26 (.drop [55]) (.call 25003 (s35 (SBend.mk 0 0 4 (SAddr.mk ByteArray.empty 0) ByteArray.empty) r284.1) [] [] fun r313 =>
      .call 25004 (s19 r313) [] [] fun r314 =>
      .br 0 (r314 != 130)
      (.done false)
      (.tt (.gh 26 (.drop [55]) (.call 25003 (s35 (SBend.mk 1 0 4 (SAddr.mk ByteArray.empty 0) ByteArray.empty) r284.1) [] [] fun r315 =>
        .call 25004 (s19 r315) [] [] fun r316 =>
        .br 0 (r316 != 130)
        (.done false)
        (.tt (.gh 26 (.drop [55]) (.call 25003 (s35 (SBend.mk 2 0 0 (SAddr.mk ByteArray.empty 0) ByteArray.empty) r284.1) [] [] fun r317 =>
          .call 25004 (s19 r317) [] [] fun r318 =>
          .br 0 (r318 != 130)
          (.done false)
          (.tt (.gh 26 (.drop [55]) (.call 25003 (s35 (SBend.mk 2 0 3600001 (SAddr.mk ByteArray.empty 0) ByteArray.empty) r284.1) [] [] fun r319 =>
            .call 25004 (s19 r319) [] [] fun r320 =>
            .br 0 (r320 != 130)
            (.done false)
            (.tt (.gh 26 (.drop [55]) (.call 25003 (s35 (SBend.mk 3 0 0 (SAddr.mk ByteArray.empty 0) (bs [97, 98, 99])) r284.1) [] [] fun r321 =>
              .call 25004 (s19 r321) [] [] fun r322 =>
              .br 0 (r322 != 130)
              (.done false)
              (.tt (.gh 26 (.drop [55]) (.call 25003 (s35 (SBend.mk 3 0 0 (SAddr.mk ByteArray.empty 0) r278.fHost) r284.1) [] [] fun r323 =>
                .call 25004 (s19 r323) [] [] fun r324 =>
                .br 0 (r324 != 130)
                (.done false)
                (.tt (.gh 26 (.drop [55]) (.call 25003 (s35 (SBend.mk 4 0 0 (SAddr.mk ByteArray.empty 0) ByteArray.empty) r284.1) [] [] fun r325 =>
                  .call 25004 (s19 r325) [] [] fun r326 =>
                  .br 0 (r326 != 130)
                  (.done false)
                  (.tt (.gh 26 (.drop [55]) (.call 25003 (s35 (SBend.mk 4 0 5002 (SAddr.mk ByteArray.empty 0) ByteArray.empty) r284.1) [] [] fun r327 =>
                    .call 25004 (s19 r327) [] [] fun r328 =>
                    .br 0 (r328 != 130)
                    (.done false)
                    (.tt (.gh 26 (.drop [55]) (.call 25003 (s35 (SBend.mk 5 0 5064 (SAddr.mk ByteArray.empty 0) ByteArray.empty) r284.1) [] [] fun r329 =>
                      .call 25004 (s19 r329) [] [] fun r330 =>
                      .br 0 (r330 != 130)
                      (.done false)
                      (.tt (.gh 26 (.drop [55]) (.call 25003 (s35 (SBend.mk 5 0 65536 (SAddr.mk ByteArray.empty 0) ByteArray.empty) r284.1) [] [] fun r331 =>
                        .call 25004 (s19 r331) [] [] fun r332 =>
                        .br 0 (r332 != 130)
                        (.done false)
                        (.tt (.gh 26 (.drop [55]) (.call 25003 (s35 (SBend.mk 6 0 1000 (SAddr.mk ByteArray.empty 0) ByteArray.empty) r284.1) [] [] fun r333 =>
                          .call 25004 (s19 r333) [] [] fun r334 =>
                          .br 0 (r334 != 130)
                          (.done false)
                          (.tt (.gh 26 (.drop [55]) (.call 25003 (s35 (SBend.mk 6 0 (-1) (SAddr.mk ByteArray.empty 0) ByteArray.empty) r284.1) [] [] fun r335 =>
                            .call 25004 (s19 r335) [] [] fun r336 =>
                            .br 0 (r336 != 130)
                            (.done false)
                            (.tt (.gh 26 (.drop [55]) (.call 25003 (s35 (SBend.mk 8 0 0 r282 ByteArray.empty) r284.1) [] [] fun r337 =>
                              .call 25004 (s19 r337) [] [] fun r338 =>
                              .br 0 (r338 != 130)
                              (.done false)
                              (.tt (.gh 26 (.drop [55]) (.call 25003 (s35 (SBend.mk 9 0 0 r280 ByteArray.empty) r284.1) [] [] fun r339 =>
                                .call 25004 (s19 r339) [] [] fun r340 =>
                                .br 0 (r340 != 130)
                                (.done false)
                                (.tt (.gh 26 (.drop [55]) (.call 25003 (s35 (SBend.mk 10 0 5002 (SAddr.mk ByteArray.empty 0) ByteArray.empty) r284.1) [] [] fun r341 =>
                                  .call 25004 (s19 r341) [] [] fun r342 =>
                                  .br 0 (r342 != 130)
                                  (.done false)
                                  (.tt (.gh 26 (.drop [55]) (.call 25003 (s35 (SBend.mk 11 0 1001 (SAddr.mk ByteArray.empty 0) ByteArray.empty) r284.1) [] [] fun r343 =>
                                    .call 25004 (s19 r343) [] [] fun r344 =>
                                    .br 0 (r344 != 130)
                                    (.done false)
                                    (.tt (.gh 26 (.drop [55]) (.call 25003 (s35 (SBend.mk 11 0 0 (SAddr.mk ByteArray.empty 0) ByteArray.empty) r284.1) [] [] fun r345 =>
                                      .call 25004 (s19 r345) [] [] fun r346 =>
                                      .br 0 (r346 != 130)
                                      (.done false)
                                      (.tt (.gh 26 (.drop [55]) (.call 25003 (s35 (SBend.mk 12 0 0 r280 ByteArray.empty) r284.1) [] [] fun r347 =>
                                        .call 25004 (s19 r347) [] [] fun r348 =>
                                        .br 0 (r348 != 130)
                                        (.done false)
                                        (.tt (.gh 26 (.drop [55]) (.call 25003 (s35 (SBend.mk 13 0 0 (SAddr.mk ByteArray.empty 0) ByteArray.empty) r284.1) [] [] fun r349 =>
                                          .call 25004 (s19 r349) [] [] fun r350 =>
                                          .br 0 (r350 != 130)
                                          (.done false)
                                          (.ff (.call 28001 s34 [] [] fun r351 =>
                                            .tt (.call 33004 (s33 198 51 100 1 1) [] [] fun r352 =>
                                            .call 33005 (s25 r351 0 r278 r352) [] [] fun r353 =>
                                            .br 0 (r353.2.2 != 0)
                                            (.done false)
                                            (.tt (.call 33004 (s33 198 51 100 1 2) [] [] fun r354 =>
                                              .call 33005 (s25 r353.1 0 r278 r354) [] [] fun r355 =>
                                              .br 0 (r355.2.2 != 0)
                                              (.done false)
                                              (.tt (.call 33004 (s33 198 51 100 1 3) [] [] fun r356 =>
                                                .call 33005 (s25 r355.1 0 r278 r356) [] [] fun r357 =>
                                                .br 0 (r357.2.2 != 0)
                                                (.done false)
                                                (.tt (.call 33004 (s33 198 51 100 1 4) [] [] fun r358 =>
                                                  .call 33005 (s25 r357.1 0 r278 r358) [] [] fun r359 =>
                                                  .br 0 (r359.2.2 != 0)
                                                  (.done false)
                                                  (.tt (.call 33004 (s33 198 51 100 1 5) [] [] fun r360 =>
                                                    .call 33005 (s25 r359.1 0 r278 r360) [] [] fun r361 =>
                                                    .br 0 (r361.2.2 != 0)
                                                    (.done false)
                                                    (.tt (.call 33004 (s33 198 51 100 1 6) [] [] fun r362 =>
                                                      .call 33005 (s25 r361.1 0 r278 r362) [] [] fun r363 =>
                                                      .br 0 (r363.2.2 != 0)
                                                      (.done false)
                                                      (.tt (.call 33004 (s33 198 51 100 1 7) [] [] fun r364 =>
                                                        .call 33005 (s25 r363.1 0 r278 r364) [] [] fun r365 =>
                                                        .br 0 (r365.2.2 != 0)
                                                        (.done false)
                                                        (.tt (.call 33004 (s33 198 51 100 1 8) [] [] fun r366 =>
                                                          .call 33005 (s25 r365.1 0 r278 r366) [] [] fun r367 =>
                                                          .br 0 (r367.2.2 != 0)
                                                          (.done false)
                                                          (.tt (.call 33004 (s33 198 51 100 1 9) [] [] fun r368 =>
                                                            .call 33005 (s25 r367.1 0 r278 r368) [] [] fun r369 =>
                                                            .br 0 (r369.2.2 != 0)
                                                            (.done false)
                                                            (.tt (.call 33004 (s33 198 51 100 1 10) [] [] fun r370 =>
                                                              .call 33005 (s25 r369.1 0 r278 r370) [] [] fun r371 =>
                                                              .br 0 (r371.2.2 != 0)
                                                              (.done false)
                                                              (.tt (.call 33004 (s33 198 51 100 1 11) [] [] fun r372 =>
                                                                .call 33005 (s25 r371.1 0 r278 r372) [] [] fun r373 =>
                                                                .br 0 (r373.2.2 != 0)
                                                                (.done false)
                                                                (.tt (.call 33004 (s33 198 51 100 1 12) [] [] fun r374 =>
                                                                  .call 33005 (s25 r373.1 0 r278 r374) [] [] fun r375 =>
                                                                  .br 0 (r375.2.2 != 0)
                                                                  (.done false)
                                                                  (.tt (.call 33004 (s33 198 51 100 1 13) [] [] fun r376 =>
                                                                    .call 33005 (s25 r375.1 0 r278 r376) [] [] fun r377 =>
                                                                    .br 0 (r377.2.2 != 0)
                                                                    (.done false)
                                                                    (.tt (.call 33004 (s33 198 51 100 1 14) [] [] fun r378 =>
                                                                      .call 33005 (s25 r377.1 0 r278 r378) [] [] fun r379 =>
                                                                      .br 0 (r379.2.2 != 0)
                                                                      (.done false)
                                                                      (.tt (.call 33004 (s33 198 51 100 1 15) [] [] fun r380 =>
                                                                        .call 33005 (s25 r379.1 0 r278 r380) [] [] fun r381 =>
                                                                        .br 0 (r381.2.2 != 0)
                                                                        (.done false)
                                                                        (.tt (.call 33004 (s33 198 51 100 1 16) [] [] fun r382 =>
                                                                          .call 33005 (s25 r381.1 0 r278 r382) [] [] fun r383 =>
                                                                          .br 0 (r383.2.2 != 0)
                                                                          (.done false)
                                                                          (.tt (.call 33004 (s33 198 51 100 1 17) [] [] fun r384 =>
                                                                            .call 33005 (s25 r383.1 0 r278 r384) [] [] fun r385 =>
                                                                            .br 0 (r385.2.2 != 0)
                                                                            (.done false)
                                                                            (.ff (.call 36002 (s33 198 51 100 1 1) [] [] fun r386 =>
                                                                              .call 36004 (s27 r385.1 0 r386 r282) [] [] fun r387 =>
                                                                              .call 37002 (s33 198 51 100 1 2) [] [] fun r388 =>
                                                                              .call 37004 (s27 r385.1 0 r388 r282) [] [] fun r389 =>
                                                                              .cnd 38 [65]
                                                                              (.br 38004 (r287.2.2 == 4)
                                                                                (.br 38008 (r288.2.2 == 4)
                                                                                  (.br 38012 (r290.2.2.2 == 4)
                                                                                    (.br 38016 (r298.2.2 == 2)
                                                                                      (.br 38020 (r300.2.2 == 2)
                                                                                        (.br 38024 (r302.2.2 == 2)
                                                                                          (.br 38028 (r304.2.2 == 2)
                                                                                            (.br 38032 (r306.2.2 == 2)
                                                                                              (.br 38036 (r308.2 == 2)
                                                                                                (.br 38040 (r310.2.2.2 == 4)
                                                                                                  (.br 38044 (r387.2.2 == 4)
                                                                                                    (.done (r389.2.2 == 0))
                                                                                                    (.done false))
                                                                                                  (.done false))
                                                                                                (.done false))
                                                                                              (.done false))
                                                                                            (.done false))
                                                                                          (.done false))
                                                                                        (.done false))
                                                                                      (.done false))
                                                                                    (.done false))
                                                                                  (.done false))
                                                                                (.done false))
                                                                              (fun (c390 : Bool) => [.bool c390]) fun c390 =>
                                                                              .cnd 39 [0]
                                                                              (.br 39003 c390
                                                                                (.br 39007 (r284.2.2 == 0)
                                                                                  (.br 39011 (r285.2.2 == 0)
                                                                                    (.call 39012 (s33 192 0 2 9 5001) [] [] fun r391 =>
                                                                                      .br 39016 ((decide (r285.2.1.fHost = r391.fHost)) && ((r285.2.1.fPort == r391.fPort) && true))
                                                                                      (.br 39020 (r289.2.2 == 0)
                                                                                        (.br 39026 ((mlen tySBinding r289.1.fTable) == 1)
                                                                                          (.row 39028 tySBinding r289.1.fTable 0 true fun x392 =>
                                                                                            .br 39035 ((decide (x392.fInside.fHost = r278.fHost)) && ((x392.fInside.fPort == r278.fPort) && true))
                                                                                            (.row 39037 tySBinding r289.1.fTable 0 true fun x393 =>
                                                                                              .br 39043 (x393.fUntil == 1010)
                                                                                              (.row 39045 tySBinding r289.1.fTable 0 true fun x394 =>
                                                                                                .view 39051 (s36 x394.fOpen [r280, r281]) [] fun r395 =>
                                                                                                .br 39054 r395
                                                                                                (.br 39058 (r293.2.2 == 0)
                                                                                                  (.br 39062 (r295.2.2.2 == 0)
                                                                                                    (.call 39063 (s33 192 0 2 9 5001) [] [] fun r396 =>
                                                                                                      .br 39067 ((decide (r295.2.1.fHost = r396.fHost)) && ((r295.2.1.fPort == r396.fPort) && true))
                                                                                                      (.done ((decide (r295.2.2.1.fHost = r278.fHost)) && ((r295.2.2.1.fPort == r278.fPort) && true)))
                                                                                                      (.done false))
                                                                                                    (.done false))
                                                                                                  (.done false))
                                                                                                (.done false))
                                                                                              (.done false))
                                                                                            (.done false))
                                                                                          (.done false))
                                                                                        (.done false))
                                                                                      (.done false))
                                                                                    (.done false))
                                                                                  (.done false))
                                                                                (.done false))
                                                                              (fun (c397 : Bool) => [.bool c397]) fun c397 =>
                                                                              .done c397)))))))))))))))))))))))))))))))))))))))))))))))))))))))))))))))))))))))))))))))))))))))))))))))))))
theorem k10  : FnD Tryd.prog GG [0, 1, 2, 3, 4, 5, 6, 8, 9, 10, 11, 14, 17, 18, 20, 24, 25, 27, 29, 30, 31, 34, 37, 40, 43, 46, 48, 49, 53, 55, 56, 57, 58, 61, 64, 65, 67, 233, 234, 235, 236, 243, 247, 260] Tryd.f10 [] (g10) (fun r => .bool r) := by unfold FnD; kernel_rfl
noncomputable def s10  : EV.Spec Tryd.prog GG (Bool) := .ofFn 10 mixed Tryd.func10 (k10)

end Go.Proofs.YtdiagiflihpidaaDoor
