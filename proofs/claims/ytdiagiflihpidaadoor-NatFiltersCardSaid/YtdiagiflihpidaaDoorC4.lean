/- Guides and contracts, printed by a program.
   Guides and contracts, printed by a program.
   Guides and contracts, printed by a program. -/
import Derived.Test.YtdiagiflihpidaaDoorC3
import Derived.KernelRfl

namespace Go.Proofs.YtdiagiflihpidaaDoor
open Go Go.EV
set_option maxRecDepth 100000

/-- tannoy tannoylaw13.wakes -/
noncomputable def g16  : TT (Bool) :=
  .call 1001 (s33 10 0 0 1 5000) [] [] fun r308 =>
  .call 1002 (s33 198 51 100 1 80) [] [] fun r309 =>
  .call 2001 s34 [] [] fun r310 =>
  .call 2004 (s25 r310 0 r308 r309) [] [] fun r311 =>
  .call 3004 (s27 r311.1 5 r309 r311.2.1) [] [] fun r312 =>
  .call 4002 (s33 198 51 100 1 81) [] [] fun r313 =>
  .call 4004 (s27 r311.1 5 r313 r311.2.1) [] [] fun r314 =>
  .call 5002 (s20 r311.1 1000) [] [] fun r315 =>
  .cnd 6 [0]
  (.br 6004 (r311.2.2 == 0)
    (.call 6005 (s33 192 0 2 9 5000) [] [] fun r316 =>
      .br 6009 ((decide (r311.2.1.fHost = r316.fHost)) && ((r311.2.1.fPort == r316.fPort) && true))
      (.br 6013 (r312.2.2 == 0)
        (.br 6018 ((decide (r312.2.1.fHost = r308.fHost)) && ((r312.2.1.fPort == r308.fPort) && true))
          (.br 6022 (r314.2.2 == 4)
            (.br 6026 (r315.2 == 0)
              (.br 6032 ((mlen tySBinding r315.1.fTable) == 0)
                (.br 6038 ((mlen tySBinding r311.1.fTable) == 1)
                  (.call 6039 (s19 r311.1) [] [] fun r317 =>
                    .br 6043 (r317 == 0)
                    (.call 6044 (s19 (SNat.mk 0 0 0 false ByteArray.empty 0 0 0 [])) [] [] fun r318 =>
                      .done (r318 == 130))
                    (.done false))
                  (.done false))
                (.done false))
              (.done false))
            (.done false))
          (.done false))
        (.done false))
      (.done false))
    (.done false))
  (fun (c319 : Bool) => [.bool c319]) fun c319 =>
  .done c319
theorem k16  : FnD Tryd.prog GG [0, 1, 2, 3, 4, 5, 7, 8, 11, 12, 13] Tryd.f16 [] (g16) (fun r => .bool r) := by unfold FnD; kernel_rfl
noncomputable def s16  : EV.Spec Tryd.prog GG (Bool) := .ofFn 16 mixed Tryd.func16 (k16)

end Go.Proofs.YtdiagiflihpidaaDoor

namespace Go.Proofs.YtdiagiflihpidaaDoor
open Go Go.EV
set_option maxRecDepth 100000

/-- tannoy tannoyref13.Errors -/
noncomputable def g18 (p0 : SNat) (p1 : Int) (p2 : (List SAddr)) : TT (Int) :=
  .call 1002 (s53 p0) [] [] fun r320 =>
  .br 0 (!r320)
  (.done 130)
  (.cnd 3 [18]
    (.br 3006 (decide (p1 < p0.fNow))
      (.done true)
      (.done (decide ((1099511627776 : Int) < p1))))
    (fun (c321 : Bool) => [.bool c321]) fun c321 =>
    .br 0 c321
    (.done 2)
    (.bind2 1
      (.lp (fun (l325 : Int) => Ext.lit .normal [(2, .sl false 2 (List.map tySAddr.c p2)), (3, .ptr 3 0 0), (6, .int .i64 0), (7, .int .i64 l325)] [(3, ⟨9, true, [[.int .i64 p0.fMapping, .int .i64 p0.fFilter, .int .i64 p0.fTimeout, .bool p0.fHairpin, .str p0.fHost, .int .i64 p0.fLow, .int .i64 p0.fHigh, .int .i64 p0.fNow, .sl false 7 (List.map tySBinding.c p0.fTable)]]⟩)])
        (fun l325 =>
          .br 0 (decide (l325 < (mlen tySAddr p2)))
          (.row 8003 tySAddr p2 l325.toNat (decide (0 ≤ l325)) fun x326 =>
            .call 8008 (s54 x326 (p0.fHost.size : Int)) [] [] fun r327 =>
            .br 0 (!r327)
            (.done (.inr (.inl ())))
            (.done (.inl (wi64 (l325 + 1)))))
          (.done (.inr (.inr ()))))
        0)
      (fun (e328 : Unit) => Ext.lit .ret [(6, .int .i64 2)] [])
      (fun (e329 : Unit) => Ext.lit (.exit 0) [(6, .int .i64 0)] [])
      (fun e328 =>
        .done 2)
      (fun e329 =>
        .done 0)))
theorem k18 (p0 : SNat) (p1 : Int) (p2 : (List SAddr)) : FnD Tryd.prog GG [0, 1, 2, 3, 6, 7, 10, 18, 22, 33] Tryd.f18 [.agg [.int .i64 p0.fMapping, .int .i64 p0.fFilter, .int .i64 p0.fTimeout, .bool p0.fHairpin, .str p0.fHost, .int .i64 p0.fLow, .int .i64 p0.fHigh, .int .i64 p0.fNow, .sl false 7 (List.map tySBinding.c p0.fTable)], .int .i64 p1, .sl false 2 (List.map tySAddr.c p2)] (g18 p0 p1 p2) (fun r => .int .i64 r) := by unfold FnD; kernel_rfl
noncomputable def s18 (p0 : SNat) (p1 : Int) (p2 : (List SAddr)) : EV.Spec Tryd.prog GG (Int) := .ofFn 18 mixed Tryd.func18 (k18 p0 p1 p2)

/-- tannoy tannoyref13.within -/
noncomputable def g61 (p0 : SBinding) (p1 : SAddr) : TT (Bool) :=
  .bind2 1
  (.lp (fun (l351 : Int) => Ext.lit .normal [(2, .ptr 2 0 0), (3, .ptr 3 0 0), (4, .bool false), (5, .int .i64 l351)] [(2, ⟨7, true, [[.str p0.fInside.fHost, .int .i64 p0.fInside.fPort, .str p0.fPeer.fHost, .int .i64 p0.fPeer.fPort, .int .i64 p0.fPort, .int .i64 p0.fUntil, .sl false 2 (List.map tySAddr.c p0.fOpen)]]⟩), (3, ⟨2, true, [[.str p1.fHost, .int .i64 p1.fPort]]⟩)])
    (fun l351 =>
      .br 0 (decide (l351 < (mlen tySAddr p0.fOpen)))
      (.row 4004 tySAddr p0.fOpen l351.toNat (decide (0 ≤ l351)) fun x352 =>
        .br 0 ((decide (x352.fHost = p1.fHost)) && ((x352.fPort == p1.fPort) && true))
        (.done (.inr (.inl ())))
        (.done (.inl (wi64 (l351 + 1)))))
      (.done (.inr (.inr ()))))
    0)
  (fun (e353 : Unit) => Ext.lit .ret [(4, .bool true)] [])
  (fun (e354 : Unit) => Ext.lit (.exit 0) [(4, .bool false)] [])
  (fun e353 =>
    .done true)
  (fun e354 =>
    .done false)
theorem k61 (p0 : SBinding) (p1 : SAddr) : FnD Tryd.prog GG [0, 1, 2, 3, 4, 5, 10, 19] Tryd.f61 [.agg [.str p0.fInside.fHost, .int .i64 p0.fInside.fPort, .str p0.fPeer.fHost, .int .i64 p0.fPeer.fPort, .int .i64 p0.fPort, .int .i64 p0.fUntil, .sl false 2 (List.map tySAddr.c p0.fOpen)], .agg [.str p1.fHost, .int .i64 p1.fPort]] (g61 p0 p1) (fun r => .bool r) := by unfold FnD; kernel_rfl
noncomputable def s61 (p0 : SBinding) (p1 : SAddr) : EV.Spec Tryd.prog GG (Bool) := .ofFn 61 mixed Tryd.func61 (k61 p0 p1)

/-- tannoy tannoyref13.Out -/
noncomputable def g26 (p0 : SNat) (p1 : Int) (p2 : SAddr) (p3 : SAddr) : TT (SNat × SAddr × Int) :=
  .view 1006 (s18 p0 p1 [p2, p3]) [] fun r358 =>
  .br 0 (r358 != 0)
  (.done ((SNat.mk 0 0 0 false ByteArray.empty 0 0 0 []), (SAddr.mk ByteArray.empty 0), r358))
  (.br 0 (decide (p2.fHost = p0.fHost))
    (.done ((SNat.mk 0 0 0 false ByteArray.empty 0 0 0 []), (SAddr.mk ByteArray.empty 0), 2))
    (.call 6003 (s21 p0 p1) [] [(600014, 500102)] fun r359 =>
      .bind 1
      (.lp (fun (l365 : Int × Int) => Ext.of .normal [(1, .int .i64 p1), (4, .ptr 4 0 0), (6, .ptr 6 0 0), (7, .ptr 7 0 0), (8, .ptr 8 0 0), (9, .ptr 9 0 0), (10, .int .i64 0), (12, .int .i64 l365.1), (13, .int .i64 l365.2)] [(4, ⟨9, true, [[.int .i64 p0.fMapping, .int .i64 p0.fFilter, .int .i64 p0.fTimeout, .bool p0.fHairpin, .str p0.fHost, .int .i64 p0.fLow, .int .i64 p0.fHigh, .int .i64 p1, .ref 500102 0 r359.length]]⟩), (6, ⟨2, true, [[.str p2.fHost, .int .i64 p2.fPort]]⟩), (7, ⟨2, true, [[.str p3.fHost, .int .i64 p3.fPort]]⟩), (8, ⟨9, true, [[.int .i64 0, .int .i64 0, .int .i64 0, .bool false, .str ByteArray.empty, .int .i64 0, .int .i64 0, .int .i64 0, .nilsl]]⟩), (9, ⟨2, true, [[.str ByteArray.empty, .int .i64 0]]⟩)] [BT.of 500102 tySBindingO6 7 r359 true] (by rfl))
        (fun l365 =>
          .br 0 (decide (l365.2 < (r359.length : Int)))
          (.cnd 11 [64]
            (.chk 11004 (decide (0 ≤ l365.2) && decide (l365.2 < (r359.length : Int))) (.row 11006 tySBindingO6 r359 (0 + l365.2.toNat) true fun x366 =>
              .br 11010 ((decide (x366.fInside.fHost = p2.fHost)) && ((x366.fInside.fPort == p2.fPort) && true))
              (.chk 11013 (decide (0 ≤ l365.2) && decide (l365.2 < (r359.length : Int))) (.row 11015 tySBindingO6 r359 (0 + l365.2.toNat) true fun x367 =>
                .call 11019 (s59 p0.fMapping p3) [] [] fun r368 =>
                .done ((decide (x367.fPeer.fHost = r368.fHost)) && ((x367.fPeer.fPort == r368.fPort) && true))))
              (.done false)))
            (fun (c369 : Bool) => [.bool c369]) fun c369 =>
            .br 0 c369
            (.done (.inl (l365.2, (wi64 (l365.2 + 1)))))
            (.done (.inl (l365.1, (wi64 (l365.2 + 1))))))
          (.done (.inr l365.1)))
        ((-1), 0))
      (fun (e370 : Int) => Ext.of (.exit 0) [(1, .int .i64 p1), (4, .ptr 4 0 0), (6, .ptr 6 0 0), (7, .ptr 7 0 0), (8, .ptr 8 0 0), (9, .ptr 9 0 0), (10, .int .i64 0), (12, .int .i64 e370)] [(4, ⟨9, true, [[.int .i64 p0.fMapping, .int .i64 p0.fFilter, .int .i64 p0.fTimeout, .bool p0.fHairpin, .str p0.fHost, .int .i64 p0.fLow, .int .i64 p0.fHigh, .int .i64 p1, .ref 500102 0 r359.length]]⟩), (6, ⟨2, true, [[.str p2.fHost, .int .i64 p2.fPort]]⟩), (7, ⟨2, true, [[.str p3.fHost, .int .i64 p3.fPort]]⟩), (8, ⟨9, true, [[.int .i64 0, .int .i64 0, .int .i64 0, .bool false, .str ByteArray.empty, .int .i64 0, .int .i64 0, .int .i64 0, .nilsl]]⟩), (9, ⟨2, true, [[.str ByteArray.empty, .int .i64 0]]⟩)] [BT.of 500102 tySBindingO6 7 r359 true] (by rfl))
      (fun e370 =>
        .bind2 0
        (.br 0 (decide (e370 < 0))
          (.view 14004 (s60 (SNat.mk p0.fMapping p0.fFilter p0.fTimeout p0.fHairpin p0.fHost p0.fLow p0.fHigh p1 r359) p2.fPort) [⟨500102, _, tySBindingO6, r359⟩] fun r371 =>
            .br 0 (r371 == 0)
            (.done (.inl ()))
            (.call 18007 (s59 p0.fMapping p3) [] [] fun r372 =>
              .app 18011 tySBindingO6 r359 [(SBinding.mk p2 r372 r371 0 [])] 88 false (by intro h; cases h) (.gh 0 (.ren 89 600103) (.done (.inr ((r359 ++ [(SBinding.mk p2 r372 r371 0 [])]), (r359.length : Int)))))))
          (.gh 0 (.ren 500102 600103) (.done (.inr (r359, e370)))))
        (fun (e373 : Unit) => Ext.of .ret [(1, .int .i64 p1), (4, .ptr 4 0 0), (7, .ptr 7 0 0), (8, .ptr 8 0 0), (9, .ptr 9 0 0), (10, .int .i64 4), (12, .int .i64 e370)] [(4, ⟨9, true, [[.int .i64 p0.fMapping, .int .i64 p0.fFilter, .int .i64 p0.fTimeout, .bool p0.fHairpin, .str p0.fHost, .int .i64 p0.fLow, .int .i64 p0.fHigh, .int .i64 p1, .ref 500102 0 r359.length]]⟩), (7, ⟨2, true, [[.str p3.fHost, .int .i64 p3.fPort]]⟩), (8, ⟨9, true, [[.int .i64 0, .int .i64 0, .int .i64 0, .bool false, .str ByteArray.empty, .int .i64 0, .int .i64 0, .int .i64 0, .nilsl]]⟩), (9, ⟨2, true, [[.str ByteArray.empty, .int .i64 0]]⟩)] [BT.of 500102 tySBindingO6 7 r359 true] (by rfl))
        (fun (e374 : (List SBinding) × Int) => Ext.of .normal [(1, .int .i64 p1), (4, .ptr 4 0 0), (7, .ptr 7 0 0), (8, .ptr 8 0 0), (9, .ptr 9 0 0), (10, .int .i64 0), (12, .int .i64 e374.2)] [(4, ⟨9, true, [[.int .i64 p0.fMapping, .int .i64 p0.fFilter, .int .i64 p0.fTimeout, .bool p0.fHairpin, .str p0.fHost, .int .i64 p0.fLow, .int .i64 p0.fHigh, .int .i64 p1, .ref 600103 0 e374.1.length]]⟩), (7, ⟨2, true, [[.str p3.fHost, .int .i64 p3.fPort]]⟩), (8, ⟨9, true, [[.int .i64 0, .int .i64 0, .int .i64 0, .bool false, .str ByteArray.empty, .int .i64 0, .int .i64 0, .int .i64 0, .nilsl]]⟩), (9, ⟨2, true, [[.str ByteArray.empty, .int .i64 0]]⟩)] [BT.of 600103 tySBindingO6 7 e374.1 true] (by rfl))
        (fun e373 =>
          .done ((SNat.mk 0 0 0 false ByteArray.empty 0 0 0 []), (SAddr.mk ByteArray.empty 0), 4))
        (fun e374 =>
          .chk 19004 (decide (0 ≤ e374.2) && decide (e374.2 < (e374.1.length : Int))) (.rowt 19005 tySBindingO6 e374.1 (0 + e374.2.toNat) 6 fun x375 =>
          .re 19005 (ReW.take 600103 7 true tySBindingO6 e374.1 (0 + e374.2.toNat) [.str x375.fInside.fHost, .int .i64 x375.fInside.fPort, .str x375.fPeer.fHost, .int .i64 x375.fPeer.fPort, .int .i64 x375.fPort, .int .i64 x375.fUntil, .sl false 2 (List.map tySAddr.c x375.fOpen)] rfl 95 2 tySAddr x375.fOpen (fun _ => rfl) (fun n => .agg [.str x375.fInside.fHost, .int .i64 x375.fInside.fPort, .str x375.fPeer.fHost, .int .i64 x375.fPeer.fPort, .int .i64 x375.fPort, .int .i64 x375.fUntil, .ref 95 0 n])) (.cnd 21 [112]
          (.br 21005 (p0.fFilter != 1)
            (.call 21009 (s59 p0.fFilter p3) [] [] fun r376 =>
              .view 21010 (s61 (SBinding.mk x375.fInside x375.fPeer x375.fPort (wi64 (p1 + p0.fTimeout)) x375.fOpen) r376) [⟨95, _, tySAddr, x375.fOpen⟩] fun r377 =>
              .done (!r377))
            (.done false))
          (fun (c378 : Bool) => [.bool c378]) fun c378 =>
          .bind 0
          (.br 0 c378
            (.call 22006 (s59 p0.fFilter p3) [] [] fun r379 =>
              .app 22008 tySAddr x375.fOpen [r379] 24 false (by intro h; cases h) (.br 0 (decide ((16 : Int) < ((x375.fOpen ++ [r379]).length : Int)))
              (.chk 24003 (decide (0 ≤ (1 : Int)) && decide ((1 : Int) ≤ ((x375.fOpen ++ [r379]).length : Int))) (.cutg 0 120 tySAddr (x375.fOpen ++ [r379]) 1 (fun _ => rfl) (.gh 0 (.len 120 (((x375.fOpen ++ [r379]).drop 1).length) [((x375.fOpen ++ [r379]).length - 1)] (by simp)) (.gh 0 (.ren 120 600104) (.done ((x375.fOpen ++ [r379]).drop 1))))))
              (.gh 0 (.ren 120 600104) (.done (x375.fOpen ++ [r379])))))
            (.gh 0 (.ren 95 600104) (.done x375.fOpen)))
          (fun (e380 : (List SAddr)) => Ext.of .normal [(4, .ptr 4 0 0), (8, .ptr 8 0 0), (9, .ptr 9 0 0), (10, .int .i64 0), (12, .int .i64 e374.2), (15, .ptr 15 0 0)] [(4, ⟨9, true, [[.int .i64 p0.fMapping, .int .i64 p0.fFilter, .int .i64 p0.fTimeout, .bool p0.fHairpin, .str p0.fHost, .int .i64 p0.fLow, .int .i64 p0.fHigh, .int .i64 p1, .ref 600103 0 e374.1.length]]⟩), (8, ⟨9, true, [[.int .i64 0, .int .i64 0, .int .i64 0, .bool false, .str ByteArray.empty, .int .i64 0, .int .i64 0, .int .i64 0, .nilsl]]⟩), (9, ⟨2, true, [[.str ByteArray.empty, .int .i64 0]]⟩), (15, ⟨7, true, [[.str x375.fInside.fHost, .int .i64 x375.fInside.fPort, .str x375.fPeer.fHost, .int .i64 x375.fPeer.fPort, .int .i64 x375.fPort, .int .i64 (wi64 (p1 + p0.fTimeout)), .ref 600104 0 e380.length]]⟩)] [BT.hole 600103 tySBindingO6 7 e374.1 (0 + e374.2.toNat) [.str x375.fInside.fHost, .int .i64 x375.fInside.fPort, .str x375.fPeer.fHost, .int .i64 x375.fPeer.fPort, .int .i64 x375.fPort, .int .i64 x375.fUntil, .sl false 2 (List.map tySAddr.c x375.fOpen)] rfl true, BT.of 600104 tySAddr 2 e380 false] (by rfl))
          (fun e380 =>
            .chk 25005 (decide (0 ≤ e374.2) && decide (e374.2 < (e374.1.length : Int))) (.nst 25006 tySBindingO6 e374.1 [.str x375.fInside.fHost, .int .i64 x375.fInside.fPort, .str x375.fPeer.fHost, .int .i64 x375.fPeer.fPort, .int .i64 x375.fPort, .int .i64 x375.fUntil, .sl false 2 (List.map tySAddr.c x375.fOpen)] (0 + e374.2.toNat) 6 (SBinding.mk x375.fInside x375.fPeer x375.fPort (wi64 (p1 + p0.fTimeout)) e380) tySAddr e380 none (.gh 28 (.len 600103 ((e374.1.set (0 + e374.2.toNat) (SBinding.mk x375.fInside x375.fPeer x375.fPort (wi64 (p1 + p0.fTimeout)) e380)).length) [e374.1.length] (by simp)) (.gh 0 (.share [⟨600103, _, tySBindingO6, (e374.1.set (0 + e374.2.toNat) (SBinding.mk x375.fInside x375.fPeer x375.fPort (wi64 (p1 + p0.fTimeout)) e380))⟩, ⟨600103, _, tySBindingO6, (e374.1.set (0 + e374.2.toNat) (SBinding.mk x375.fInside x375.fPeer x375.fPort (wi64 (p1 + p0.fTimeout)) e380))⟩]) (.done ((SNat.mk p0.fMapping p0.fFilter p0.fTimeout p0.fHairpin p0.fHost p0.fLow p0.fHigh p1 (e374.1.set (0 + e374.2.toNat) (SBinding.mk x375.fInside x375.fPeer x375.fPort (wi64 (p1 + p0.fTimeout)) e380))), (SAddr.mk p0.fHost x375.fPort), 0))))))))))))
theorem k26 (p0 : SNat) (p1 : Int) (p2 : SAddr) (p3 : SAddr) : FnD Tryd.prog GG [0, 1, 2, 3, 4, 6, 7, 8, 9, 10, 11, 12, 13, 14, 15, 23, 31, 41, 64, 67, 73, 112, 125] Tryd.f26 [.agg [.int .i64 p0.fMapping, .int .i64 p0.fFilter, .int .i64 p0.fTimeout, .bool p0.fHairpin, .str p0.fHost, .int .i64 p0.fLow, .int .i64 p0.fHigh, .int .i64 p0.fNow, .sl false 7 (List.map tySBinding.c p0.fTable)], .int .i64 p1, .agg [.str p2.fHost, .int .i64 p2.fPort], .agg [.str p3.fHost, .int .i64 p3.fPort]] (g26 p0 p1 p2 p3) (fun r => .tup [.agg [.int .i64 r.1.fMapping, .int .i64 r.1.fFilter, .int .i64 r.1.fTimeout, .bool r.1.fHairpin, .str r.1.fHost, .int .i64 r.1.fLow, .int .i64 r.1.fHigh, .int .i64 r.1.fNow, .sl false 7 (List.map tySBinding.c r.1.fTable)], .agg [.str r.2.1.fHost, .int .i64 r.2.1.fPort], .int .i64 r.2.2]) := by unfold FnD; kernel_rfl
noncomputable def s26 (p0 : SNat) (p1 : Int) (p2 : SAddr) (p3 : SAddr) : EV.Spec Tryd.prog GG (SNat × SAddr × Int) := .ofFn 26 mixed Tryd.func26 (k26 p0 p1 p2 p3)

/-- (tannoy tannoyref13.Draft).Empty -/
noncomputable def g63 (p0 : SDraft) : TT (SNat) :=
  .done (SNat.mk (wi64 ((1 : Int) + (wi64 (Int.tmod p0.fMapping 3)))) (wi64 ((1 : Int) + (wi64 (Int.tmod p0.fFilter 3)))) (wi64 ((1 : Int) + (wi64 (Int.tmod p0.fTimeout 4000)))) p0.fHairpin (bs [192, 0, 2, 9]) 5000 (wi64 ((5000 : Int) + (wi64 (Int.tmod p0.fPorts 8)))) 0 [])
theorem k63 (p0 : SDraft) : FnD Tryd.prog GG [0, 1, 2] Tryd.f63 [.agg [.int .u8 p0.fMapping, .int .u8 p0.fFilter, .int .u8 p0.fPorts, .int .u16 p0.fTimeout, .bool p0.fHairpin, .sl false 4 (List.map tySMove.c p0.fMoves)]] (g63 p0) (fun r => .agg [.int .i64 r.fMapping, .int .i64 r.fFilter, .int .i64 r.fTimeout, .bool r.fHairpin, .str r.fHost, .int .i64 r.fLow, .int .i64 r.fHigh, .int .i64 r.fNow, .sl false 7 (List.map tySBinding.c r.fTable)]) := by unfold FnD; kernel_rfl
noncomputable def s63 (p0 : SDraft) : EV.Spec Tryd.prog GG (SNat) := .ofFn 63 mixed Tryd.func63 (k63 p0)

/-- tannoy tannoyref13.Inside -/
noncomputable def g23 (p0 : Int) : TT (SAddr) :=
  .done (SAddr.mk (strOfNums [10, 0, 0, (wu8 ((1 : Int) + (Int.tmod p0 3)))]) (wi64 ((5000 : Int) + (wi64 (Int.tmod (wu8 (Int.tdiv p0 3)) 5)))))
theorem k23 (p0 : Int) : FnD Tryd.prog GG [0, 2] Tryd.f23 [.int .u8 p0] (g23 p0) (fun r => .agg [.str r.fHost, .int .i64 r.fPort]) := by unfold FnD; kernel_rfl
noncomputable def s23 (p0 : Int) : EV.Spec Tryd.prog GG (SAddr) := .ofFn 23 mixed Tryd.func23 (k23 p0)

/-- tannoy tannoyref13.Peer -/
noncomputable def g24 (p0 : Int) : TT (SAddr) :=
  .done (SAddr.mk (strOfNums [198, 51, 100, (wu8 ((1 : Int) + (Int.tmod p0 3)))]) (wi64 ((80 : Int) + (wi64 (Int.tmod (wu8 (Int.tdiv p0 3)) 3)))))
theorem k24 (p0 : Int) : FnD Tryd.prog GG [0, 2] Tryd.f24 [.int .u8 p0] (g24 p0) (fun r => .agg [.str r.fHost, .int .i64 r.fPort]) := by unfold FnD; kernel_rfl
noncomputable def s24 (p0 : Int) : EV.Spec Tryd.prog GG (SAddr) := .ofFn 24 mixed Tryd.func24 (k24 p0)

/-- (tannoy tannoyref13.Draft).Nat -/
noncomputable def g29 (p0 : SDraft) : TT (SNat) :=
  .call 1002 (s63 p0) [] [] fun r381 =>
  .bind 1
  (.lp (fun (l388 : Int × Int × Int × Bool × ByteArray × Int × Int × Int × (List SBinding) × Int) => Ext.lit .normal [(1, .ptr 1 0 0), (2, .ptr 2 0 0), (3, .ptr 3 0 0), (4, .int .i64 l388.2.2.2.2.2.2.2.2.2)] [(1, ⟨6, true, [[.int .u8 p0.fMapping, .int .u8 p0.fFilter, .int .u8 p0.fPorts, .int .u16 p0.fTimeout, .bool p0.fHairpin, .sl false 4 (List.map tySMove.c p0.fMoves)]]⟩), (2, ⟨9, true, [[.int .i64 0, .int .i64 0, .int .i64 0, .bool false, .str ByteArray.empty, .int .i64 0, .int .i64 0, .int .i64 0, .nilsl]]⟩), (3, ⟨9, true, [[.int .i64 l388.1, .int .i64 l388.2.1, .int .i64 l388.2.2.1, .bool l388.2.2.2.1, .str l388.2.2.2.2.1, .int .i64 l388.2.2.2.2.2.1, .int .i64 l388.2.2.2.2.2.2.1, .int .i64 l388.2.2.2.2.2.2.2.1, .sl false 7 (List.map tySBinding.c l388.2.2.2.2.2.2.2.2.1)]]⟩)])
    (fun l388 =>
      .cnd 3 [19]
      (.br 3007 (decide (l388.2.2.2.2.2.2.2.2.2 < (mlen tySMove p0.fMoves)))
        (.done (decide (l388.2.2.2.2.2.2.2.2.2 < 30)))
        (.done false))
      (fun (c389 : Bool) => [.bool c389]) fun c389 =>
      .br 0 c389
      (.row 5004 tySMove p0.fMoves l388.2.2.2.2.2.2.2.2.2.toNat (decide (0 ≤ l388.2.2.2.2.2.2.2.2.2)) fun x390 =>
        .call 6011 (s23 x390.fFrom) [] [] fun r391 =>
        .call 6014 (s24 x390.fTo) [] [] fun r392 =>
        .call 6015 (s26 (SNat.mk l388.1 l388.2.1 l388.2.2.1 l388.2.2.2.1 l388.2.2.2.2.1 l388.2.2.2.2.2.1 l388.2.2.2.2.2.2.1 l388.2.2.2.2.2.2.2.1 l388.2.2.2.2.2.2.2.2.1) (wi64 (l388.2.2.2.2.2.2.2.1 + (wi64 (Int.tmod x390.fAfter 1000)))) r391 r392) [] [] fun r393 =>
        .br 0 (r393.2.2 == 0)
        (.done (.inl (r393.1.fMapping, r393.1.fFilter, r393.1.fTimeout, r393.1.fHairpin, r393.1.fHost, r393.1.fLow, r393.1.fHigh, r393.1.fNow, r393.1.fTable, (wi64 (l388.2.2.2.2.2.2.2.2.2 + 1)))))
        (.done (.inl (l388.1, l388.2.1, l388.2.2.1, l388.2.2.2.1, l388.2.2.2.2.1, l388.2.2.2.2.2.1, l388.2.2.2.2.2.2.1, l388.2.2.2.2.2.2.2.1, l388.2.2.2.2.2.2.2.2.1, (wi64 (l388.2.2.2.2.2.2.2.2.2 + 1))))))
      (.done (.inr (l388.1, l388.2.1, l388.2.2.1, l388.2.2.2.1, l388.2.2.2.2.1, l388.2.2.2.2.2.1, l388.2.2.2.2.2.2.1, l388.2.2.2.2.2.2.2.1, l388.2.2.2.2.2.2.2.2.1))))
    (r381.fMapping, r381.fFilter, r381.fTimeout, r381.fHairpin, r381.fHost, r381.fLow, r381.fHigh, r381.fNow, r381.fTable, 0))
  (fun (e394 : Int × Int × Int × Bool × ByteArray × Int × Int × Int × (List SBinding)) => Ext.lit (.exit 0) [(2, .ptr 2 0 0), (3, .ptr 3 0 0)] [(2, ⟨9, true, [[.int .i64 0, .int .i64 0, .int .i64 0, .bool false, .str ByteArray.empty, .int .i64 0, .int .i64 0, .int .i64 0, .nilsl]]⟩), (3, ⟨9, true, [[.int .i64 e394.1, .int .i64 e394.2.1, .int .i64 e394.2.2.1, .bool e394.2.2.2.1, .str e394.2.2.2.2.1, .int .i64 e394.2.2.2.2.2.1, .int .i64 e394.2.2.2.2.2.2.1, .int .i64 e394.2.2.2.2.2.2.2.1, .sl false 7 (List.map tySBinding.c e394.2.2.2.2.2.2.2.2)]]⟩)])
  (fun e394 =>
    .done (SNat.mk e394.1 e394.2.1 e394.2.2.1 e394.2.2.2.1 e394.2.2.2.2.1 e394.2.2.2.2.2.1 e394.2.2.2.2.2.2.1 e394.2.2.2.2.2.2.2.1 e394.2.2.2.2.2.2.2.2))
theorem k29 (p0 : SDraft) : FnD Tryd.prog GG [0, 1, 2, 3, 4, 5, 6, 8, 19, 47] Tryd.f29 [.agg [.int .u8 p0.fMapping, .int .u8 p0.fFilter, .int .u8 p0.fPorts, .int .u16 p0.fTimeout, .bool p0.fHairpin, .sl false 4 (List.map tySMove.c p0.fMoves)]] (g29 p0) (fun r => .agg [.int .i64 r.fMapping, .int .i64 r.fFilter, .int .i64 r.fTimeout, .bool r.fHairpin, .str r.fHost, .int .i64 r.fLow, .int .i64 r.fHigh, .int .i64 r.fNow, .sl false 7 (List.map tySBinding.c r.fTable)]) := by unfold FnD; kernel_rfl
noncomputable def s29 (p0 : SDraft) : EV.Spec Tryd.prog GG (SNat) := .ofFn 29 mixed Tryd.func29 (k29 p0)

/-- tannoy tannoylaw13.nats -/
noncomputable def g17 (p0 : SDraft) (p1 : S2Tannoyref13Bend) (p2 : SNat) : TT (S4ApiNat) :=
  .call 1002 (s29 p0) [] [] fun r395 =>
  .call 2005 (s35 p1.a0 r395) [] [] fun r396 =>
  .call 2011 (s35 p1.a0 r395) [] [] fun r397 =>
  .call 2012 (s35 p1.a1 r397) [] [] fun r398 =>
  .call 2014 (s52 p2) [] [] fun r399 =>
  .done (S4ApiNat.mk r395 r396 r398 r399)
theorem k17 (p0 : SDraft) (p1 : S2Tannoyref13Bend) (p2 : SNat) : FnD Tryd.prog GG [0, 1, 2, 3, 4, 5, 6, 7] Tryd.f17 [.agg [.int .u8 p0.fMapping, .int .u8 p0.fFilter, .int .u8 p0.fPorts, .int .u16 p0.fTimeout, .bool p0.fHairpin, .sl false 4 (List.map tySMove.c p0.fMoves)], .agg [.int .u8 p1.a0.fWhat, .int .u8 p1.a0.fAt, .int .i64 p1.a0.fN, .str p1.a0.fA.fHost, .int .i64 p1.a0.fA.fPort, .str p1.a0.fS, .int .u8 p1.a1.fWhat, .int .u8 p1.a1.fAt, .int .i64 p1.a1.fN, .str p1.a1.fA.fHost, .int .i64 p1.a1.fA.fPort, .str p1.a1.fS], .agg [.int .i64 p2.fMapping, .int .i64 p2.fFilter, .int .i64 p2.fTimeout, .bool p2.fHairpin, .str p2.fHost, .int .i64 p2.fLow, .int .i64 p2.fHigh, .int .i64 p2.fNow, .sl false 7 (List.map tySBinding.c p2.fTable)]] (g17 p0 p1 p2) (fun r => .agg [.int .i64 r.a0.fMapping, .int .i64 r.a0.fFilter, .int .i64 r.a0.fTimeout, .bool r.a0.fHairpin, .str r.a0.fHost, .int .i64 r.a0.fLow, .int .i64 r.a0.fHigh, .int .i64 r.a0.fNow, .sl false 7 (List.map tySBinding.c r.a0.fTable), .int .i64 r.a1.fMapping, .int .i64 r.a1.fFilter, .int .i64 r.a1.fTimeout, .bool r.a1.fHairpin, .str r.a1.fHost, .int .i64 r.a1.fLow, .int .i64 r.a1.fHigh, .int .i64 r.a1.fNow, .sl false 7 (List.map tySBinding.c r.a1.fTable), .int .i64 r.a2.fMapping, .int .i64 r.a2.fFilter, .int .i64 r.a2.fTimeout, .bool r.a2.fHairpin, .str r.a2.fHost, .int .i64 r.a2.fLow, .int .i64 r.a2.fHigh, .int .i64 r.a2.fNow, .sl false 7 (List.map tySBinding.c r.a2.fTable), .int .i64 r.a3.fMapping, .int .i64 r.a3.fFilter, .int .i64 r.a3.fTimeout, .bool r.a3.fHairpin, .str r.a3.fHost, .int .i64 r.a3.fLow, .int .i64 r.a3.fHigh, .int .i64 r.a3.fNow, .sl false 7 (List.map tySBinding.c r.a3.fTable)]) := by unfold FnD; kernel_rfl
noncomputable def s17 (p0 : SDraft) (p1 : S2Tannoyref13Bend) (p2 : SNat) : EV.Spec Tryd.prog GG (S4ApiNat) := .ofFn 17 mixed Tryd.func17 (k17 p0 p1 p2)

end Go.Proofs.YtdiagiflihpidaaDoor

namespace Go.Proofs.YtdiagiflihpidaaDoor
open Go Go.EV
set_option maxRecDepth 100000

/-- tannoy tannoylaw13.NatChecks -/
noncomputable def g3 (p0 : SDraft) (p1 : S2Tannoyref13Bend) (p2 : SNat) (p3 : SMove1) : TT (Bool) :=
  .call 1001 s16 [] [] fun r400 =>
  .br 0 (!r400)
  (.done false)
  (.call 3004 (s17 p0 p1 p2) [] [] fun r401 =>
    .tt (.call 6004 (s18 r401.a0 r401.a0.fNow []) [] [] fun r402 =>
    .bind 0
    (.br 0 (r402 == 2)
      (.done 0)
      (.done r402))
    (fun (e403 : Int) => Ext.lit .normal [(7, .ptr 7 0 0), (8, .bool false), (10, .ptr 10 0 0), (11, .int .i64 e403), (23, .agg [.int .i64 r401.a0.fMapping, .int .i64 r401.a0.fFilter, .int .i64 r401.a0.fTimeout, .bool r401.a0.fHairpin, .str r401.a0.fHost, .int .i64 r401.a0.fLow, .int .i64 r401.a0.fHigh, .int .i64 r401.a0.fNow, .sl false 7 (List.map tySBinding.c r401.a0.fTable), .int .i64 r401.a1.fMapping, .int .i64 r401.a1.fFilter, .int .i64 r401.a1.fTimeout, .bool r401.a1.fHairpin, .str r401.a1.fHost, .int .i64 r401.a1.fLow, .int .i64 r401.a1.fHigh, .int .i64 r401.a1.fNow, .sl false 7 (List.map tySBinding.c r401.a1.fTable), .int .i64 r401.a2.fMapping, .int .i64 r401.a2.fFilter, .int .i64 r401.a2.fTimeout, .bool r401.a2.fHairpin, .str r401.a2.fHost, .int .i64 r401.a2.fLow, .int .i64 r401.a2.fHigh, .int .i64 r401.a2.fNow, .sl false 7 (List.map tySBinding.c r401.a2.fTable), .int .i64 r401.a3.fMapping, .int .i64 r401.a3.fFilter, .int .i64 r401.a3.fTimeout, .bool r401.a3.fHairpin, .str r401.a3.fHost, .int .i64 r401.a3.fLow, .int .i64 r401.a3.fHigh, .int .i64 r401.a3.fNow, .sl false 7 (List.map tySBinding.c r401.a3.fTable)]), (24, .int .i64 0)] [(7, ⟨8, true, [[.int .u8 p3.fFrom, .int .u8 p3.fTo, .int .u16 p3.fAfter, .int .i64 p3.fNow, .str p3.fRawFrom.fHost, .int .i64 p3.fRawFrom.fPort, .str p3.fRawTo.fHost, .int .i64 p3.fRawTo.fPort]]⟩), (10, ⟨9, true, [[.int .i64 r401.a0.fMapping, .int .i64 r401.a0.fFilter, .int .i64 r401.a0.fTimeout, .bool r401.a0.fHairpin, .str r401.a0.fHost, .int .i64 r401.a0.fLow, .int .i64 r401.a0.fHigh, .int .i64 r401.a0.fNow, .sl false 7 (List.map tySBinding.c r401.a0.fTable)]]⟩)])
    (fun e403 =>
      .call 9002 (s19 r401.a0) [] [] fun r404 =>
      .br 0 (r404 != e403)
      (.done false)
      (.tt (.call 14003 (s20 r401.a0 p3.fNow) [] [] fun r405 =>
        .call 15003 (s18 r401.a0 p3.fNow []) [] [] fun r406 =>
        .bind 0
        (.br 0 (r406 == 0)
          (.call 17003 (s21 r401.a0 p3.fNow) [] [(600014, 500259)] fun r407 =>
            .gh 0 (.ren 500259 600260) (.done (r401.a0.fMapping, r401.a0.fFilter, r401.a0.fTimeout, r401.a0.fHairpin, r401.a0.fHost, r401.a0.fLow, r401.a0.fHigh, p3.fNow, r407)))
          (.gh 0 (.virtC 600260 17 8 7) (.done (0, 0, 0, false, ByteArray.empty, 0, 0, 0, []))))
        (fun (e408 : Int × Int × Int × Bool × ByteArray × Int × Int × Int × (List SBinding)) => Ext.of .normal [(7, .ptr 7 0 0), (8, .bool false), (10, .ptr 10 0 0), (14, .ptr 14 0 0), (15, .int .i64 r405.2), (16, .int .i64 r406), (17, .ptr 17 0 0), (23, .agg [.int .i64 r401.a0.fMapping, .int .i64 r401.a0.fFilter, .int .i64 r401.a0.fTimeout, .bool r401.a0.fHairpin, .str r401.a0.fHost, .int .i64 r401.a0.fLow, .int .i64 r401.a0.fHigh, .int .i64 r401.a0.fNow, .sl false 7 (List.map tySBinding.c r401.a0.fTable), .int .i64 r401.a1.fMapping, .int .i64 r401.a1.fFilter, .int .i64 r401.a1.fTimeout, .bool r401.a1.fHairpin, .str r401.a1.fHost, .int .i64 r401.a1.fLow, .int .i64 r401.a1.fHigh, .int .i64 r401.a1.fNow, .sl false 7 (List.map tySBinding.c r401.a1.fTable), .int .i64 r401.a2.fMapping, .int .i64 r401.a2.fFilter, .int .i64 r401.a2.fTimeout, .bool r401.a2.fHairpin, .str r401.a2.fHost, .int .i64 r401.a2.fLow, .int .i64 r401.a2.fHigh, .int .i64 r401.a2.fNow, .sl false 7 (List.map tySBinding.c r401.a2.fTable), .int .i64 r401.a3.fMapping, .int .i64 r401.a3.fFilter, .int .i64 r401.a3.fTimeout, .bool r401.a3.fHairpin, .str r401.a3.fHost, .int .i64 r401.a3.fLow, .int .i64 r401.a3.fHigh, .int .i64 r401.a3.fNow, .sl false 7 (List.map tySBinding.c r401.a3.fTable)]), (24, .int .i64 0), (45, .agg [.int .i64 p3.fNow, .int .i64 (wi64 (r401.a0.fNow + (wi64 p3.fAfter)))]), (46, .int .i64 0)] [(7, ⟨8, true, [[.int .u8 p3.fFrom, .int .u8 p3.fTo, .int .u16 p3.fAfter, .int .i64 p3.fNow, .str p3.fRawFrom.fHost, .int .i64 p3.fRawFrom.fPort, .str p3.fRawTo.fHost, .int .i64 p3.fRawTo.fPort]]⟩), (10, ⟨9, true, [[.int .i64 r401.a0.fMapping, .int .i64 r401.a0.fFilter, .int .i64 r401.a0.fTimeout, .bool r401.a0.fHairpin, .str r401.a0.fHost, .int .i64 r401.a0.fLow, .int .i64 r401.a0.fHigh, .int .i64 r401.a0.fNow, .sl false 7 (List.map tySBinding.c r401.a0.fTable)]]⟩), (14, ⟨9, true, [[.int .i64 r405.1.fMapping, .int .i64 r405.1.fFilter, .int .i64 r405.1.fTimeout, .bool r405.1.fHairpin, .str r405.1.fHost, .int .i64 r405.1.fLow, .int .i64 r405.1.fHigh, .int .i64 r405.1.fNow, .sl false 7 (List.map tySBinding.c r405.1.fTable)]]⟩), (17, ⟨9, true, [[.int .i64 e408.1, .int .i64 e408.2.1, .int .i64 e408.2.2.1, .bool e408.2.2.2.1, .str e408.2.2.2.2.1, .int .i64 e408.2.2.2.2.2.1, .int .i64 e408.2.2.2.2.2.2.1, .int .i64 e408.2.2.2.2.2.2.2.1, .ref 600260 0 e408.2.2.2.2.2.2.2.2.length]]⟩)] [BT.of 600260 tySBindingO6 7 e408.2.2.2.2.2.2.2.2 true] (by rfl))
        (fun e408 =>
          .cnd 18 [72]
          (.br 18005 (r405.2 != r406)
            (.done true)
            (.view 18007 (s22 r405.1 (SNat.mk e408.1 e408.2.1 e408.2.2.1 e408.2.2.2.1 e408.2.2.2.2.1 e408.2.2.2.2.2.1 e408.2.2.2.2.2.2.1 e408.2.2.2.2.2.2.2.1 e408.2.2.2.2.2.2.2.2)) [⟨600260, _, tySBindingO6, e408.2.2.2.2.2.2.2.2⟩] fun r409 =>
              .done (!r409)))
          (fun (c410 : Bool) => [.bool c410]) fun c410 =>
          .br 0 c410
          (.done false)
          (.tt (.gh 16 (.drop [14]) (.call 14003 (s20 r401.a0 (wi64 (r401.a0.fNow + (wi64 p3.fAfter)))) [] [] fun r411 =>
            .gh 17 (.drop [17]) (.call 15003 (s18 r401.a0 (wi64 (r401.a0.fNow + (wi64 p3.fAfter))) []) [] [] fun r412 =>
            .bind 0
            (.br 0 (r412 == 0)
              (.call 17003 (s21 r401.a0 (wi64 (r401.a0.fNow + (wi64 p3.fAfter)))) [] [(600014, 500263)] fun r413 =>
                .gh 0 (.ren 500263 600264) (.done (r401.a0.fMapping, r401.a0.fFilter, r401.a0.fTimeout, r401.a0.fHairpin, r401.a0.fHost, r401.a0.fLow, r401.a0.fHigh, (wi64 (r401.a0.fNow + (wi64 p3.fAfter))), r413)))
              (.gh 0 (.virtC 600264 17 8 7) (.done (0, 0, 0, false, ByteArray.empty, 0, 0, 0, []))))
            (fun (e414 : Int × Int × Int × Bool × ByteArray × Int × Int × Int × (List SBinding)) => Ext.of .normal [(7, .ptr 7 0 0), (8, .bool false), (10, .ptr 10 0 0), (14, .ptr 14 0 0), (15, .int .i64 r411.2), (16, .int .i64 r412), (17, .ptr 17 0 0), (23, .agg [.int .i64 r401.a0.fMapping, .int .i64 r401.a0.fFilter, .int .i64 r401.a0.fTimeout, .bool r401.a0.fHairpin, .str r401.a0.fHost, .int .i64 r401.a0.fLow, .int .i64 r401.a0.fHigh, .int .i64 r401.a0.fNow, .sl false 7 (List.map tySBinding.c r401.a0.fTable), .int .i64 r401.a1.fMapping, .int .i64 r401.a1.fFilter, .int .i64 r401.a1.fTimeout, .bool r401.a1.fHairpin, .str r401.a1.fHost, .int .i64 r401.a1.fLow, .int .i64 r401.a1.fHigh, .int .i64 r401.a1.fNow, .sl false 7 (List.map tySBinding.c r401.a1.fTable), .int .i64 r401.a2.fMapping, .int .i64 r401.a2.fFilter, .int .i64 r401.a2.fTimeout, .bool r401.a2.fHairpin, .str r401.a2.fHost, .int .i64 r401.a2.fLow, .int .i64 r401.a2.fHigh, .int .i64 r401.a2.fNow, .sl false 7 (List.map tySBinding.c r401.a2.fTable), .int .i64 r401.a3.fMapping, .int .i64 r401.a3.fFilter, .int .i64 r401.a3.fTimeout, .bool r401.a3.fHairpin, .str r401.a3.fHost, .int .i64 r401.a3.fLow, .int .i64 r401.a3.fHigh, .int .i64 r401.a3.fNow, .sl false 7 (List.map tySBinding.c r401.a3.fTable)]), (24, .int .i64 0), (45, .agg [.int .i64 p3.fNow, .int .i64 (wi64 (r401.a0.fNow + (wi64 p3.fAfter)))]), (46, .int .i64 1)] [(7, ⟨8, true, [[.int .u8 p3.fFrom, .int .u8 p3.fTo, .int .u16 p3.fAfter, .int .i64 p3.fNow, .str p3.fRawFrom.fHost, .int .i64 p3.fRawFrom.fPort, .str p3.fRawTo.fHost, .int .i64 p3.fRawTo.fPort]]⟩), (10, ⟨9, true, [[.int .i64 r401.a0.fMapping, .int .i64 r401.a0.fFilter, .int .i64 r401.a0.fTimeout, .bool r401.a0.fHairpin, .str r401.a0.fHost, .int .i64 r401.a0.fLow, .int .i64 r401.a0.fHigh, .int .i64 r401.a0.fNow, .sl false 7 (List.map tySBinding.c r401.a0.fTable)]]⟩), (14, ⟨9, true, [[.int .i64 r411.1.fMapping, .int .i64 r411.1.fFilter, .int .i64 r411.1.fTimeout, .bool r411.1.fHairpin, .str r411.1.fHost, .int .i64 r411.1.fLow, .int .i64 r411.1.fHigh, .int .i64 r411.1.fNow, .sl false 7 (List.map tySBinding.c r411.1.fTable)]]⟩), (17, ⟨9, true, [[.int .i64 e414.1, .int .i64 e414.2.1, .int .i64 e414.2.2.1, .bool e414.2.2.2.1, .str e414.2.2.2.2.1, .int .i64 e414.2.2.2.2.2.1, .int .i64 e414.2.2.2.2.2.2.1, .int .i64 e414.2.2.2.2.2.2.2.1, .ref 600264 0 e414.2.2.2.2.2.2.2.2.length]]⟩)] [BT.of 600264 tySBindingO6 7 e414.2.2.2.2.2.2.2.2 true] (by rfl))
            (fun e414 =>
              .cnd 18 [72]
              (.br 18005 (r411.2 != r412)
                (.done true)
                (.view 18007 (s22 r411.1 (SNat.mk e414.1 e414.2.1 e414.2.2.1 e414.2.2.2.1 e414.2.2.2.2.1 e414.2.2.2.2.2.1 e414.2.2.2.2.2.2.1 e414.2.2.2.2.2.2.2.1 e414.2.2.2.2.2.2.2.2)) [⟨600264, _, tySBindingO6, e414.2.2.2.2.2.2.2.2⟩] fun r415 =>
                  .done (!r415)))
              (fun (c416 : Bool) => [.bool c416]) fun c416 =>
              .br 0 c416
              (.done false)
              (.ff (.tt (.gh 7 (.drop [10]) (.call 6004 (s18 r401.a1 r401.a1.fNow []) [] [] fun r417 =>
                .bind 0
                (.br 0 (r417 == 2)
                  (.done 0)
                  (.done r417))
                (fun (e418 : Int) => Ext.lit .normal [(7, .ptr 7 0 0), (8, .bool false), (10, .ptr 10 0 0), (11, .int .i64 e418), (23, .agg [.int .i64 r401.a0.fMapping, .int .i64 r401.a0.fFilter, .int .i64 r401.a0.fTimeout, .bool r401.a0.fHairpin, .str r401.a0.fHost, .int .i64 r401.a0.fLow, .int .i64 r401.a0.fHigh, .int .i64 r401.a0.fNow, .sl false 7 (List.map tySBinding.c r401.a0.fTable), .int .i64 r401.a1.fMapping, .int .i64 r401.a1.fFilter, .int .i64 r401.a1.fTimeout, .bool r401.a1.fHairpin, .str r401.a1.fHost, .int .i64 r401.a1.fLow, .int .i64 r401.a1.fHigh, .int .i64 r401.a1.fNow, .sl false 7 (List.map tySBinding.c r401.a1.fTable), .int .i64 r401.a2.fMapping, .int .i64 r401.a2.fFilter, .int .i64 r401.a2.fTimeout, .bool r401.a2.fHairpin, .str r401.a2.fHost, .int .i64 r401.a2.fLow, .int .i64 r401.a2.fHigh, .int .i64 r401.a2.fNow, .sl false 7 (List.map tySBinding.c r401.a2.fTable), .int .i64 r401.a3.fMapping, .int .i64 r401.a3.fFilter, .int .i64 r401.a3.fTimeout, .bool r401.a3.fHairpin, .str r401.a3.fHost, .int .i64 r401.a3.fLow, .int .i64 r401.a3.fHigh, .int .i64 r401.a3.fNow, .sl false 7 (List.map tySBinding.c r401.a3.fTable)]), (24, .int .i64 1)] [(7, ⟨8, true, [[.int .u8 p3.fFrom, .int .u8 p3.fTo, .int .u16 p3.fAfter, .int .i64 p3.fNow, .str p3.fRawFrom.fHost, .int .i64 p3.fRawFrom.fPort, .str p3.fRawTo.fHost, .int .i64 p3.fRawTo.fPort]]⟩), (10, ⟨9, true, [[.int .i64 r401.a1.fMapping, .int .i64 r401.a1.fFilter, .int .i64 r401.a1.fTimeout, .bool r401.a1.fHairpin, .str r401.a1.fHost, .int .i64 r401.a1.fLow, .int .i64 r401.a1.fHigh, .int .i64 r401.a1.fNow, .sl false 7 (List.map tySBinding.c r401.a1.fTable)]]⟩)])
                (fun e418 =>
                  .call 9002 (s19 r401.a1) [] [] fun r419 =>
                  .br 0 (r419 != e418)
                  (.done false)
                  (.tt (.call 14003 (s20 r401.a1 p3.fNow) [] [] fun r420 =>
                    .call 15003 (s18 r401.a1 p3.fNow []) [] [] fun r421 =>
                    .bind 0
                    (.br 0 (r421 == 0)
                      (.call 17003 (s21 r401.a1 p3.fNow) [] [(600014, 500291)] fun r422 =>
                        .gh 0 (.ren 500291 600292) (.done (r401.a1.fMapping, r401.a1.fFilter, r401.a1.fTimeout, r401.a1.fHairpin, r401.a1.fHost, r401.a1.fLow, r401.a1.fHigh, p3.fNow, r422)))
                      (.gh 0 (.virtC 600292 17 8 7) (.done (0, 0, 0, false, ByteArray.empty, 0, 0, 0, []))))
                    (fun (e423 : Int × Int × Int × Bool × ByteArray × Int × Int × Int × (List SBinding)) => Ext.of .normal [(7, .ptr 7 0 0), (8, .bool false), (10, .ptr 10 0 0), (14, .ptr 14 0 0), (15, .int .i64 r420.2), (16, .int .i64 r421), (17, .ptr 17 0 0), (23, .agg [.int .i64 r401.a0.fMapping, .int .i64 r401.a0.fFilter, .int .i64 r401.a0.fTimeout, .bool r401.a0.fHairpin, .str r401.a0.fHost, .int .i64 r401.a0.fLow, .int .i64 r401.a0.fHigh, .int .i64 r401.a0.fNow, .sl false 7 (List.map tySBinding.c r401.a0.fTable), .int .i64 r401.a1.fMapping, .int .i64 r401.a1.fFilter, .int .i64 r401.a1.fTimeout, .bool r401.a1.fHairpin, .str r401.a1.fHost, .int .i64 r401.a1.fLow, .int .i64 r401.a1.fHigh, .int .i64 r401.a1.fNow, .sl false 7 (List.map tySBinding.c r401.a1.fTable), .int .i64 r401.a2.fMapping, .int .i64 r401.a2.fFilter, .int .i64 r401.a2.fTimeout, .bool r401.a2.fHairpin, .str r401.a2.fHost, .int .i64 r401.a2.fLow, .int .i64 r401.a2.fHigh, .int .i64 r401.a2.fNow, .sl false 7 (List.map tySBinding.c r401.a2.fTable), .int .i64 r401.a3.fMapping, .int .i64 r401.a3.fFilter, .int .i64 r401.a3.fTimeout, .bool r401.a3.fHairpin, .str r401.a3.fHost, .int .i64 r401.a3.fLow, .int .i64 r401.a3.fHigh, .int .i64 r401.a3.fNow, .sl false 7 (List.map tySBinding.c r401.a3.fTable)]), (24, .int .i64 1), (45, .agg [.int .i64 p3.fNow, .int .i64 (wi64 (r401.a1.fNow + (wi64 p3.fAfter)))]), (46, .int .i64 0)] [(7, ⟨8, true, [[.int .u8 p3.fFrom, .int .u8 p3.fTo, .int .u16 p3.fAfter, .int .i64 p3.fNow, .str p3.fRawFrom.fHost, .int .i64 p3.fRawFrom.fPort, .str p3.fRawTo.fHost, .int .i64 p3.fRawTo.fPort]]⟩), (10, ⟨9, true, [[.int .i64 r401.a1.fMapping, .int .i64 r401.a1.fFilter, .int .i64 r401.a1.fTimeout, .bool r401.a1.fHairpin, .str r401.a1.fHost, .int .i64 r401.a1.fLow, .int .i64 r401.a1.fHigh, .int .i64 r401.a1.fNow, .sl false 7 (List.map tySBinding.c r401.a1.fTable)]]⟩), (14, ⟨9, true, [[.int .i64 r420.1.fMapping, .int .i64 r420.1.fFilter, .int .i64 r420.1.fTimeout, .bool r420.1.fHairpin, .str r420.1.fHost, .int .i64 r420.1.fLow, .int .i64 r420.1.fHigh, .int .i64 r420.1.fNow, .sl false 7 (List.map tySBinding.c r420.1.fTable)]]⟩), (17, ⟨9, true, [[.int .i64 e423.1, .int .i64 e423.2.1, .int .i64 e423.2.2.1, .bool e423.2.2.2.1, .str e423.2.2.2.2.1, .int .i64 e423.2.2.2.2.2.1, .int .i64 e423.2.2.2.2.2.2.1, .int .i64 e423.2.2.2.2.2.2.2.1, .ref 600292 0 e423.2.2.2.2.2.2.2.2.length]]⟩)] [BT.of 600292 tySBindingO6 7 e423.2.2.2.2.2.2.2.2 true] (by rfl))
                    (fun e423 =>
                      .cnd 18 [72]
                      (.br 18005 (r420.2 != r421)
                        (.done true)
                        (.view 18007 (s22 r420.1 (SNat.mk e423.1 e423.2.1 e423.2.2.1 e423.2.2.2.1 e423.2.2.2.2.1 e423.2.2.2.2.2.1 e423.2.2.2.2.2.2.1 e423.2.2.2.2.2.2.2.1 e423.2.2.2.2.2.2.2.2)) [⟨600292, _, tySBindingO6, e423.2.2.2.2.2.2.2.2⟩] fun r424 =>
                          .done (!r424)))
                      (fun (c425 : Bool) => [.bool c425]) fun c425 =>
                      .br 0 c425
                      (.done false)
                      (.tt (.gh 16 (.drop [14]) (.call 14003 (s20 r401.a1 (wi64 (r401.a1.fNow + (wi64 p3.fAfter)))) [] [] fun r426 =>
                        .gh 17 (.drop [17]) (.call 15003 (s18 r401.a1 (wi64 (r401.a1.fNow + (wi64 p3.fAfter))) []) [] [] fun r427 =>
                        .bind 0
                        (.br 0 (r427 == 0)
                          (.call 17003 (s21 r401.a1 (wi64 (r401.a1.fNow + (wi64 p3.fAfter)))) [] [(600014, 500295)] fun r428 =>
                            .gh 0 (.ren 500295 600296) (.done (r401.a1.fMapping, r401.a1.fFilter, r401.a1.fTimeout, r401.a1.fHairpin, r401.a1.fHost, r401.a1.fLow, r401.a1.fHigh, (wi64 (r401.a1.fNow + (wi64 p3.fAfter))), r428)))
                          (.gh 0 (.virtC 600296 17 8 7) (.done (0, 0, 0, false, ByteArray.empty, 0, 0, 0, []))))
                        (fun (e429 : Int × Int × Int × Bool × ByteArray × Int × Int × Int × (List SBinding)) => Ext.of .normal [(7, .ptr 7 0 0), (8, .bool false), (10, .ptr 10 0 0), (14, .ptr 14 0 0), (15, .int .i64 r426.2), (16, .int .i64 r427), (17, .ptr 17 0 0), (23, .agg [.int .i64 r401.a0.fMapping, .int .i64 r401.a0.fFilter, .int .i64 r401.a0.fTimeout, .bool r401.a0.fHairpin, .str r401.a0.fHost, .int .i64 r401.a0.fLow, .int .i64 r401.a0.fHigh, .int .i64 r401.a0.fNow, .sl false 7 (List.map tySBinding.c r401.a0.fTable), .int .i64 r401.a1.fMapping, .int .i64 r401.a1.fFilter, .int .i64 r401.a1.fTimeout, .bool r401.a1.fHairpin, .str r401.a1.fHost, .int .i64 r401.a1.fLow, .int .i64 r401.a1.fHigh, .int .i64 r401.a1.fNow, .sl false 7 (List.map tySBinding.c r401.a1.fTable), .int .i64 r401.a2.fMapping, .int .i64 r401.a2.fFilter, .int .i64 r401.a2.fTimeout, .bool r401.a2.fHairpin, .str r401.a2.fHost, .int .i64 r401.a2.fLow, .int .i64 r401.a2.fHigh, .int .i64 r401.a2.fNow, .sl false 7 (List.map tySBinding.c r401.a2.fTable), .int .i64 r401.a3.fMapping, .int .i64 r401.a3.fFilter, .int .i64 r401.a3.fTimeout, .bool r401.a3.fHairpin, .str r401.a3.fHost, .int .i64 r401.a3.fLow, .int .i64 r401.a3.fHigh, .int .i64 r401.a3.fNow, .sl false 7 (List.map tySBinding.c r401.a3.fTable)]), (24, .int .i64 1), (45, .agg [.int .i64 p3.fNow, .int .i64 (wi64 (r401.a1.fNow + (wi64 p3.fAfter)))]), (46, .int .i64 1)] [(7, ⟨8, true, [[.int .u8 p3.fFrom, .int .u8 p3.fTo, .int .u16 p3.fAfter, .int .i64 p3.fNow, .str p3.fRawFrom.fHost, .int .i64 p3.fRawFrom.fPort, .str p3.fRawTo.fHost, .int .i64 p3.fRawTo.fPort]]⟩), (10, ⟨9, true, [[.int .i64 r401.a1.fMapping, .int .i64 r401.a1.fFilter, .int .i64 r401.a1.fTimeout, .bool r401.a1.fHairpin, .str r401.a1.fHost, .int .i64 r401.a1.fLow, .int .i64 r401.a1.fHigh, .int .i64 r401.a1.fNow, .sl false 7 (List.map tySBinding.c r401.a1.fTable)]]⟩), (14, ⟨9, true, [[.int .i64 r426.1.fMapping, .int .i64 r426.1.fFilter, .int .i64 r426.1.fTimeout, .bool r426.1.fHairpin, .str r426.1.fHost, .int .i64 r426.1.fLow, .int .i64 r426.1.fHigh, .int .i64 r426.1.fNow, .sl false 7 (List.map tySBinding.c r426.1.fTable)]]⟩), (17, ⟨9, true, [[.int .i64 e429.1, .int .i64 e429.2.1, .int .i64 e429.2.2.1, .bool e429.2.2.2.1, .str e429.2.2.2.2.1, .int .i64 e429.2.2.2.2.2.1, .int .i64 e429.2.2.2.2.2.2.1, .int .i64 e429.2.2.2.2.2.2.2.1, .ref 600296 0 e429.2.2.2.2.2.2.2.2.length]]⟩)] [BT.of 600296 tySBindingO6 7 e429.2.2.2.2.2.2.2.2 true] (by rfl))
                        (fun e429 =>
                          .cnd 18 [72]
                          (.br 18005 (r426.2 != r427)
                            (.done true)
                            (.view 18007 (s22 r426.1 (SNat.mk e429.1 e429.2.1 e429.2.2.1 e429.2.2.2.1 e429.2.2.2.2.1 e429.2.2.2.2.2.1 e429.2.2.2.2.2.2.1 e429.2.2.2.2.2.2.2.1 e429.2.2.2.2.2.2.2.2)) [⟨600296, _, tySBindingO6, e429.2.2.2.2.2.2.2.2⟩] fun r430 =>
                              .done (!r430)))
                          (fun (c431 : Bool) => [.bool c431]) fun c431 =>
                          .br 0 c431
                          (.done false)
                          (.ff (.tt (.gh 7 (.drop [10]) (.call 6004 (s18 r401.a2 r401.a2.fNow []) [] [] fun r432 =>
                            .bind 0
                            (.br 0 (r432 == 2)
                              (.done 0)
                              (.done r432))
                            (fun (e433 : Int) => Ext.lit .normal [(7, .ptr 7 0 0), (8, .bool false), (10, .ptr 10 0 0), (11, .int .i64 e433), (23, .agg [.int .i64 r401.a0.fMapping, .int .i64 r401.a0.fFilter, .int .i64 r401.a0.fTimeout, .bool r401.a0.fHairpin, .str r401.a0.fHost, .int .i64 r401.a0.fLow, .int .i64 r401.a0.fHigh, .int .i64 r401.a0.fNow, .sl false 7 (List.map tySBinding.c r401.a0.fTable), .int .i64 r401.a1.fMapping, .int .i64 r401.a1.fFilter, .int .i64 r401.a1.fTimeout, .bool r401.a1.fHairpin, .str r401.a1.fHost, .int .i64 r401.a1.fLow, .int .i64 r401.a1.fHigh, .int .i64 r401.a1.fNow, .sl false 7 (List.map tySBinding.c r401.a1.fTable), .int .i64 r401.a2.fMapping, .int .i64 r401.a2.fFilter, .int .i64 r401.a2.fTimeout, .bool r401.a2.fHairpin, .str r401.a2.fHost, .int .i64 r401.a2.fLow, .int .i64 r401.a2.fHigh, .int .i64 r401.a2.fNow, .sl false 7 (List.map tySBinding.c r401.a2.fTable), .int .i64 r401.a3.fMapping, .int .i64 r401.a3.fFilter, .int .i64 r401.a3.fTimeout, .bool r401.a3.fHairpin, .str r401.a3.fHost, .int .i64 r401.a3.fLow, .int .i64 r401.a3.fHigh, .int .i64 r401.a3.fNow, .sl false 7 (List.map tySBinding.c r401.a3.fTable)]), (24, .int .i64 2)] [(7, ⟨8, true, [[.int .u8 p3.fFrom, .int .u8 p3.fTo, .int .u16 p3.fAfter, .int .i64 p3.fNow, .str p3.fRawFrom.fHost, .int .i64 p3.fRawFrom.fPort, .str p3.fRawTo.fHost, .int .i64 p3.fRawTo.fPort]]⟩), (10, ⟨9, true, [[.int .i64 r401.a2.fMapping, .int .i64 r401.a2.fFilter, .int .i64 r401.a2.fTimeout, .bool r401.a2.fHairpin, .str r401.a2.fHost, .int .i64 r401.a2.fLow, .int .i64 r401.a2.fHigh, .int .i64 r401.a2.fNow, .sl false 7 (List.map tySBinding.c r401.a2.fTable)]]⟩)])
                            (fun e433 =>
                              .call 9002 (s19 r401.a2) [] [] fun r434 =>
                              .br 0 (r434 != e433)
                              (.done false)
                              (.tt (.call 14003 (s20 r401.a2 p3.fNow) [] [] fun r435 =>
                                .call 15003 (s18 r401.a2 p3.fNow []) [] [] fun r436 =>
                                .bind 0
                                (.br 0 (r436 == 0)
                                  (.call 17003 (s21 r401.a2 p3.fNow) [] [(600014, 500323)] fun r437 =>
                                    .gh 0 (.ren 500323 600324) (.done (r401.a2.fMapping, r401.a2.fFilter, r401.a2.fTimeout, r401.a2.fHairpin, r401.a2.fHost, r401.a2.fLow, r401.a2.fHigh, p3.fNow, r437)))
                                  (.gh 0 (.virtC 600324 17 8 7) (.done (0, 0, 0, false, ByteArray.empty, 0, 0, 0, []))))
                                (fun (e438 : Int × Int × Int × Bool × ByteArray × Int × Int × Int × (List SBinding)) => Ext.of .normal [(7, .ptr 7 0 0), (8, .bool false), (10, .ptr 10 0 0), (14, .ptr 14 0 0), (15, .int .i64 r435.2), (16, .int .i64 r436), (17, .ptr 17 0 0), (23, .agg [.int .i64 r401.a0.fMapping, .int .i64 r401.a0.fFilter, .int .i64 r401.a0.fTimeout, .bool r401.a0.fHairpin, .str r401.a0.fHost, .int .i64 r401.a0.fLow, .int .i64 r401.a0.fHigh, .int .i64 r401.a0.fNow, .sl false 7 (List.map tySBinding.c r401.a0.fTable), .int .i64 r401.a1.fMapping, .int .i64 r401.a1.fFilter, .int .i64 r401.a1.fTimeout, .bool r401.a1.fHairpin, .str r401.a1.fHost, .int .i64 r401.a1.fLow, .int .i64 r401.a1.fHigh, .int .i64 r401.a1.fNow, .sl false 7 (List.map tySBinding.c r401.a1.fTable), .int .i64 r401.a2.fMapping, .int .i64 r401.a2.fFilter, .int .i64 r401.a2.fTimeout, .bool r401.a2.fHairpin, .str r401.a2.fHost, .int .i64 r401.a2.fLow, .int .i64 r401.a2.fHigh, .int .i64 r401.a2.fNow, .sl false 7 (List.map tySBinding.c r401.a2.fTable), .int .i64 r401.a3.fMapping, .int .i64 r401.a3.fFilter, .int .i64 r401.a3.fTimeout, .bool r401.a3.fHairpin, .str r401.a3.fHost, .int .i64 r401.a3.fLow, .int .i64 r401.a3.fHigh, .int .i64 r401.a3.fNow, .sl false 7 (List.map tySBinding.c r401.a3.fTable)]), (24, .int .i64 2), (45, .agg [.int .i64 p3.fNow, .int .i64 (wi64 (r401.a2.fNow + (wi64 p3.fAfter)))]), (46, .int .i64 0)] [(7, ⟨8, true, [[.int .u8 p3.fFrom, .int .u8 p3.fTo, .int .u16 p3.fAfter, .int .i64 p3.fNow, .str p3.fRawFrom.fHost, .int .i64 p3.fRawFrom.fPort, .str p3.fRawTo.fHost, .int .i64 p3.fRawTo.fPort]]⟩), (10, ⟨9, true, [[.int .i64 r401.a2.fMapping, .int .i64 r401.a2.fFilter, .int .i64 r401.a2.fTimeout, .bool r401.a2.fHairpin, .str r401.a2.fHost, .int .i64 r401.a2.fLow, .int .i64 r401.a2.fHigh, .int .i64 r401.a2.fNow, .sl false 7 (List.map tySBinding.c r401.a2.fTable)]]⟩), (14, ⟨9, true, [[.int .i64 r435.1.fMapping, .int .i64 r435.1.fFilter, .int .i64 r435.1.fTimeout, .bool r435.1.fHairpin, .str r435.1.fHost, .int .i64 r435.1.fLow, .int .i64 r435.1.fHigh, .int .i64 r435.1.fNow, .sl false 7 (List.map tySBinding.c r435.1.fTable)]]⟩), (17, ⟨9, true, [[.int .i64 e438.1, .int .i64 e438.2.1, .int .i64 e438.2.2.1, .bool e438.2.2.2.1, .str e438.2.2.2.2.1, .int .i64 e438.2.2.2.2.2.1, .int .i64 e438.2.2.2.2.2.2.1, .int .i64 e438.2.2.2.2.2.2.2.1, .ref 600324 0 e438.2.2.2.2.2.2.2.2.length]]⟩)] [BT.of 600324 tySBindingO6 7 e438.2.2.2.2.2.2.2.2 true] (by rfl))
                                (fun e438 =>
                                  .cnd 18 [72]
                                  (.br 18005 (r435.2 != r436)
                                    (.done true)
                                    (.view 18007 (s22 r435.1 (SNat.mk e438.1 e438.2.1 e438.2.2.1 e438.2.2.2.1 e438.2.2.2.2.1 e438.2.2.2.2.2.1 e438.2.2.2.2.2.2.1 e438.2.2.2.2.2.2.2.1 e438.2.2.2.2.2.2.2.2)) [⟨600324, _, tySBindingO6, e438.2.2.2.2.2.2.2.2⟩] fun r439 =>
                                      .done (!r439)))
                                  (fun (c440 : Bool) => [.bool c440]) fun c440 =>
                                  .br 0 c440
                                  (.done false)
                                  (.tt (.gh 16 (.drop [14]) (.call 14003 (s20 r401.a2 (wi64 (r401.a2.fNow + (wi64 p3.fAfter)))) [] [] fun r441 =>
                                    .gh 17 (.drop [17]) (.call 15003 (s18 r401.a2 (wi64 (r401.a2.fNow + (wi64 p3.fAfter))) []) [] [] fun r442 =>
                                    .bind 0
                                    (.br 0 (r442 == 0)
                                      (.call 17003 (s21 r401.a2 (wi64 (r401.a2.fNow + (wi64 p3.fAfter)))) [] [(600014, 500327)] fun r443 =>
                                        .gh 0 (.ren 500327 600328) (.done (r401.a2.fMapping, r401.a2.fFilter, r401.a2.fTimeout, r401.a2.fHairpin, r401.a2.fHost, r401.a2.fLow, r401.a2.fHigh, (wi64 (r401.a2.fNow + (wi64 p3.fAfter))), r443)))
                                      (.gh 0 (.virtC 600328 17 8 7) (.done (0, 0, 0, false, ByteArray.empty, 0, 0, 0, []))))
                                    (fun (e444 : Int × Int × Int × Bool × ByteArray × Int × Int × Int × (List SBinding)) => Ext.of .normal [(7, .ptr 7 0 0), (8, .bool false), (10, .ptr 10 0 0), (14, .ptr 14 0 0), (15, .int .i64 r441.2), (16, .int .i64 r442), (17, .ptr 17 0 0), (23, .agg [.int .i64 r401.a0.fMapping, .int .i64 r401.a0.fFilter, .int .i64 r401.a0.fTimeout, .bool r401.a0.fHairpin, .str r401.a0.fHost, .int .i64 r401.a0.fLow, .int .i64 r401.a0.fHigh, .int .i64 r401.a0.fNow, .sl false 7 (List.map tySBinding.c r401.a0.fTable), .int .i64 r401.a1.fMapping, .int .i64 r401.a1.fFilter, .int .i64 r401.a1.fTimeout, .bool r401.a1.fHairpin, .str r401.a1.fHost, .int .i64 r401.a1.fLow, .int .i64 r401.a1.fHigh, .int .i64 r401.a1.fNow, .sl false 7 (List.map tySBinding.c r401.a1.fTable), .int .i64 r401.a2.fMapping, .int .i64 r401.a2.fFilter, .int .i64 r401.a2.fTimeout, .bool r401.a2.fHairpin, .str r401.a2.fHost, .int .i64 r401.a2.fLow, .int .i64 r401.a2.fHigh, .int .i64 r401.a2.fNow, .sl false 7 (List.map tySBinding.c r401.a2.fTable), .int .i64 r401.a3.fMapping, .int .i64 r401.a3.fFilter, .int .i64 r401.a3.fTimeout, .bool r401.a3.fHairpin, .str r401.a3.fHost, .int .i64 r401.a3.fLow, .int .i64 r401.a3.fHigh, .int .i64 r401.a3.fNow, .sl false 7 (List.map tySBinding.c r401.a3.fTable)]), (24, .int .i64 2), (45, .agg [.int .i64 p3.fNow, .int .i64 (wi64 (r401.a2.fNow + (wi64 p3.fAfter)))]), (46, .int .i64 1)] [(7, ⟨8, true, [[.int .u8 p3.fFrom, .int .u8 p3.fTo, .int .u16 p3.fAfter, .int .i64 p3.fNow, .str p3.fRawFrom.fHost, .int .i64 p3.fRawFrom.fPort, .str p3.fRawTo.fHost, .int .i64 p3.fRawTo.fPort]]⟩), (10, ⟨9, true, [[.int .i64 r401.a2.fMapping, .int .i64 r401.a2.fFilter, .int .i64 r401.a2.fTimeout, .bool r401.a2.fHairpin, .str r401.a2.fHost, .int .i64 r401.a2.fLow, .int .i64 r401.a2.fHigh, .int .i64 r401.a2.fNow, .sl false 7 (List.map tySBinding.c r401.a2.fTable)]]⟩), (14, ⟨9, true, [[.int .i64 r441.1.fMapping, .int .i64 r441.1.fFilter, .int .i64 r441.1.fTimeout, .bool r441.1.fHairpin, .str r441.1.fHost, .int .i64 r441.1.fLow, .int .i64 r441.1.fHigh, .int .i64 r441.1.fNow, .sl false 7 (List.map tySBinding.c r441.1.fTable)]]⟩), (17, ⟨9, true, [[.int .i64 e444.1, .int .i64 e444.2.1, .int .i64 e444.2.2.1, .bool e444.2.2.2.1, .str e444.2.2.2.2.1, .int .i64 e444.2.2.2.2.2.1, .int .i64 e444.2.2.2.2.2.2.1, .int .i64 e444.2.2.2.2.2.2.2.1, .ref 600328 0 e444.2.2.2.2.2.2.2.2.length]]⟩)] [BT.of 600328 tySBindingO6 7 e444.2.2.2.2.2.2.2.2 true] (by rfl))
                                    (fun e444 =>
                                      .cnd 18 [72]
                                      (.br 18005 (r441.2 != r442)
                                        (.done true)
                                        (.view 18007 (s22 r441.1 (SNat.mk e444.1 e444.2.1 e444.2.2.1 e444.2.2.2.1 e444.2.2.2.2.1 e444.2.2.2.2.2.1 e444.2.2.2.2.2.2.1 e444.2.2.2.2.2.2.2.1 e444.2.2.2.2.2.2.2.2)) [⟨600328, _, tySBindingO6, e444.2.2.2.2.2.2.2.2⟩] fun r445 =>
                                          .done (!r445)))
                                      (fun (c446 : Bool) => [.bool c446]) fun c446 =>
                                      .br 0 c446
                                      (.done false)
                                      (.ff (.tt (.gh 7 (.drop [10]) (.call 6004 (s18 r401.a3 r401.a3.fNow []) [] [] fun r447 =>
                                        .bind 0
                                        (.br 0 (r447 == 2)
                                          (.done 0)
                                          (.done r447))
                                        (fun (e448 : Int) => Ext.lit .normal [(7, .ptr 7 0 0), (8, .bool false), (10, .ptr 10 0 0), (11, .int .i64 e448), (23, .agg [.int .i64 r401.a0.fMapping, .int .i64 r401.a0.fFilter, .int .i64 r401.a0.fTimeout, .bool r401.a0.fHairpin, .str r401.a0.fHost, .int .i64 r401.a0.fLow, .int .i64 r401.a0.fHigh, .int .i64 r401.a0.fNow, .sl false 7 (List.map tySBinding.c r401.a0.fTable), .int .i64 r401.a1.fMapping, .int .i64 r401.a1.fFilter, .int .i64 r401.a1.fTimeout, .bool r401.a1.fHairpin, .str r401.a1.fHost, .int .i64 r401.a1.fLow, .int .i64 r401.a1.fHigh, .int .i64 r401.a1.fNow, .sl false 7 (List.map tySBinding.c r401.a1.fTable), .int .i64 r401.a2.fMapping, .int .i64 r401.a2.fFilter, .int .i64 r401.a2.fTimeout, .bool r401.a2.fHairpin, .str r401.a2.fHost, .int .i64 r401.a2.fLow, .int .i64 r401.a2.fHigh, .int .i64 r401.a2.fNow, .sl false 7 (List.map tySBinding.c r401.a2.fTable), .int .i64 r401.a3.fMapping, .int .i64 r401.a3.fFilter, .int .i64 r401.a3.fTimeout, .bool r401.a3.fHairpin, .str r401.a3.fHost, .int .i64 r401.a3.fLow, .int .i64 r401.a3.fHigh, .int .i64 r401.a3.fNow, .sl false 7 (List.map tySBinding.c r401.a3.fTable)]), (24, .int .i64 3)] [(7, ⟨8, true, [[.int .u8 p3.fFrom, .int .u8 p3.fTo, .int .u16 p3.fAfter, .int .i64 p3.fNow, .str p3.fRawFrom.fHost, .int .i64 p3.fRawFrom.fPort, .str p3.fRawTo.fHost, .int .i64 p3.fRawTo.fPort]]⟩), (10, ⟨9, true, [[.int .i64 r401.a3.fMapping, .int .i64 r401.a3.fFilter, .int .i64 r401.a3.fTimeout, .bool r401.a3.fHairpin, .str r401.a3.fHost, .int .i64 r401.a3.fLow, .int .i64 r401.a3.fHigh, .int .i64 r401.a3.fNow, .sl false 7 (List.map tySBinding.c r401.a3.fTable)]]⟩)])
                                        (fun e448 =>
                                          .call 9002 (s19 r401.a3) [] [] fun r449 =>
                                          .br 0 (r449 != e448)
                                          (.done false)
                                          (.tt (.call 14003 (s20 r401.a3 p3.fNow) [] [] fun r450 =>
                                            .call 15003 (s18 r401.a3 p3.fNow []) [] [] fun r451 =>
                                            .bind 0
                                            (.br 0 (r451 == 0)
                                              (.call 17003 (s21 r401.a3 p3.fNow) [] [(600014, 500355)] fun r452 =>
                                                .gh 0 (.ren 500355 600356) (.done (r401.a3.fMapping, r401.a3.fFilter, r401.a3.fTimeout, r401.a3.fHairpin, r401.a3.fHost, r401.a3.fLow, r401.a3.fHigh, p3.fNow, r452)))
                                              (.gh 0 (.virtC 600356 17 8 7) (.done (0, 0, 0, false, ByteArray.empty, 0, 0, 0, []))))
                                            (fun (e453 : Int × Int × Int × Bool × ByteArray × Int × Int × Int × (List SBinding)) => Ext.of .normal [(7, .ptr 7 0 0), (8, .bool false), (10, .ptr 10 0 0), (14, .ptr 14 0 0), (15, .int .i64 r450.2), (16, .int .i64 r451), (17, .ptr 17 0 0), (23, .agg [.int .i64 r401.a0.fMapping, .int .i64 r401.a0.fFilter, .int .i64 r401.a0.fTimeout, .bool r401.a0.fHairpin, .str r401.a0.fHost, .int .i64 r401.a0.fLow, .int .i64 r401.a0.fHigh, .int .i64 r401.a0.fNow, .sl false 7 (List.map tySBinding.c r401.a0.fTable), .int .i64 r401.a1.fMapping, .int .i64 r401.a1.fFilter, .int .i64 r401.a1.fTimeout, .bool r401.a1.fHairpin, .str r401.a1.fHost, .int .i64 r401.a1.fLow, .int .i64 r401.a1.fHigh, .int .i64 r401.a1.fNow, .sl false 7 (List.map tySBinding.c r401.a1.fTable), .int .i64 r401.a2.fMapping, .int .i64 r401.a2.fFilter, .int .i64 r401.a2.fTimeout, .bool r401.a2.fHairpin, .str r401.a2.fHost, .int .i64 r401.a2.fLow, .int .i64 r401.a2.fHigh, .int .i64 r401.a2.fNow, .sl false 7 (List.map tySBinding.c r401.a2.fTable), .int .i64 r401.a3.fMapping, .int .i64 r401.a3.fFilter, .int .i64 r401.a3.fTimeout, .bool r401.a3.fHairpin, .str r401.a3.fHost, .int .i64 r401.a3.fLow, .int .i64 r401.a3.fHigh, .int .i64 r401.a3.fNow, .sl false 7 (List.map tySBinding.c r401.a3.fTable)]), (24, .int .i64 3), (45, .agg [.int .i64 p3.fNow, .int .i64 (wi64 (r401.a3.fNow + (wi64 p3.fAfter)))]), (46, .int .i64 0)] [(7, ⟨8, true, [[.int .u8 p3.fFrom, .int .u8 p3.fTo, .int .u16 p3.fAfter, .int .i64 p3.fNow, .str p3.fRawFrom.fHost, .int .i64 p3.fRawFrom.fPort, .str p3.fRawTo.fHost, .int .i64 p3.fRawTo.fPort]]⟩), (10, ⟨9, true, [[.int .i64 r401.a3.fMapping, .int .i64 r401.a3.fFilter, .int .i64 r401.a3.fTimeout, .bool r401.a3.fHairpin, .str r401.a3.fHost, .int .i64 r401.a3.fLow, .int .i64 r401.a3.fHigh, .int .i64 r401.a3.fNow, .sl false 7 (List.map tySBinding.c r401.a3.fTable)]]⟩), (14, ⟨9, true, [[.int .i64 r450.1.fMapping, .int .i64 r450.1.fFilter, .int .i64 r450.1.fTimeout, .bool r450.1.fHairpin, .str r450.1.fHost, .int .i64 r450.1.fLow, .int .i64 r450.1.fHigh, .int .i64 r450.1.fNow, .sl false 7 (List.map tySBinding.c r450.1.fTable)]]⟩), (17, ⟨9, true, [[.int .i64 e453.1, .int .i64 e453.2.1, .int .i64 e453.2.2.1, .bool e453.2.2.2.1, .str e453.2.2.2.2.1, .int .i64 e453.2.2.2.2.2.1, .int .i64 e453.2.2.2.2.2.2.1, .int .i64 e453.2.2.2.2.2.2.2.1, .ref 600356 0 e453.2.2.2.2.2.2.2.2.length]]⟩)] [BT.of 600356 tySBindingO6 7 e453.2.2.2.2.2.2.2.2 true] (by rfl))
                                            (fun e453 =>
                                              .cnd 18 [72]
                                              (.br 18005 (r450.2 != r451)
                                                (.done true)
                                                (.view 18007 (s22 r450.1 (SNat.mk e453.1 e453.2.1 e453.2.2.1 e453.2.2.2.1 e453.2.2.2.2.1 e453.2.2.2.2.2.1 e453.2.2.2.2.2.2.1 e453.2.2.2.2.2.2.2.1 e453.2.2.2.2.2.2.2.2)) [⟨600356, _, tySBindingO6, e453.2.2.2.2.2.2.2.2⟩] fun r454 =>
                                                  .done (!r454)))
                                              (fun (c455 : Bool) => [.bool c455]) fun c455 =>
                                              .br 0 c455
                                              (.done false)
                                              (.tt (.gh 16 (.drop [14]) (.call 14003 (s20 r401.a3 (wi64 (r401.a3.fNow + (wi64 p3.fAfter)))) [] [] fun r456 =>
                                                .gh 17 (.drop [17]) (.call 15003 (s18 r401.a3 (wi64 (r401.a3.fNow + (wi64 p3.fAfter))) []) [] [] fun r457 =>
                                                .bind 0
                                                (.br 0 (r457 == 0)
                                                  (.call 17003 (s21 r401.a3 (wi64 (r401.a3.fNow + (wi64 p3.fAfter)))) [] [(600014, 500359)] fun r458 =>
                                                    .gh 0 (.ren 500359 600360) (.done (r401.a3.fMapping, r401.a3.fFilter, r401.a3.fTimeout, r401.a3.fHairpin, r401.a3.fHost, r401.a3.fLow, r401.a3.fHigh, (wi64 (r401.a3.fNow + (wi64 p3.fAfter))), r458)))
                                                  (.gh 0 (.virtC 600360 17 8 7) (.done (0, 0, 0, false, ByteArray.empty, 0, 0, 0, []))))
                                                (fun (e459 : Int × Int × Int × Bool × ByteArray × Int × Int × Int × (List SBinding)) => Ext.of .normal [(7, .ptr 7 0 0), (8, .bool false), (10, .ptr 10 0 0), (14, .ptr 14 0 0), (15, .int .i64 r456.2), (16, .int .i64 r457), (17, .ptr 17 0 0), (23, .agg [.int .i64 r401.a0.fMapping, .int .i64 r401.a0.fFilter, .int .i64 r401.a0.fTimeout, .bool r401.a0.fHairpin, .str r401.a0.fHost, .int .i64 r401.a0.fLow, .int .i64 r401.a0.fHigh, .int .i64 r401.a0.fNow, .sl false 7 (List.map tySBinding.c r401.a0.fTable), .int .i64 r401.a1.fMapping, .int .i64 r401.a1.fFilter, .int .i64 r401.a1.fTimeout, .bool r401.a1.fHairpin, .str r401.a1.fHost, .int .i64 r401.a1.fLow, .int .i64 r401.a1.fHigh, .int .i64 r401.a1.fNow, .sl false 7 (List.map tySBinding.c r401.a1.fTable), .int .i64 r401.a2.fMapping, .int .i64 r401.a2.fFilter, .int .i64 r401.a2.fTimeout, .bool r401.a2.fHairpin, .str r401.a2.fHost, .int .i64 r401.a2.fLow, .int .i64 r401.a2.fHigh, .int .i64 r401.a2.fNow, .sl false 7 (List.map tySBinding.c r401.a2.fTable), .int .i64 r401.a3.fMapping, .int .i64 r401.a3.fFilter, .int .i64 r401.a3.fTimeout, .bool r401.a3.fHairpin, .str r401.a3.fHost, .int .i64 r401.a3.fLow, .int .i64 r401.a3.fHigh, .int .i64 r401.a3.fNow, .sl false 7 (List.map tySBinding.c r401.a3.fTable)]), (24, .int .i64 3), (45, .agg [.int .i64 p3.fNow, .int .i64 (wi64 (r401.a3.fNow + (wi64 p3.fAfter)))]), (46, .int .i64 1)] [(7, ⟨8, true, [[.int .u8 p3.fFrom, .int .u8 p3.fTo, .int .u16 p3.fAfter, .int .i64 p3.fNow, .str p3.fRawFrom.fHost, .int .i64 p3.fRawFrom.fPort, .str p3.fRawTo.fHost, .int .i64 p3.fRawTo.fPort]]⟩), (10, ⟨9, true, [[.int .i64 r401.a3.fMapping, .int .i64 r401.a3.fFilter, .int .i64 r401.a3.fTimeout, .bool r401.a3.fHairpin, .str r401.a3.fHost, .int .i64 r401.a3.fLow, .int .i64 r401.a3.fHigh, .int .i64 r401.a3.fNow, .sl false 7 (List.map tySBinding.c r401.a3.fTable)]]⟩), (14, ⟨9, true, [[.int .i64 r456.1.fMapping, .int .i64 r456.1.fFilter, .int .i64 r456.1.fTimeout, .bool r456.1.fHairpin, .str r456.1.fHost, .int .i64 r456.1.fLow, .int .i64 r456.1.fHigh, .int .i64 r456.1.fNow, .sl false 7 (List.map tySBinding.c r456.1.fTable)]]⟩), (17, ⟨9, true, [[.int .i64 e459.1, .int .i64 e459.2.1, .int .i64 e459.2.2.1, .bool e459.2.2.2.1, .str e459.2.2.2.2.1, .int .i64 e459.2.2.2.2.2.1, .int .i64 e459.2.2.2.2.2.2.1, .int .i64 e459.2.2.2.2.2.2.2.1, .ref 600360 0 e459.2.2.2.2.2.2.2.2.length]]⟩)] [BT.of 600360 tySBindingO6 7 e459.2.2.2.2.2.2.2.2 true] (by rfl))
                                                (fun e459 =>
                                                  .cnd 18 [72]
                                                  (.br 18005 (r456.2 != r457)
                                                    (.done true)
                                                    (.view 18007 (s22 r456.1 (SNat.mk e459.1 e459.2.1 e459.2.2.1 e459.2.2.2.1 e459.2.2.2.2.1 e459.2.2.2.2.2.1 e459.2.2.2.2.2.2.1 e459.2.2.2.2.2.2.2.1 e459.2.2.2.2.2.2.2.2)) [⟨600360, _, tySBindingO6, e459.2.2.2.2.2.2.2.2⟩] fun r460 =>
                                                      .done (!r460)))
                                                  (fun (c461 : Bool) => [.bool c461]) fun c461 =>
                                                  .br 0 c461
                                                  (.done false)
                                                  (.ff (.ff (.done true)))))))))))))))))))))))))))))))))))))))))))))))))))))
theorem k3 (p0 : SDraft) (p1 : S2Tannoyref13Bend) (p2 : SNat) (p3 : SMove1) : FnD Tryd.prog GG [0, 1, 2, 3, 4, 5, 6, 7, 8, 10, 11, 13, 14, 15, 16, 17, 19, 23, 24, 25, 32, 36, 45, 46, 47, 60, 72] Tryd.f3 [.agg [.int .u8 p0.fMapping, .int .u8 p0.fFilter, .int .u8 p0.fPorts, .int .u16 p0.fTimeout, .bool p0.fHairpin, .sl false 4 (List.map tySMove.c p0.fMoves)], .agg [.int .u8 p1.a0.fWhat, .int .u8 p1.a0.fAt, .int .i64 p1.a0.fN, .str p1.a0.fA.fHost, .int .i64 p1.a0.fA.fPort, .str p1.a0.fS, .int .u8 p1.a1.fWhat, .int .u8 p1.a1.fAt, .int .i64 p1.a1.fN, .str p1.a1.fA.fHost, .int .i64 p1.a1.fA.fPort, .str p1.a1.fS], .agg [.int .i64 p2.fMapping, .int .i64 p2.fFilter, .int .i64 p2.fTimeout, .bool p2.fHairpin, .str p2.fHost, .int .i64 p2.fLow, .int .i64 p2.fHigh, .int .i64 p2.fNow, .sl false 7 (List.map tySBinding.c p2.fTable)], .agg [.int .u8 p3.fFrom, .int .u8 p3.fTo, .int .u16 p3.fAfter, .int .i64 p3.fNow, .str p3.fRawFrom.fHost, .int .i64 p3.fRawFrom.fPort, .str p3.fRawTo.fHost, .int .i64 p3.fRawTo.fPort]] (g3 p0 p1 p2 p3) (fun r => .bool r) := by unfold FnD; kernel_rfl
noncomputable def s3 (p0 : SDraft) (p1 : S2Tannoyref13Bend) (p2 : SNat) (p3 : SMove1) : EV.Spec Tryd.prog GG (Bool) := .ofFn 3 mixed Tryd.func3 (k3 p0 p1 p2 p3)

end Go.Proofs.YtdiagiflihpidaaDoor
