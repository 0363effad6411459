/- Guides and contracts, printed by a program.
   Guides and contracts, printed by a program.
   Guides and contracts, printed by a program. -/
import Derived.Test.YtdiagiflihpidaaDoorC2
import Derived.KernelRfl

namespace Go.Proofs.YtdiagiflihpidaaDoor
open Go Go.EV
set_option maxRecDepth 100000

/-- tannoy nat.kind -/
noncomputable def g80 (p0 : Int) : TT (Bool) :=
  .cnd 1 [2]
  (.br 1004 (decide ((1 : Int) ≤ p0))
    (.done (decide (p0 ≤ 3)))
    (.done false))
  (fun (c1 : Bool) => [.bool c1]) fun c1 =>
  .done c1
theorem k80 (p0 : Int) : FnD Tryd.prog GG [0, 2] Tryd.f80 [.int .i64 p0] (g80 p0) (fun r => .bool r) := by unfold FnD; kernel_rfl
noncomputable def s80 (p0 : Int) : EV.Spec Tryd.prog GG (Bool) := .ofFn 80 mixed Tryd.func80 (k80 p0)

/-- tannoy address.read -/
noncomputable def g118 (p0 : ByteArray) : TT (SHost × Int) :=
  .cnd 1 [11]
  (.br 1005 ((p0.size : Int) != 4)
    (.done ((p0.size : Int) != 16))
    (.done false))
  (fun (c8 : Bool) => [.bool c8]) fun c8 =>
  .br 0 c8
  (.done ((SHost.mk ByteArray.empty), 2))
  (.done ((SHost.mk p0), 0))
theorem k118 (p0 : ByteArray) : FnD Tryd.prog GG [0, 2, 3, 11] Tryd.f118 [.str p0] (g118 p0) (fun r => .tup [.agg [.str r.1.fs], .int .i64 r.2]) := by unfold FnD; kernel_rfl
noncomputable def s118 (p0 : ByteArray) : EV.Spec Tryd.prog GG (SHost × Int) := .ofFn 118 mixed Tryd.func118 (k118 p0)

/-- tannoy address.Check -/
noncomputable def g94 (p0 : SAddr) : TT (Int) :=
  .call 1003 (s118 p0.fHost) [] [] fun r9 =>
  .cnd 2 [22]
  (.br 2004 (r9.2 != 0)
    (.done true)
    (.br 2009 (decide (p0.fPort < 0))
      (.done true)
      (.done (decide ((65535 : Int) < p0.fPort)))))
  (fun (c10 : Bool) => [.bool c10]) fun c10 =>
  .br 0 c10
  (.done 2)
  (.done 0)
theorem k94 (p0 : SAddr) : FnD Tryd.prog GG [0, 1, 2, 4, 22] Tryd.f94 [.agg [.str p0.fHost, .int .i64 p0.fPort]] (g94 p0) (fun r => .int .i64 r) := by unfold FnD; kernel_rfl
noncomputable def s94 (p0 : SAddr) : EV.Spec Tryd.prog GG (Int) := .ofFn 94 mixed Tryd.func94 (k94 p0)

/-- (*tannoy nat.router).usable -/
noncomputable def g84 (p0 : SRouter) (p1 : SAddr) : TT (Bool) :=
  .cnd 1 [4]
  (.call 1002 (s94 p1) [] [] fun r11 =>
    .br 1005 (r11 == 0)
    (.br 1010 (decide ((1 : Int) ≤ p1.fPort))
      (.done ((p1.fHost.size : Int) == (p0.fNat.fHost.size : Int)))
      (.done false))
    (.done false))
  (fun (c12 : Bool) => [.bool c12]) fun c12 =>
  .done c12
theorem k84 (p0 : SRouter) (p1 : SAddr) : FnD Tryd.prog GG [0, 1, 3, 4] Tryd.f84 [.snap [.int .i64 p0.fNat.fMapping, .int .i64 p0.fNat.fFilter, .int .i64 p0.fNat.fTimeout, .bool p0.fNat.fHairpin, .str p0.fNat.fHost, .int .i64 p0.fNat.fLow, .int .i64 p0.fNat.fHigh, .int .i64 p0.fNat.fNow, .sl false 7 (List.map tySBinding.c p0.fNat.fTable)], .agg [.str p1.fHost, .int .i64 p1.fPort]] (g84 p0 p1) (fun r => .bool r) := by unfold FnD; kernel_rfl
noncomputable def s84 (p0 : SRouter) (p1 : SAddr) : EV.Spec Tryd.prog GG (Bool) := .ofFn 84 mixed Tryd.func84 (k84 p0 p1)

/-- (*tannoy nat.router).key -/
noncomputable def g111 (p0 : SRouter) (p1 : Int) (p2 : SAddr) : TT (Bool) :=
  .br 0 (p1 == 1)
  (.done ((decide (p2.fHost = ByteArray.empty)) && ((p2.fPort == 0) && true)))
  (.br 0 (p1 == 2)
    (.cnd 5 [6]
      (.br 5005 (p2.fPort == 0)
        (.call 5009 (s84 p0 (SAddr.mk p2.fHost 1)) [] [] fun r14 =>
          .done r14)
        (.done false))
      (fun (c15 : Bool) => [.bool c15]) fun c15 =>
      .done c15)
    (.call 6003 (s84 p0 p2) [] [] fun r16 =>
      .done r16))
theorem k111 (p0 : SRouter) (p1 : Int) (p2 : SAddr) : FnD Tryd.prog GG [0, 1, 2, 5, 6, 7, 8, 13] Tryd.f111 [.snap [.int .i64 p0.fNat.fMapping, .int .i64 p0.fNat.fFilter, .int .i64 p0.fNat.fTimeout, .bool p0.fNat.fHairpin, .str p0.fNat.fHost, .int .i64 p0.fNat.fLow, .int .i64 p0.fNat.fHigh, .int .i64 p0.fNat.fNow, .sl false 7 (List.map tySBinding.c p0.fNat.fTable)], .int .i64 p1, .agg [.str p2.fHost, .int .i64 p2.fPort]] (g111 p0 p1 p2) (fun r => .bool r) := by unfold FnD; kernel_rfl
noncomputable def s111 (p0 : SRouter) (p1 : Int) (p2 : SAddr) : EV.Spec Tryd.prog GG (Bool) := .ofFn 111 mixed Tryd.func111 (k111 p0 p1 p2)

/-- (*tannoy nat.router).binding 1 -/
noncomputable def g113 (p0 : SAddr) (p1 : SRouter) : TT (Bool) :=
  .call 1008 (s111 p1 p1.fNat.fFilter p0) [] [] fun r21 =>
  .done r21
theorem k113 (p0 : SAddr) (p1 : SRouter) : FnD Tryd.prog GG [0, 1, 2, 3] Tryd.f113 [.agg [.str p0.fHost, .int .i64 p0.fPort], .snap [.snap [.int .i64 p1.fNat.fMapping, .int .i64 p1.fNat.fFilter, .int .i64 p1.fNat.fTimeout, .bool p1.fNat.fHairpin, .str p1.fNat.fHost, .int .i64 p1.fNat.fLow, .int .i64 p1.fNat.fHigh, .int .i64 p1.fNat.fNow, .sl false 7 (List.map tySBinding.c p1.fNat.fTable)]]] (g113 p0 p1) (fun r => .bool r) := by unfold FnD; kernel_rfl
noncomputable def s113 (p0 : SAddr) (p1 : SRouter) : EV.Spec Tryd.prog GG (Bool) := .ofFn 113 mixed Tryd.func113 (k113 p0 p1)

/-- (*tannoy nat.router).binding 2 -/
noncomputable def g114 (p0 : SAddr) (p1 : SAddr) : TT (Bool) :=
  .done ((decide (p0.fHost = p1.fHost)) && ((p0.fPort == p1.fPort) && true))
theorem k114 (p0 : SAddr) (p1 : SAddr) : FnD Tryd.prog GG [0, 1, 2, 3, 4] Tryd.f114 [.agg [.str p0.fHost, .int .i64 p0.fPort], .agg [.str p1.fHost, .int .i64 p1.fPort]] (g114 p0 p1) (fun r => .bool r) := by unfold FnD; kernel_rfl
noncomputable def s114 (p0 : SAddr) (p1 : SAddr) : EV.Spec Tryd.prog GG (Bool) := .ofFn 114 mixed Tryd.func114 (k114 p0 p1)

/-- tannoy nat.all tannoy api.Addr  1 -/
noncomputable def g126 (p0 : SAddr) (p1 : SAddr) : TT (Bool) :=
  .call 1004 (s114 p1 p0) [] [] fun r25 =>
  .done r25
theorem k126 (p0 : SAddr) (p1 : SAddr) : FnD Tryd.prog GG [0, 1, 2, 3, 4] Tryd.f126 [.agg [.str p0.fHost, .int .i64 p0.fPort], .snap [.fn 114 [] []], .snap [.str p1.fHost, .int .i64 p1.fPort]] (g126 p0 p1) (fun r => .bool r) := by unfold FnD; kernel_rfl
noncomputable def s126 (p0 : SAddr) (p1 : SAddr) : EV.Spec Tryd.prog GG (Bool) := .ofFn 126 mixed Tryd.func126 (k126 p0 p1)

/-- slices.IndexFunc   tannoy api.Addr tannoy api.Addr  -/
noncomputable def g128 (p0 : (List SAddr)) (p1 : SAddr) : TT (Int) :=
  .bind2 1
  (.lp (fun (l26 : Int) => Ext.lit .normal [(0, .sl false 2 (List.map tySAddr.c p0)), (1, .fn 126 [] [.snap [.fn 114 [] []], .snap [.str p1.fHost, .int .i64 p1.fPort]]), (4, .int .i64 0), (7, .int .i64 (mlen tySAddr p0)), (8, .int .i64 l26)] [])
    (fun l26 =>
      .br 0 (decide (l26 < (mlen tySAddr p0)))
      (.row 4004 tySAddr p0 l26.toNat (decide (0 ≤ l26)) fun x27 =>
        .call 4006 (s126 x27 p1) [] [] fun r28 =>
        .br 0 r28
        (.done (.inr (.inl l26)))
        (.done (.inl (wi64 (l26 + 1)))))
      (.done (.inr (.inr ()))))
    0)
  (fun (e29 : Int) => Ext.lit .ret [(4, .int .i64 e29)] [])
  (fun (e30 : Unit) => Ext.lit (.exit 0) [(4, .int .i64 0)] [])
  (fun e29 =>
    .done e29)
  (fun e30 =>
    .done (-1))
theorem k128 (p0 : (List SAddr)) (p1 : SAddr) : FnD Tryd.prog GG [0, 1, 4, 5, 7, 8, 9, 16] Tryd.f128 [.sl false 2 (List.map tySAddr.c p0), .fn 126 [] [.snap [.fn 114 [] []], .snap [.str p1.fHost, .int .i64 p1.fPort]]] (g128 p0 p1) (fun r => .int .i64 r) := by unfold FnD; kernel_rfl
noncomputable def s128 (p0 : (List SAddr)) (p1 : SAddr) : EV.Spec Tryd.prog GG (Int) := .ofFn 128 mixed Tryd.func128 (k128 p0 p1)

/-- slices.ContainsFunc   tannoy api.Addr tannoy api.Addr  -/
noncomputable def g125 (p0 : (List SAddr)) (p1 : SAddr) : TT (Bool) :=
  .call 1003 (s128 p0 p1) [] [] fun r31 =>
  .done (decide ((0 : Int) ≤ r31))
theorem k125 (p0 : (List SAddr)) (p1 : SAddr) : FnD Tryd.prog GG [0, 1, 4] Tryd.f125 [.sl false 2 (List.map tySAddr.c p0), .fn 126 [] [.snap [.fn 114 [] []], .snap [.str p1.fHost, .int .i64 p1.fPort]]] (g125 p0 p1) (fun r => .bool r) := by unfold FnD; kernel_rfl
noncomputable def s125 (p0 : (List SAddr)) (p1 : SAddr) : EV.Spec Tryd.prog GG (Bool) := .ofFn 125 mixed Tryd.func125 (k125 p0 p1)

/-- tannoy nat.all tannoy api.Addr  -/
noncomputable def g112 (p0 : (List SAddr)) (p1 : SRouter) : TT (Bool) :=
  .bind2 1
  (.lp (fun (l24 : Int) => Ext.lit .normal [(0, .sl false 2 (List.map tySAddr.c p0)), (1, .fn 113 [] [.snap [.snap [.int .i64 p1.fNat.fMapping, .int .i64 p1.fNat.fFilter, .int .i64 p1.fNat.fTimeout, .bool p1.fNat.fHairpin, .str p1.fNat.fHost, .int .i64 p1.fNat.fLow, .int .i64 p1.fNat.fHigh, .int .i64 p1.fNat.fNow, .sl false 7 (List.map tySBinding.c p1.fNat.fTable)]]]), (5, .ptr 5 0 0), (6, .bool false), (9, .sl false 2 (List.map tySAddr.c p0)), (10, .int .i64 (mlen tySAddr p0)), (11, .int .i64 l24)] [(5, ⟨1, true, [[.fn 114 [] []]]⟩)])
    (fun l24 =>
      .br 0 (decide (l24 < (mlen tySAddr p0)))
      (.row 3002 tySAddr p0 l24.toNat (decide (0 ≤ l24)) fun x25 =>
        .cnd 4 [26]
        (.call 4003 (s113 x25 p1) [] [] fun r26 =>
          .br 4006 (!r26)
          (.done true)
          (.chk 4008 (decide (0 ≤ l24) && decide (l24 ≤ ((mlenn tySAddr p0) : Int))) (.re 4008 (ReW.cutHi 23 2 tySAddr p0 l24.toNat) (.view 4010 (s125 (p0.take l24.toNat) x25) [] fun r27 =>
            .done r27))))
        (fun (c28 : Bool) => [.bool c28]) fun c28 =>
        .br 0 c28
        (.done (.inr (.inl ())))
        (.done (.inl (wi64 (l24 + 1)))))
      (.done (.inr (.inr ()))))
    0)
  (fun (e29 : Unit) => Ext.lit .ret [(6, .bool false)] [])
  (fun (e30 : Unit) => Ext.lit (.exit 0) [(6, .bool false)] [])
  (fun e29 =>
    .done false)
  (fun e30 =>
    .done true)
theorem k112 (p0 : (List SAddr)) (p1 : SRouter) : FnD Tryd.prog GG [0, 1, 2, 5, 6, 7, 8, 9, 10, 11, 12, 26] Tryd.f112 [.sl false 2 (List.map tySAddr.c p0), .fn 113 [] [.snap [.snap [.int .i64 p1.fNat.fMapping, .int .i64 p1.fNat.fFilter, .int .i64 p1.fNat.fTimeout, .bool p1.fNat.fHairpin, .str p1.fNat.fHost, .int .i64 p1.fNat.fLow, .int .i64 p1.fNat.fHigh, .int .i64 p1.fNat.fNow, .sl false 7 (List.map tySBinding.c p1.fNat.fTable)]]], .fn 114 [] []] (g112 p0 p1) (fun r => .bool r) := by unfold FnD; kernel_rfl
noncomputable def s112 (p0 : (List SAddr)) (p1 : SRouter) : EV.Spec Tryd.prog GG (Bool) := .ofFn 112 mixed Tryd.func112 (k112 p0 p1)

/-- (*tannoy nat.router).binding -/
noncomputable def g82 (p0 : SRouter) (p1 : SBinding) : TT (Bool) :=
  .cnd 1 [78]
  (.call 1004 (s84 p0 p1.fInside) [] [] fun r13 =>
    .br 1007 (!r13)
    (.done true)
    (.br 1018 (decide (p1.fInside.fHost = p0.fNat.fHost))
      (.done true)
      (.call 1026 (s111 p0 p0.fNat.fMapping p1.fPeer) [] [] fun r17 =>
        .br 1030 (!r17)
        (.done true)
        (.br 1040 (decide (p1.fPort < p0.fNat.fLow))
          (.done true)
          (.br 1050 (decide (p0.fNat.fHigh < p1.fPort))
            (.done true)
            (.br 1060 (decide (p1.fUntil ≤ p0.fNat.fNow))
              (.done true)
              (.done (decide ((wi64 (p0.fNat.fNow + p0.fNat.fTimeout)) < p1.fUntil)))))))))
  (fun (c18 : Bool) => [.bool c18]) fun c18 =>
  .br 0 c18
  (.done false)
  (.br 0 (p0.fNat.fFilter == 1)
    (.done ((mlen tySAddr p1.fOpen) == 0))
    (.cnd 5 [4]
      (.br 5006 (decide ((1 : Int) ≤ (mlen tySAddr p1.fOpen)))
        (.br 5012 (decide ((mlen tySAddr p1.fOpen) ≤ 16))
          (.view 5015 (s112 p1.fOpen p0) [] fun r31 =>
            .done r31)
          (.done false))
        (.done false))
      (fun (c32 : Bool) => [.bool c32]) fun c32 =>
      .done c32))
theorem k82 (p0 : SRouter) (p1 : SBinding) : FnD Tryd.prog GG [0, 1, 2, 3, 4, 78, 84] Tryd.f82 [.snap [.int .i64 p0.fNat.fMapping, .int .i64 p0.fNat.fFilter, .int .i64 p0.fNat.fTimeout, .bool p0.fNat.fHairpin, .str p0.fNat.fHost, .int .i64 p0.fNat.fLow, .int .i64 p0.fNat.fHigh, .int .i64 p0.fNat.fNow, .sl false 7 (List.map tySBinding.c p0.fNat.fTable)], .agg [.str p1.fInside.fHost, .int .i64 p1.fInside.fPort, .str p1.fPeer.fHost, .int .i64 p1.fPeer.fPort, .int .i64 p1.fPort, .int .i64 p1.fUntil, .sl false 2 (List.map tySAddr.c p1.fOpen)]] (g82 p0 p1) (fun r => .bool r) := by unfold FnD; kernel_rfl
noncomputable def s82 (p0 : SRouter) (p1 : SBinding) : EV.Spec Tryd.prog GG (Bool) := .ofFn 82 mixed Tryd.func82 (k82 p0 p1)

/-- (*tannoy nat.router).valid 1 -/
noncomputable def g83 (p0 : SBinding) (p1 : SBinding) : TT (Bool) :=
  .cnd 1 [4]
  (.br 1007 (p0.fPort == p1.fPort)
    (.done true)
    (.br 1013 ((decide (p0.fInside.fHost = p1.fInside.fHost)) && ((p0.fInside.fPort == p1.fInside.fPort) && true))
      (.done ((decide (p0.fPeer.fHost = p1.fPeer.fHost)) && ((p0.fPeer.fPort == p1.fPeer.fPort) && true)))
      (.done false)))
  (fun (c36 : Bool) => [.bool c36]) fun c36 =>
  .done c36
theorem k83 (p0 : SBinding) (p1 : SBinding) : FnD Tryd.prog GG [0, 1, 2, 3, 4] Tryd.f83 [.agg [.str p0.fInside.fHost, .int .i64 p0.fInside.fPort, .str p0.fPeer.fHost, .int .i64 p0.fPeer.fPort, .int .i64 p0.fPort, .int .i64 p0.fUntil, .sl false 2 (List.map tySAddr.c p0.fOpen)], .agg [.str p1.fInside.fHost, .int .i64 p1.fInside.fPort, .str p1.fPeer.fHost, .int .i64 p1.fPeer.fPort, .int .i64 p1.fPort, .int .i64 p1.fUntil, .sl false 2 (List.map tySAddr.c p1.fOpen)]] (g83 p0 p1) (fun r => .bool r) := by unfold FnD; kernel_rfl
noncomputable def s83 (p0 : SBinding) (p1 : SBinding) : EV.Spec Tryd.prog GG (Bool) := .ofFn 83 mixed Tryd.func83 (k83 p0 p1)

/-- tannoy nat.all tannoy api.Binding  1 -/
noncomputable def g110 (p0 : SBinding) (p1 : SBinding) : TT (Bool) :=
  .call 1004 (s83 p1 p0) [] [] fun r37 =>
  .done r37
theorem k110 (p0 : SBinding) (p1 : SBinding) : FnD Tryd.prog GG [0, 1, 2, 3, 4] Tryd.f110 [.agg [.str p0.fInside.fHost, .int .i64 p0.fInside.fPort, .str p0.fPeer.fHost, .int .i64 p0.fPeer.fPort, .int .i64 p0.fPort, .int .i64 p0.fUntil, .sl false 2 (List.map tySAddr.c p0.fOpen)], .snap [.fn 83 [] []], .snap [.str p1.fInside.fHost, .int .i64 p1.fInside.fPort, .str p1.fPeer.fHost, .int .i64 p1.fPeer.fPort, .int .i64 p1.fPort, .int .i64 p1.fUntil, .sl false 2 (List.map tySAddr.c p1.fOpen)]] (g110 p0 p1) (fun r => .bool r) := by unfold FnD; kernel_rfl
noncomputable def s110 (p0 : SBinding) (p1 : SBinding) : EV.Spec Tryd.prog GG (Bool) := .ofFn 110 mixed Tryd.func110 (k110 p0 p1)

/-- slices.IndexFunc   tannoy api.Binding tannoy api.Binding  -/
noncomputable def g115 (p0 : (List SBinding)) (p1 : SBinding) : TT (Int) :=
  .bind2 1
  (.lp (fun (l37 : Int) => Ext.lit .normal [(0, .sl false 7 (List.map tySBinding.c p0)), (1, .fn 110 [] [.snap [.fn 83 [] []], .snap [.str p1.fInside.fHost, .int .i64 p1.fInside.fPort, .str p1.fPeer.fHost, .int .i64 p1.fPeer.fPort, .int .i64 p1.fPort, .int .i64 p1.fUntil, .sl false 2 (List.map tySAddr.c p1.fOpen)]]), (4, .int .i64 0), (7, .int .i64 (mlen tySBinding p0)), (8, .int .i64 l37)] [])
    (fun l37 =>
      .br 0 (decide (l37 < (mlen tySBinding p0)))
      (.row 4004 tySBinding p0 l37.toNat (decide (0 ≤ l37)) fun x38 =>
        .call 4006 (s110 x38 p1) [] [] fun r39 =>
        .br 0 r39
        (.done (.inr (.inl l37)))
        (.done (.inl (wi64 (l37 + 1)))))
      (.done (.inr (.inr ()))))
    0)
  (fun (e40 : Int) => Ext.lit .ret [(4, .int .i64 e40)] [])
  (fun (e41 : Unit) => Ext.lit (.exit 0) [(4, .int .i64 0)] [])
  (fun e40 =>
    .done e40)
  (fun e41 =>
    .done (-1))
theorem k115 (p0 : (List SBinding)) (p1 : SBinding) : FnD Tryd.prog GG [0, 1, 4, 5, 7, 8, 9, 16] Tryd.f115 [.sl false 7 (List.map tySBinding.c p0), .fn 110 [] [.snap [.fn 83 [] []], .snap [.str p1.fInside.fHost, .int .i64 p1.fInside.fPort, .str p1.fPeer.fHost, .int .i64 p1.fPeer.fPort, .int .i64 p1.fPort, .int .i64 p1.fUntil, .sl false 2 (List.map tySAddr.c p1.fOpen)]]] (g115 p0 p1) (fun r => .int .i64 r) := by unfold FnD; kernel_rfl
noncomputable def s115 (p0 : (List SBinding)) (p1 : SBinding) : EV.Spec Tryd.prog GG (Int) := .ofFn 115 mixed Tryd.func115 (k115 p0 p1)

/-- slices.ContainsFunc   tannoy api.Binding tannoy api.Binding  -/
noncomputable def g109 (p0 : (List SBinding)) (p1 : SBinding) : TT (Bool) :=
  .call 1003 (s115 p0 p1) [] [] fun r42 =>
  .done (decide ((0 : Int) ≤ r42))
theorem k109 (p0 : (List SBinding)) (p1 : SBinding) : FnD Tryd.prog GG [0, 1, 4] Tryd.f109 [.sl false 7 (List.map tySBinding.c p0), .fn 110 [] [.snap [.fn 83 [] []], .snap [.str p1.fInside.fHost, .int .i64 p1.fInside.fPort, .str p1.fPeer.fHost, .int .i64 p1.fPeer.fPort, .int .i64 p1.fPort, .int .i64 p1.fUntil, .sl false 2 (List.map tySAddr.c p1.fOpen)]]] (g109 p0 p1) (fun r => .bool r) := by unfold FnD; kernel_rfl
noncomputable def s109 (p0 : (List SBinding)) (p1 : SBinding) : EV.Spec Tryd.prog GG (Bool) := .ofFn 109 mixed Tryd.func109 (k109 p0 p1)

/-- tannoy nat.all tannoy api.Binding  -/
noncomputable def g81 (p0 : (List SBinding)) (p1 : SRouter) : TT (Bool) :=
  .bind2 1
  (.lp (fun (l11 : Int) => Ext.lit .normal [(0, .sl false 7 (List.map tySBinding.c p0)), (1, .fn 82 [.snap [.int .i64 p1.fNat.fMapping, .int .i64 p1.fNat.fFilter, .int .i64 p1.fNat.fTimeout, .bool p1.fNat.fHairpin, .str p1.fNat.fHost, .int .i64 p1.fNat.fLow, .int .i64 p1.fNat.fHigh, .int .i64 p1.fNat.fNow, .sl false 7 (List.map tySBinding.c p1.fNat.fTable)]] []), (5, .ptr 5 0 0), (6, .bool false), (9, .sl false 7 (List.map tySBinding.c p0)), (10, .int .i64 (mlen tySBinding p0)), (11, .int .i64 l11)] [(5, ⟨1, true, [[.fn 83 [] []]]⟩)])
    (fun l11 =>
      .br 0 (decide (l11 < (mlen tySBinding p0)))
      (.row 3002 tySBinding p0 l11.toNat (decide (0 ≤ l11)) fun x12 =>
        .cnd 4 [26]
        (.call 4003 (s82 p1 x12) [] [] fun r13 =>
          .br 4006 (!r13)
          (.done true)
          (.chk 4008 (decide (0 ≤ l11) && decide (l11 ≤ ((mlenn tySBinding p0) : Int))) (.re 4008 (ReW.cutHi 23 7 tySBinding p0 l11.toNat) (.view 4010 (s109 (p0.take l11.toNat) x12) [] fun r14 =>
            .done r14))))
        (fun (c15 : Bool) => [.bool c15]) fun c15 =>
        .br 0 c15
        (.done (.inr (.inl ())))
        (.done (.inl (wi64 (l11 + 1)))))
      (.done (.inr (.inr ()))))
    0)
  (fun (e16 : Unit) => Ext.lit .ret [(6, .bool false)] [])
  (fun (e17 : Unit) => Ext.lit (.exit 0) [(6, .bool false)] [])
  (fun e16 =>
    .done false)
  (fun e17 =>
    .done true)
theorem k81 (p0 : (List SBinding)) (p1 : SRouter) : FnD Tryd.prog GG [0, 1, 2, 5, 6, 7, 8, 9, 10, 11, 12, 26] Tryd.f81 [.sl false 7 (List.map tySBinding.c p0), .fn 82 [.snap [.int .i64 p1.fNat.fMapping, .int .i64 p1.fNat.fFilter, .int .i64 p1.fNat.fTimeout, .bool p1.fNat.fHairpin, .str p1.fNat.fHost, .int .i64 p1.fNat.fLow, .int .i64 p1.fNat.fHigh, .int .i64 p1.fNat.fNow, .sl false 7 (List.map tySBinding.c p1.fNat.fTable)]] [], .fn 83 [] []] (g81 p0 p1) (fun r => .bool r) := by unfold FnD; kernel_rfl
noncomputable def s81 (p0 : (List SBinding)) (p1 : SRouter) : EV.Spec Tryd.prog GG (Bool) := .ofFn 81 mixed Tryd.func81 (k81 p0 p1)

/-- (*tannoy nat.router).valid -/
noncomputable def g55 (p0 : SRouter) : TT (Bool) :=
  .cnd 1 [52]
  (.call 1006 (s80 p0.fNat.fMapping) [] [] fun r2 =>
    .br 1009 (!r2)
    (.done true)
    (.call 1014 (s80 p0.fNat.fFilter) [] [] fun r3 =>
      .br 1018 (!r3)
      (.done true)
      (.br 1026 (decide (p0.fNat.fTimeout < 1))
        (.done true)
        (.br 1034 (decide ((3600000 : Int) < p0.fNat.fTimeout))
          (.done true)
          (.br 1042 ((p0.fNat.fHost.size : Int) != 4)
            (.done ((p0.fNat.fHost.size : Int) != 16))
            (.done false))))))
  (fun (c4 : Bool) => [.bool c4]) fun c4 =>
  .br 0 c4
  (.done false)
  (.cnd 3 [109]
    (.br 3008 (decide (p0.fNat.fLow < 1))
      (.done true)
      (.br 3016 (decide ((65535 : Int) < p0.fNat.fHigh))
        (.done true)
        (.br 3029 (decide (p0.fNat.fHigh < p0.fNat.fLow))
          (.done true)
          (.br 3043 (decide ((wi64 (p0.fNat.fLow + 64)) ≤ p0.fNat.fHigh))
            (.done true)
            (.br 3051 (decide (p0.fNat.fNow < 0))
              (.done true)
              (.done (decide ((1099511627776 : Int) < p0.fNat.fNow))))))))
    (fun (c5 : Bool) => [.bool c5]) fun c5 =>
    .br 0 c5
    (.done false)
    (.call 5008 (s81 p0.fNat.fTable p0) [] [] fun r18 =>
      .done r18))
theorem k55 (p0 : SRouter) : FnD Tryd.prog GG [0, 2, 52, 109] Tryd.f55 [.snap [.int .i64 p0.fNat.fMapping, .int .i64 p0.fNat.fFilter, .int .i64 p0.fNat.fTimeout, .bool p0.fNat.fHairpin, .str p0.fNat.fHost, .int .i64 p0.fNat.fLow, .int .i64 p0.fNat.fHigh, .int .i64 p0.fNat.fNow, .sl false 7 (List.map tySBinding.c p0.fNat.fTable)]] (g55 p0) (fun r => .bool r) := by unfold FnD; kernel_rfl
noncomputable def s55 (p0 : SRouter) : EV.Spec Tryd.prog GG (Bool) := .ofFn 55 mixed Tryd.func55 (k55 p0)

/-- tannoy tannoyref13.Usable -/
noncomputable def g54 (p0 : SAddr) (p1 : Int) : TT (Bool) :=
  .cnd 1 [4]
  (.br 1007 ((p0.fHost.size : Int) == p1)
    (.br 1010 (p1 == 4)
      (.br 1020 (decide ((1 : Int) ≤ p0.fPort))
        (.done (decide (p0.fPort ≤ 65535)))
        (.done false))
      (.br 1015 (p1 == 16)
        (.br 1020 (decide ((1 : Int) ≤ p0.fPort))
          (.done (decide (p0.fPort ≤ 65535)))
          (.done false))
        (.done false)))
    (.done false))
  (fun (c23 : Bool) => [.bool c23]) fun c23 =>
  .done c23
theorem k54 (p0 : SAddr) (p1 : Int) : FnD Tryd.prog GG [0, 1, 2, 4] Tryd.f54 [.agg [.str p0.fHost, .int .i64 p0.fPort], .int .i64 p1] (g54 p0 p1) (fun r => .bool r) := by unfold FnD; kernel_rfl
noncomputable def s54 (p0 : SAddr) (p1 : Int) : EV.Spec Tryd.prog GG (Bool) := .ofFn 54 mixed Tryd.func54 (k54 p0 p1)

/-- tannoy tannoyref13.Key -/
noncomputable def g59 (p0 : Int) (p1 : SAddr) : TT (SAddr) :=
  .br 0 (p0 == 1)
  (.done (SAddr.mk ByteArray.empty 0))
  (.br 0 (p0 == 2)
    (.done (SAddr.mk p1.fHost 0))
    (.done p1))
theorem k59 (p0 : Int) (p1 : SAddr) : FnD Tryd.prog GG [0, 1, 3, 4, 5, 6, 9] Tryd.f59 [.int .i64 p0, .agg [.str p1.fHost, .int .i64 p1.fPort]] (g59 p0 p1) (fun r => .agg [.str r.fHost, .int .i64 r.fPort]) := by unfold FnD; kernel_rfl
noncomputable def s59 (p0 : Int) (p1 : SAddr) : EV.Spec Tryd.prog GG (SAddr) := .ofFn 59 mixed Tryd.func59 (k59 p0 p1)

/-- tannoy tannoyref13.isKey -/
noncomputable def g108 (p0 : Int) (p1 : SAddr) (p2 : Int) : TT (Bool) :=
  .bind 0
  (.br 0 (p0 == 2)
    (.done 1)
    (.done p1.fPort))
  (fun (e25 : Int) => Ext.lit .normal [(0, .int .i64 p0), (2, .int .i64 p2), (4, .ptr 4 0 0), (6, .bool false), (7, .ptr 7 0 0)] [(4, ⟨2, true, [[.str p1.fHost, .int .i64 p1.fPort]]⟩), (7, ⟨2, true, [[.str p1.fHost, .int .i64 e25]]⟩)])
  (fun e25 =>
    .br 0 (p0 == 1)
    (.done ((decide (p1.fHost = ByteArray.empty)) && ((p1.fPort == 0) && true)))
    (.cnd 6 [6]
      (.call 6003 (s54 (SAddr.mk p1.fHost e25) p2) [] [] fun r26 =>
        .br 6005 r26
        (.call 6007 (s59 p0 (SAddr.mk p1.fHost e25)) [] [] fun r27 =>
          .done ((decide (r27.fHost = p1.fHost)) && ((r27.fPort == p1.fPort) && true)))
        (.done false))
      (fun (c28 : Bool) => [.bool c28]) fun c28 =>
      .done c28))
theorem k108 (p0 : Int) (p1 : SAddr) (p2 : Int) : FnD Tryd.prog GG [0, 1, 2, 4, 6, 7, 10, 13] Tryd.f108 [.int .i64 p0, .agg [.str p1.fHost, .int .i64 p1.fPort], .int .i64 p2] (g108 p0 p1 p2) (fun r => .bool r) := by unfold FnD; kernel_rfl
noncomputable def s108 (p0 : Int) (p1 : SAddr) (p2 : Int) : EV.Spec Tryd.prog GG (Bool) := .ofFn 108 mixed Tryd.func108 (k108 p0 p1 p2)

/-- tannoy tannoyref13.good -/
noncomputable def g79 (p0 : SNat) (p1 : Int) : TT (Bool) :=
  .row 1004 tySBinding p0.fTable p1.toNat (decide (0 ≤ p1)) fun x22 =>
  .cnd 3 [70]
  (.call 3004 (s54 x22.fInside (p0.fHost.size : Int)) [] [] fun r24 =>
    .br 3007 (!r24)
    (.done true)
    (.br 3015 (decide (x22.fInside.fHost = p0.fHost))
      (.done true)
      (.call 3020 (s108 p0.fMapping x22.fPeer (p0.fHost.size : Int)) [] [] fun r29 =>
        .br 3024 (!r29)
        (.done true)
        (.br 3031 (decide (x22.fPort < p0.fLow))
          (.done true)
          (.br 3038 (decide (p0.fHigh < x22.fPort))
            (.done true)
            (.br 3045 (decide (x22.fUntil ≤ p0.fNow))
              (.done true)
              (.done (decide ((wi64 (p0.fNow + p0.fTimeout)) < x22.fUntil)))))))))
  (fun (c30 : Bool) => [.bool c30]) fun c30 =>
  .br 0 c30
  (.done false)
  (.bind2 1
    (.lp (fun (l36 : Int) => Ext.lit .normal [(1, .int .i64 p1), (2, .ptr 2 0 0), (4, .bool false), (5, .ptr 5 0 0), (6, .int .i64 (p0.fHost.size : Int)), (7, .int .i64 l36)] [(2, ⟨9, true, [[.int .i64 p0.fMapping, .int .i64 p0.fFilter, .int .i64 p0.fTimeout, .bool p0.fHairpin, .str p0.fHost, .int .i64 p0.fLow, .int .i64 p0.fHigh, .int .i64 p0.fNow, .sl false 7 (List.map tySBinding.c p0.fTable)]]⟩), (5, ⟨7, true, [[.str x22.fInside.fHost, .int .i64 x22.fInside.fPort, .str x22.fPeer.fHost, .int .i64 x22.fPeer.fPort, .int .i64 x22.fPort, .int .i64 x22.fUntil, .sl false 2 (List.map tySAddr.c x22.fOpen)]]⟩)])
      (fun l36 =>
        .br 0 (decide (l36 < p1))
        (.cnd 8 [106]
          (.row 8004 tySBinding p0.fTable l36.toNat (decide (0 ≤ l36)) fun x37 =>
            .br 8011 (x37.fPort == x22.fPort)
            (.done true)
            (.row 8014 tySBinding p0.fTable l36.toNat (decide (0 ≤ l36)) fun x38 =>
              .br 8021 ((decide (x38.fInside.fHost = x22.fInside.fHost)) && ((x38.fInside.fPort == x22.fInside.fPort) && true))
              (.row 8024 tySBinding p0.fTable l36.toNat (decide (0 ≤ l36)) fun x39 =>
                .done ((decide (x39.fPeer.fHost = x22.fPeer.fHost)) && ((x39.fPeer.fPort == x22.fPeer.fPort) && true)))
              (.done false)))
          (fun (c40 : Bool) => [.bool c40]) fun c40 =>
          .br 0 c40
          (.done (.inr (.inl (x22.fInside.fHost, x22.fInside.fPort, x22.fPeer.fHost, x22.fPeer.fPort, x22.fPort, x22.fUntil, x22.fOpen))))
          (.done (.inl (wi64 (l36 + 1)))))
        (.done (.inr (.inr (x22.fInside.fHost, x22.fInside.fPort, x22.fPeer.fHost, x22.fPeer.fPort, x22.fPort, x22.fUntil, x22.fOpen)))))
      0)
    (fun (e41 : ByteArray × Int × ByteArray × Int × Int × Int × (List SAddr)) => Ext.lit .ret [(2, .ptr 2 0 0), (4, .bool false), (5, .ptr 5 0 0), (6, .int .i64 (p0.fHost.size : Int))] [(2, ⟨9, true, [[.int .i64 p0.fMapping, .int .i64 p0.fFilter, .int .i64 p0.fTimeout, .bool p0.fHairpin, .str p0.fHost, .int .i64 p0.fLow, .int .i64 p0.fHigh, .int .i64 p0.fNow, .sl false 7 (List.map tySBinding.c p0.fTable)]]⟩), (5, ⟨7, true, [[.str e41.1, .int .i64 e41.2.1, .str e41.2.2.1, .int .i64 e41.2.2.2.1, .int .i64 e41.2.2.2.2.1, .int .i64 e41.2.2.2.2.2.1, .sl false 2 (List.map tySAddr.c e41.2.2.2.2.2.2)]]⟩)])
    (fun (e42 : ByteArray × Int × ByteArray × Int × Int × Int × (List SAddr)) => Ext.lit (.exit 0) [(2, .ptr 2 0 0), (4, .bool false), (5, .ptr 5 0 0), (6, .int .i64 (p0.fHost.size : Int))] [(2, ⟨9, true, [[.int .i64 p0.fMapping, .int .i64 p0.fFilter, .int .i64 p0.fTimeout, .bool p0.fHairpin, .str p0.fHost, .int .i64 p0.fLow, .int .i64 p0.fHigh, .int .i64 p0.fNow, .sl false 7 (List.map tySBinding.c p0.fTable)]]⟩), (5, ⟨7, true, [[.str e42.1, .int .i64 e42.2.1, .str e42.2.2.1, .int .i64 e42.2.2.2.1, .int .i64 e42.2.2.2.2.1, .int .i64 e42.2.2.2.2.2.1, .sl false 2 (List.map tySAddr.c e42.2.2.2.2.2.2)]]⟩)])
    (fun e41 =>
      .done false)
    (fun e42 =>
      .br 0 (p0.fFilter == 1)
      (.done ((mlen tySAddr e42.2.2.2.2.2.2) == 0))
      (.bind2 1
        (.lp (fun (l57 : ByteArray × Int × ByteArray × Int × Int × Int × (List SAddr) × Int) => Ext.lit .normal [(2, .ptr 2 0 0), (4, .bool false), (5, .ptr 5 0 0), (6, .int .i64 (p0.fHost.size : Int)), (8, .int .i64 l57.2.2.2.2.2.2.2)] [(2, ⟨9, true, [[.int .i64 p0.fMapping, .int .i64 p0.fFilter, .int .i64 p0.fTimeout, .bool p0.fHairpin, .str p0.fHost, .int .i64 p0.fLow, .int .i64 p0.fHigh, .int .i64 p0.fNow, .sl false 7 (List.map tySBinding.c p0.fTable)]]⟩), (5, ⟨7, true, [[.str l57.1, .int .i64 l57.2.1, .str l57.2.2.1, .int .i64 l57.2.2.2.1, .int .i64 l57.2.2.2.2.1, .int .i64 l57.2.2.2.2.2.1, .sl false 2 (List.map tySAddr.c l57.2.2.2.2.2.2.1)]]⟩)])
          (fun l57 =>
            .br 0 (decide (l57.2.2.2.2.2.2.2 < (mlen tySAddr l57.2.2.2.2.2.2.1)))
            (.row 15006 tySAddr l57.2.2.2.2.2.2.1 l57.2.2.2.2.2.2.2.toNat (decide (0 ≤ l57.2.2.2.2.2.2.2)) fun x58 =>
              .call 15009 (s108 p0.fFilter x58 (p0.fHost.size : Int)) [] [] fun r59 =>
              .br 0 (!r59)
              (.done (.inr (.inl (l57.1, l57.2.1, l57.2.2.1, l57.2.2.2.1, l57.2.2.2.2.1, l57.2.2.2.2.2.1, l57.2.2.2.2.2.2.1))))
              (.bind2 1
                (.lp (fun (l63 : Int) => Ext.lit .normal [(2, .ptr 2 0 0), (4, .bool false), (5, .ptr 5 0 0), (6, .int .i64 (p0.fHost.size : Int)), (8, .int .i64 l57.2.2.2.2.2.2.2), (9, .int .i64 l63)] [(2, ⟨9, true, [[.int .i64 p0.fMapping, .int .i64 p0.fFilter, .int .i64 p0.fTimeout, .bool p0.fHairpin, .str p0.fHost, .int .i64 p0.fLow, .int .i64 p0.fHigh, .int .i64 p0.fNow, .sl false 7 (List.map tySBinding.c p0.fTable)]]⟩), (5, ⟨7, true, [[.str l57.1, .int .i64 l57.2.1, .str l57.2.2.1, .int .i64 l57.2.2.2.1, .int .i64 l57.2.2.2.2.1, .int .i64 l57.2.2.2.2.2.1, .sl false 2 (List.map tySAddr.c l57.2.2.2.2.2.2.1)]]⟩)])
                  (fun l63 =>
                    .br 0 (decide (l63 < l57.2.2.2.2.2.2.2))
                    (.row 20004 tySAddr l57.2.2.2.2.2.2.1 l63.toNat (decide (0 ≤ l63)) fun x64 =>
                      .row 20009 tySAddr l57.2.2.2.2.2.2.1 l57.2.2.2.2.2.2.2.toNat (decide (0 ≤ l57.2.2.2.2.2.2.2)) fun x65 =>
                      .br 0 ((decide (x64.fHost = x65.fHost)) && ((x64.fPort == x65.fPort) && true))
                      (.done (.inr (.inl ())))
                      (.done (.inl (wi64 (l63 + 1)))))
                    (.done (.inr (.inr ()))))
                  0)
                (fun (e66 : Unit) => Ext.lit .ret [(2, .ptr 2 0 0), (4, .bool false), (5, .ptr 5 0 0), (6, .int .i64 (p0.fHost.size : Int)), (8, .int .i64 l57.2.2.2.2.2.2.2)] [(2, ⟨9, true, [[.int .i64 p0.fMapping, .int .i64 p0.fFilter, .int .i64 p0.fTimeout, .bool p0.fHairpin, .str p0.fHost, .int .i64 p0.fLow, .int .i64 p0.fHigh, .int .i64 p0.fNow, .sl false 7 (List.map tySBinding.c p0.fTable)]]⟩), (5, ⟨7, true, [[.str l57.1, .int .i64 l57.2.1, .str l57.2.2.1, .int .i64 l57.2.2.2.1, .int .i64 l57.2.2.2.2.1, .int .i64 l57.2.2.2.2.2.1, .sl false 2 (List.map tySAddr.c l57.2.2.2.2.2.2.1)]]⟩)])
                (fun (e67 : Unit) => Ext.lit (.exit 4) [(2, .ptr 2 0 0), (4, .bool false), (5, .ptr 5 0 0), (6, .int .i64 (p0.fHost.size : Int)), (8, .int .i64 l57.2.2.2.2.2.2.2)] [(2, ⟨9, true, [[.int .i64 p0.fMapping, .int .i64 p0.fFilter, .int .i64 p0.fTimeout, .bool p0.fHairpin, .str p0.fHost, .int .i64 p0.fLow, .int .i64 p0.fHigh, .int .i64 p0.fNow, .sl false 7 (List.map tySBinding.c p0.fTable)]]⟩), (5, ⟨7, true, [[.str l57.1, .int .i64 l57.2.1, .str l57.2.2.1, .int .i64 l57.2.2.2.1, .int .i64 l57.2.2.2.2.1, .int .i64 l57.2.2.2.2.2.1, .sl false 2 (List.map tySAddr.c l57.2.2.2.2.2.2.1)]]⟩)])
                (fun e66 =>
                  .done (.inr (.inl (l57.1, l57.2.1, l57.2.2.1, l57.2.2.2.1, l57.2.2.2.2.1, l57.2.2.2.2.2.1, l57.2.2.2.2.2.2.1))))
                (fun e67 =>
                  .done (.inl (l57.1, l57.2.1, l57.2.2.1, l57.2.2.2.1, l57.2.2.2.2.1, l57.2.2.2.2.2.1, l57.2.2.2.2.2.2.1, (wi64 (l57.2.2.2.2.2.2.2 + 1)))))))
            (.done (.inr (.inr (l57.1, l57.2.1, l57.2.2.1, l57.2.2.2.1, l57.2.2.2.2.1, l57.2.2.2.2.2.1, l57.2.2.2.2.2.2.1)))))
          (e42.1, e42.2.1, e42.2.2.1, e42.2.2.2.1, e42.2.2.2.2.1, e42.2.2.2.2.2.1, e42.2.2.2.2.2.2, 0))
        (fun (e68 : ByteArray × Int × ByteArray × Int × Int × Int × (List SAddr)) => Ext.lit .ret [(4, .bool false), (5, .ptr 5 0 0)] [(5, ⟨7, true, [[.str e68.1, .int .i64 e68.2.1, .str e68.2.2.1, .int .i64 e68.2.2.2.1, .int .i64 e68.2.2.2.2.1, .int .i64 e68.2.2.2.2.2.1, .sl false 2 (List.map tySAddr.c e68.2.2.2.2.2.2)]]⟩)])
        (fun (e69 : ByteArray × Int × ByteArray × Int × Int × Int × (List SAddr)) => Ext.lit (.exit 2) [(4, .bool false), (5, .ptr 5 0 0)] [(5, ⟨7, true, [[.str e69.1, .int .i64 e69.2.1, .str e69.2.2.1, .int .i64 e69.2.2.2.1, .int .i64 e69.2.2.2.2.1, .int .i64 e69.2.2.2.2.2.1, .sl false 2 (List.map tySAddr.c e69.2.2.2.2.2.2)]]⟩)])
        (fun e68 =>
          .done false)
        (fun e69 =>
          .cnd 22 [4]
          (.br 22006 (decide ((1 : Int) ≤ (mlen tySAddr e69.2.2.2.2.2.2)))
            (.done (decide ((mlen tySAddr e69.2.2.2.2.2.2) ≤ 16)))
            (.done false))
          (fun (c70 : Bool) => [.bool c70]) fun c70 =>
          .done c70))))
theorem k79 (p0 : SNat) (p1 : Int) : FnD Tryd.prog GG [0, 1, 2, 4, 5, 6, 7, 8, 9, 70, 73, 106, 109, 118, 130, 133, 146] Tryd.f79 [.agg [.int .i64 p0.fMapping, .int .i64 p0.fFilter, .int .i64 p0.fTimeout, .bool p0.fHairpin, .str p0.fHost, .int .i64 p0.fLow, .int .i64 p0.fHigh, .int .i64 p0.fNow, .sl false 7 (List.map tySBinding.c p0.fTable)], .int .i64 p1] (g79 p0 p1) (fun r => .bool r) := by unfold FnD; kernel_rfl
noncomputable def s79 (p0 : SNat) (p1 : Int) : EV.Spec Tryd.prog GG (Bool) := .ofFn 79 mixed Tryd.func79 (k79 p0 p1)

/-- tannoy tannoyref13.Right -/
noncomputable def g53 (p0 : SNat) : TT (Bool) :=
  .cnd 1 [43]
  (.br 1005 (decide (p0.fMapping < 1))
    (.done true)
    (.br 1010 (decide ((3 : Int) < p0.fMapping))
      (.done true)
      (.br 1015 (decide (p0.fFilter < 1))
        (.done true)
        (.br 1020 (decide ((3 : Int) < p0.fFilter))
          (.done true)
          (.br 1025 (decide (p0.fTimeout < 1))
            (.done true)
            (.br 1030 (decide ((3600000 : Int) < p0.fTimeout))
              (.done true)
              (.br 1035 ((p0.fHost.size : Int) != 4)
                (.done ((p0.fHost.size : Int) != 16))
                (.done false))))))))
  (fun (c19 : Bool) => [.bool c19]) fun c19 =>
  .br 0 c19
  (.done false)
  (.cnd 3 [81]
    (.br 3005 (decide (p0.fLow < 1))
      (.done true)
      (.br 3010 (decide ((65535 : Int) < p0.fLow))
        (.done true)
        (.br 3017 (decide (p0.fHigh < p0.fLow))
          (.done true)
          (.br 3022 (decide ((65535 : Int) < p0.fHigh))
            (.done true)
            (.br 3030 (decide ((64 : Int) ≤ (wi64 (p0.fHigh - p0.fLow))))
              (.done true)
              (.br 3035 (decide (p0.fNow < 0))
                (.done true)
                (.done (decide ((1099511627776 : Int) < p0.fNow)))))))))
    (fun (c20 : Bool) => [.bool c20]) fun c20 =>
    .br 0 c20
    (.done false)
    (.bind2 1
      (.lp (fun (l23 : Int) => Ext.lit .normal [(1, .ptr 1 0 0), (2, .bool false), (3, .int .i64 l23)] [(1, ⟨9, true, [[.int .i64 p0.fMapping, .int .i64 p0.fFilter, .int .i64 p0.fTimeout, .bool p0.fHairpin, .str p0.fHost, .int .i64 p0.fLow, .int .i64 p0.fHigh, .int .i64 p0.fNow, .sl false 7 (List.map tySBinding.c p0.fTable)]]⟩)])
        (fun l23 =>
          .br 0 (decide (l23 < (mlen tySBinding p0.fTable)))
          (.call 8003 (s79 p0 l23) [] [] fun r24 =>
            .br 0 (!r24)
            (.done (.inr (.inl ())))
            (.done (.inl (wi64 (l23 + 1)))))
          (.done (.inr (.inr ()))))
        0)
      (fun (e25 : Unit) => Ext.lit .ret [(2, .bool false)] [])
      (fun (e26 : Unit) => Ext.lit (.exit 0) [(2, .bool false)] [])
      (fun e25 =>
        .done false)
      (fun e26 =>
        .done true)))
theorem k53 (p0 : SNat) : FnD Tryd.prog GG [0, 1, 2, 3, 43, 81, 86, 92] Tryd.f53 [.agg [.int .i64 p0.fMapping, .int .i64 p0.fFilter, .int .i64 p0.fTimeout, .bool p0.fHairpin, .str p0.fHost, .int .i64 p0.fLow, .int .i64 p0.fHigh, .int .i64 p0.fNow, .sl false 7 (List.map tySBinding.c p0.fTable)]] (g53 p0) (fun r => .bool r) := by unfold FnD; kernel_rfl
noncomputable def s53 (p0 : SNat) : EV.Spec Tryd.prog GG (Bool) := .ofFn 53 mixed Tryd.func53 (k53 p0)

/-- tannoy tannoyref13.Same -/
noncomputable def g22 (p0 : SNat) (p1 : SNat) : TT (Bool) :=
  .cnd 1 [71]
  (.br 1007 (p0.fMapping != p1.fMapping)
    (.done true)
    (.br 1014 (p0.fFilter != p1.fFilter)
      (.done true)
      (.br 1021 (p0.fTimeout != p1.fTimeout)
        (.done true)
        (.br 1028 (!(p0.fHairpin == p1.fHairpin))
          (.done true)
          (.br 1035 (!decide (p0.fHost = p1.fHost))
            (.done true)
            (.br 1042 (p0.fLow != p1.fLow)
              (.done true)
              (.br 1049 (p0.fHigh != p1.fHigh)
                (.done true)
                (.br 1056 (p0.fNow != p1.fNow)
                  (.done true)
                  (.done ((mlen tySBinding p0.fTable) != (mlen tySBinding p1.fTable)))))))))))
  (fun (c27 : Bool) => [.bool c27]) fun c27 =>
  .br 0 c27
  (.done false)
  (.bind2 1
    (.lp (fun (l40 : Int) => Ext.lit .normal [(2, .ptr 2 0 0), (3, .ptr 3 0 0), (4, .bool false), (5, .int .i64 l40)] [(2, ⟨9, true, [[.int .i64 p0.fMapping, .int .i64 p0.fFilter, .int .i64 p0.fTimeout, .bool p0.fHairpin, .str p0.fHost, .int .i64 p0.fLow, .int .i64 p0.fHigh, .int .i64 p0.fNow, .sl false 7 (List.map tySBinding.c p0.fTable)]]⟩), (3, ⟨9, true, [[.int .i64 p1.fMapping, .int .i64 p1.fFilter, .int .i64 p1.fTimeout, .bool p1.fHairpin, .str p1.fHost, .int .i64 p1.fLow, .int .i64 p1.fHigh, .int .i64 p1.fNow, .sl false 7 (List.map tySBinding.c p1.fTable)]]⟩)])
      (fun l40 =>
        .br 0 (decide (l40 < (mlen tySBinding p0.fTable)))
        (.row 6004 tySBinding p0.fTable l40.toNat (decide (0 ≤ l40)) fun x41 =>
          .row 6009 tySBinding p1.fTable l40.toNat (decide (0 ≤ l40)) fun x42 =>
          .cnd 7 [123]
          (.br 7007 (!((decide (x41.fInside.fHost = x42.fInside.fHost)) && ((x41.fInside.fPort == x42.fInside.fPort) && true)))
            (.done true)
            (.br 7014 (!((decide (x41.fPeer.fHost = x42.fPeer.fHost)) && ((x41.fPeer.fPort == x42.fPeer.fPort) && true)))
              (.done true)
              (.br 7021 (x41.fPort != x42.fPort)
                (.done true)
                (.br 7028 (x41.fUntil != x42.fUntil)
                  (.done true)
                  (.done ((mlen tySAddr x41.fOpen) != (mlen tySAddr x42.fOpen)))))))
          (fun (c43 : Bool) => [.bool c43]) fun c43 =>
          .br 0 c43
          (.done (.inr (.inl ())))
          (.bind2 1
            (.lp (fun (l47 : Int) => Ext.lit .normal [(2, .ptr 2 0 0), (3, .ptr 3 0 0), (4, .bool false), (5, .int .i64 l40), (6, .ptr 6 0 0), (7, .ptr 7 0 0), (8, .int .i64 l47)] [(2, ⟨9, true, [[.int .i64 p0.fMapping, .int .i64 p0.fFilter, .int .i64 p0.fTimeout, .bool p0.fHairpin, .str p0.fHost, .int .i64 p0.fLow, .int .i64 p0.fHigh, .int .i64 p0.fNow, .sl false 7 (List.map tySBinding.c p0.fTable)]]⟩), (3, ⟨9, true, [[.int .i64 p1.fMapping, .int .i64 p1.fFilter, .int .i64 p1.fTimeout, .bool p1.fHairpin, .str p1.fHost, .int .i64 p1.fLow, .int .i64 p1.fHigh, .int .i64 p1.fNow, .sl false 7 (List.map tySBinding.c p1.fTable)]]⟩), (6, ⟨7, true, [[.str x41.fInside.fHost, .int .i64 x41.fInside.fPort, .str x41.fPeer.fHost, .int .i64 x41.fPeer.fPort, .int .i64 x41.fPort, .int .i64 x41.fUntil, .sl false 2 (List.map tySAddr.c x41.fOpen)]]⟩), (7, ⟨7, true, [[.str x42.fInside.fHost, .int .i64 x42.fInside.fPort, .str x42.fPeer.fHost, .int .i64 x42.fPeer.fPort, .int .i64 x42.fPort, .int .i64 x42.fUntil, .sl false 2 (List.map tySAddr.c x42.fOpen)]]⟩)])
              (fun l47 =>
                .br 0 (decide (l47 < (mlen tySAddr x41.fOpen)))
                (.row 12004 tySAddr x41.fOpen l47.toNat (decide (0 ≤ l47)) fun x48 =>
                  .row 12009 tySAddr x42.fOpen l47.toNat (decide (0 ≤ l47)) fun x49 =>
                  .br 0 (!((decide (x48.fHost = x49.fHost)) && ((x48.fPort == x49.fPort) && true)))
                  (.done (.inr (.inl ())))
                  (.done (.inl (wi64 (l47 + 1)))))
                (.done (.inr (.inr ()))))
              0)
            (fun (e50 : Unit) => Ext.lit .ret [(2, .ptr 2 0 0), (3, .ptr 3 0 0), (4, .bool false), (5, .int .i64 l40)] [(2, ⟨9, true, [[.int .i64 p0.fMapping, .int .i64 p0.fFilter, .int .i64 p0.fTimeout, .bool p0.fHairpin, .str p0.fHost, .int .i64 p0.fLow, .int .i64 p0.fHigh, .int .i64 p0.fNow, .sl false 7 (List.map tySBinding.c p0.fTable)]]⟩), (3, ⟨9, true, [[.int .i64 p1.fMapping, .int .i64 p1.fFilter, .int .i64 p1.fTimeout, .bool p1.fHairpin, .str p1.fHost, .int .i64 p1.fLow, .int .i64 p1.fHigh, .int .i64 p1.fNow, .sl false 7 (List.map tySBinding.c p1.fTable)]]⟩)])
            (fun (e51 : Unit) => Ext.lit (.exit 2) [(2, .ptr 2 0 0), (3, .ptr 3 0 0), (4, .bool false), (5, .int .i64 l40)] [(2, ⟨9, true, [[.int .i64 p0.fMapping, .int .i64 p0.fFilter, .int .i64 p0.fTimeout, .bool p0.fHairpin, .str p0.fHost, .int .i64 p0.fLow, .int .i64 p0.fHigh, .int .i64 p0.fNow, .sl false 7 (List.map tySBinding.c p0.fTable)]]⟩), (3, ⟨9, true, [[.int .i64 p1.fMapping, .int .i64 p1.fFilter, .int .i64 p1.fTimeout, .bool p1.fHairpin, .str p1.fHost, .int .i64 p1.fLow, .int .i64 p1.fHigh, .int .i64 p1.fNow, .sl false 7 (List.map tySBinding.c p1.fTable)]]⟩)])
            (fun e50 =>
              .done (.inr (.inl ())))
            (fun e51 =>
              .done (.inl (wi64 (l40 + 1))))))
        (.done (.inr (.inr ()))))
      0)
    (fun (e52 : Unit) => Ext.lit .ret [(4, .bool false)] [])
    (fun (e53 : Unit) => Ext.lit (.exit 0) [(4, .bool false)] [])
    (fun e52 =>
      .done false)
    (fun e53 =>
      .done true))
theorem k22 (p0 : SNat) (p1 : SNat) : FnD Tryd.prog GG [0, 1, 2, 3, 4, 5, 6, 7, 8, 71, 76, 123, 128, 141] Tryd.f22 [.agg [.int .i64 p0.fMapping, .int .i64 p0.fFilter, .int .i64 p0.fTimeout, .bool p0.fHairpin, .str p0.fHost, .int .i64 p0.fLow, .int .i64 p0.fHigh, .int .i64 p0.fNow, .sl false 7 (List.map tySBinding.c p0.fTable)], .agg [.int .i64 p1.fMapping, .int .i64 p1.fFilter, .int .i64 p1.fTimeout, .bool p1.fHairpin, .str p1.fHost, .int .i64 p1.fLow, .int .i64 p1.fHigh, .int .i64 p1.fNow, .sl false 7 (List.map tySBinding.c p1.fTable)]] (g22 p0 p1) (fun r => .bool r) := by unfold FnD; kernel_rfl
noncomputable def s22 (p0 : SNat) (p1 : SNat) : EV.Spec Tryd.prog GG (Bool) := .ofFn 22 mixed Tryd.func22 (k22 p0 p1)

/-- tannoy tannoyref13.copied -/
noncomputable def g57 (p0 : SBinding) : TT ((List SAddr)) :=
  .app 2004 tySAddr [] p0.fOpen 24 true (by intros; rfl) (.done ([] ++ p0.fOpen))
theorem k57 (p0 : SBinding) : FnB Tryd.prog GG [0, 1, 2, 3] Tryd.f57 [.agg [.str p0.fInside.fHost, .int .i64 p0.fInside.fPort, .str p0.fPeer.fHost, .int .i64 p0.fPeer.fPort, .int .i64 p0.fPort, .int .i64 p0.fUntil, .sl false 2 (List.map tySAddr.c p0.fOpen)]] (Ext.of .normal (argTs [.agg [.str p0.fInside.fHost, .int .i64 p0.fInside.fPort, .str p0.fPeer.fHost, .int .i64 p0.fPeer.fPort, .int .i64 p0.fPort, .int .i64 p0.fUntil, .sl false 2 (List.map tySAddr.c p0.fOpen)]]) [] [] (by rfl)) (g57 p0) (fun (r : (List SAddr)) => .agg [.str p0.fInside.fHost, .int .i64 p0.fInside.fPort, .str p0.fPeer.fHost, .int .i64 p0.fPeer.fPort, .int .i64 p0.fPort, .int .i64 p0.fUntil, .ref 7 0 r.length]) (fun (r : (List SAddr)) => Ext.of .normal [] [] [BT.of 7 tySAddr 2 r true] (by rfl)) := by unfold FnB; kernel_rfl
noncomputable def s57 (p0 : SBinding) : EV.Spec Tryd.prog GG ((List SAddr)) := .ofFnB 57 [7] mixed Tryd.func57 rfl (fun _ => rfl) (k57 p0)

/-- tannoy tannoyref13.At -/
noncomputable def g21 (p0 : SNat) (p1 : Int) : TT ((List SBinding)) :=
  .gh 1 (.virt 600014 5 7) (.bind 0
  (.lp (fun (l58 : (List SBinding) × Int) => Ext.of .normal [(1, .int .i64 p1), (2, .ptr 2 0 0), (4, .ptr 4 0 0), (5, .ref 600014 0 l58.1.length), (6, .int .i64 l58.2)] [(2, ⟨9, true, [[.int .i64 p0.fMapping, .int .i64 p0.fFilter, .int .i64 p0.fTimeout, .bool p0.fHairpin, .str p0.fHost, .int .i64 p0.fLow, .int .i64 p0.fHigh, .int .i64 p0.fNow, .sl false 7 (List.map tySBinding.c p0.fTable)]]⟩), (4, ⟨9, true, [[.int .i64 0, .int .i64 0, .int .i64 0, .bool false, .str ByteArray.empty, .int .i64 0, .int .i64 0, .int .i64 0, .nilsl]]⟩)] [BT.of 600014 tySBindingO6 7 l58.1 true] (by rfl))
    (fun l58 =>
      .br 0 (decide (l58.2 < (mlen tySBinding p0.fTable)))
      (.row 5004 tySBinding p0.fTable l58.2.toNat (decide (0 ≤ l58.2)) fun x59 =>
        .br 0 (decide (p1 < x59.fUntil))
        (.row 6005 tySBinding p0.fTable l58.2.toNat (decide (0 ≤ l58.2)) fun x60 =>
          .call 6007 (s57 x60) [] [(7, 500018)] fun r61 =>
          .appn 6009 tySBindingO6 l58.1 (SBinding.mk x60.fInside x60.fPeer x60.fPort x60.fUntil r61) 6 500018 tySAddr r61 88 (.gh 0 (.drop [600014]) (.gh 0 (.ren 30 600014) (.done (.inl ((l58.1 ++ [(SBinding.mk x60.fInside x60.fPeer x60.fPort x60.fUntil r61)]), (wi64 (l58.2 + 1))))))))
        (.done (.inl (l58.1, (wi64 (l58.2 + 1))))))
      (.done (.inr l58.1)))
    ([], 0))
  (fun (e62 : (List SBinding)) => Ext.of (.exit 0) [(1, .int .i64 p1), (2, .ptr 2 0 0), (4, .ptr 4 0 0), (5, .ref 600014 0 e62.length)] [(2, ⟨9, true, [[.int .i64 p0.fMapping, .int .i64 p0.fFilter, .int .i64 p0.fTimeout, .bool p0.fHairpin, .str p0.fHost, .int .i64 p0.fLow, .int .i64 p0.fHigh, .int .i64 p0.fNow, .sl false 7 (List.map tySBinding.c p0.fTable)]]⟩), (4, ⟨9, true, [[.int .i64 0, .int .i64 0, .int .i64 0, .bool false, .str ByteArray.empty, .int .i64 0, .int .i64 0, .int .i64 0, .nilsl]]⟩)] [BT.of 600014 tySBindingO6 7 e62 true] (by rfl))
  (fun e62 =>
    .done e62))
theorem k21 (p0 : SNat) (p1 : Int) : FnB Tryd.prog GG [0, 1, 2, 4, 5, 6, 11, 21] Tryd.f21 [.agg [.int .i64 p0.fMapping, .int .i64 p0.fFilter, .int .i64 p0.fTimeout, .bool p0.fHairpin, .str p0.fHost, .int .i64 p0.fLow, .int .i64 p0.fHigh, .int .i64 p0.fNow, .sl false 7 (List.map tySBinding.c p0.fTable)], .int .i64 p1] (Ext.of .normal (argTs [.agg [.int .i64 p0.fMapping, .int .i64 p0.fFilter, .int .i64 p0.fTimeout, .bool p0.fHairpin, .str p0.fHost, .int .i64 p0.fLow, .int .i64 p0.fHigh, .int .i64 p0.fNow, .sl false 7 (List.map tySBinding.c p0.fTable)], .int .i64 p1]) [] [] (by rfl)) (g21 p0 p1) (fun (r : (List SBinding)) => .agg [.int .i64 p0.fMapping, .int .i64 p0.fFilter, .int .i64 p0.fTimeout, .bool p0.fHairpin, .str p0.fHost, .int .i64 p0.fLow, .int .i64 p0.fHigh, .int .i64 p1, .ref 600014 0 r.length]) (fun (r : (List SBinding)) => Ext.of .normal [] [] [BT.of 600014 tySBindingO6 7 r true] (by rfl)) := by unfold FnB; kernel_rfl
noncomputable def s21 (p0 : SNat) (p1 : Int) : EV.Spec Tryd.prog GG ((List SBinding)) := .ofFnB 21 [600014] mixed Tryd.func21 rfl (fun _ => rfl) (k21 p0 p1)

/-- tannoy tannoylaw13.few -/
noncomputable def g52 (p0 : SNat) : TT (SNat) :=
  .chk 2007 (decide (0 ≤ (if (12 : Int) < (mlen tySBinding p0.fTable) then (12 : Int) else (mlen tySBinding p0.fTable))) && decide ((if (12 : Int) < (mlen tySBinding p0.fTable) then (12 : Int) else (mlen tySBinding p0.fTable)) ≤ ((mlenn tySBinding p0.fTable) : Int))) (.re 2007 (ReW.cutHi 12 7 tySBinding p0.fTable ((if (12 : Int) < (mlen tySBinding p0.fTable) then (12 : Int) else (mlen tySBinding p0.fTable)).toNat)) (.gh 1 (.virt 600020 3 7) (.bind 0
  (.lp (fun (l65 : (List SBinding) × Int) => Ext.of .normal [(1, .ptr 1 0 0), (2, .ptr 2 0 0), (3, .ref 600020 0 l65.1.length), (12, .sl false 7 (List.map tySBinding.c (p0.fTable.take ((if (12 : Int) < (mlen tySBinding p0.fTable) then (12 : Int) else (mlen tySBinding p0.fTable)).toNat)))), (13, .int .i64 (mlen tySBinding (p0.fTable.take ((if (12 : Int) < (mlen tySBinding p0.fTable) then (12 : Int) else (mlen tySBinding p0.fTable)).toNat)))), (14, .int .i64 l65.2)] [(1, ⟨9, true, [[.int .i64 p0.fMapping, .int .i64 p0.fFilter, .int .i64 p0.fTimeout, .bool p0.fHairpin, .str p0.fHost, .int .i64 p0.fLow, .int .i64 p0.fHigh, .int .i64 p0.fNow, .sl false 7 (List.map tySBinding.c p0.fTable)]]⟩), (2, ⟨9, true, [[.int .i64 0, .int .i64 0, .int .i64 0, .bool false, .str ByteArray.empty, .int .i64 0, .int .i64 0, .int .i64 0, .nilsl]]⟩)] [BT.of 600020 tySBinding 7 l65.1 true] (by rfl))
    (fun l65 =>
      .br 0 (decide (l65.2 < (mlen tySBinding (p0.fTable.take ((if (12 : Int) < (mlen tySBinding p0.fTable) then (12 : Int) else (mlen tySBinding p0.fTable)).toNat)))))
      (.row 4001 tySBinding (p0.fTable.take ((if (12 : Int) < (mlen tySBinding p0.fTable) then (12 : Int) else (mlen tySBinding p0.fTable)).toNat)) l65.2.toNat (decide (0 ≤ l65.2)) fun x66 =>
        .chk 5007 (decide (0 ≤ (if (18 : Int) < (mlen tySAddr x66.fOpen) then (18 : Int) else (mlen tySAddr x66.fOpen))) && decide ((if (18 : Int) < (mlen tySAddr x66.fOpen) then (18 : Int) else (mlen tySAddr x66.fOpen)) ≤ ((mlenn tySAddr x66.fOpen) : Int))) (.re 5007 (ReW.cutHi 24 2 tySAddr x66.fOpen ((if (18 : Int) < (mlen tySAddr x66.fOpen) then (18 : Int) else (mlen tySAddr x66.fOpen)).toNat)) (.app 6004 tySBinding l65.1 [(SBinding.mk x66.fInside x66.fPeer x66.fPort x66.fUntil (x66.fOpen.take ((if (18 : Int) < (mlen tySAddr x66.fOpen) then (18 : Int) else (mlen tySAddr x66.fOpen)).toNat)))] 88 false (by intro h; cases h) (.gh 0 (.drop [600020]) (.gh 0 (.ren 29 600020) (.done (.inl ((l65.1 ++ [(SBinding.mk x66.fInside x66.fPeer x66.fPort x66.fUntil (x66.fOpen.take ((if (18 : Int) < (mlen tySAddr x66.fOpen) then (18 : Int) else (mlen tySAddr x66.fOpen)).toNat)))]), (wi64 (l65.2 + 1))))))))))
      (.done (.inr l65.1)))
    ([], 0))
  (fun (e67 : (List SBinding)) => Ext.of (.exit 0) [(1, .ptr 1 0 0), (2, .ptr 2 0 0), (3, .ref 600020 0 e67.length)] [(1, ⟨9, true, [[.int .i64 p0.fMapping, .int .i64 p0.fFilter, .int .i64 p0.fTimeout, .bool p0.fHairpin, .str p0.fHost, .int .i64 p0.fLow, .int .i64 p0.fHigh, .int .i64 p0.fNow, .sl false 7 (List.map tySBinding.c p0.fTable)]]⟩), (2, ⟨9, true, [[.int .i64 0, .int .i64 0, .int .i64 0, .bool false, .str ByteArray.empty, .int .i64 0, .int .i64 0, .int .i64 0, .nilsl]]⟩)] [BT.of 600020 tySBinding 7 e67 true] (by rfl))
  (fun e67 =>
    .gh 0 (.share [⟨600020, _, tySBinding, e67⟩, ⟨600020, _, tySBinding, e67⟩, ⟨600020, _, tySBinding, e67⟩]) (.done (SNat.mk p0.fMapping p0.fFilter p0.fTimeout p0.fHairpin p0.fHost p0.fLow p0.fHigh p0.fNow e67))))))
theorem k52 (p0 : SNat) : FnD Tryd.prog GG [0, 1, 2, 3, 5, 12, 13, 14, 15] Tryd.f52 [.agg [.int .i64 p0.fMapping, .int .i64 p0.fFilter, .int .i64 p0.fTimeout, .bool p0.fHairpin, .str p0.fHost, .int .i64 p0.fLow, .int .i64 p0.fHigh, .int .i64 p0.fNow, .sl false 7 (List.map tySBinding.c p0.fTable)]] (g52 p0) (fun r => .agg [.int .i64 r.fMapping, .int .i64 r.fFilter, .int .i64 r.fTimeout, .bool r.fHairpin, .str r.fHost, .int .i64 r.fLow, .int .i64 r.fHigh, .int .i64 r.fNow, .sl false 7 (List.map tySBinding.c r.fTable)]) := by unfold FnD; kernel_rfl
noncomputable def s52 (p0 : SNat) : EV.Spec Tryd.prog GG (SNat) := .ofFn 52 mixed Tryd.func52 (k52 p0)

/-- tannoy tannoyref13.taken -/
noncomputable def g89 (p0 : SNat) (p1 : Int) : TT (Bool) :=
  .bind2 1
  (.lp (fun (l73 : Int) => Ext.lit .normal [(1, .int .i64 p1), (2, .ptr 2 0 0), (4, .bool false), (5, .int .i64 l73)] [(2, ⟨9, true, [[.int .i64 p0.fMapping, .int .i64 p0.fFilter, .int .i64 p0.fTimeout, .bool p0.fHairpin, .str p0.fHost, .int .i64 p0.fLow, .int .i64 p0.fHigh, .int .i64 p0.fNow, .sl false 7 (List.map tySBinding.c p0.fTable)]]⟩)])
    (fun l73 =>
      .br 0 (decide (l73 < (mlen tySBinding p0.fTable)))
      (.row 4004 tySBinding p0.fTable l73.toNat (decide (0 ≤ l73)) fun x74 =>
        .br 0 (x74.fPort == p1)
        (.done (.inr (.inl ())))
        (.done (.inl (wi64 (l73 + 1)))))
      (.done (.inr (.inr ()))))
    0)
  (fun (e75 : Unit) => Ext.lit .ret [(4, .bool true)] [])
  (fun (e76 : Unit) => Ext.lit (.exit 0) [(4, .bool false)] [])
  (fun e75 =>
    .done true)
  (fun e76 =>
    .done false)
theorem k89 (p0 : SNat) (p1 : Int) : FnD Tryd.prog GG [0, 1, 2, 4, 5, 10, 20] Tryd.f89 [.agg [.int .i64 p0.fMapping, .int .i64 p0.fFilter, .int .i64 p0.fTimeout, .bool p0.fHairpin, .str p0.fHost, .int .i64 p0.fLow, .int .i64 p0.fHigh, .int .i64 p0.fNow, .sl false 7 (List.map tySBinding.c p0.fTable)], .int .i64 p1] (g89 p0 p1) (fun r => .bool r) := by unfold FnD; kernel_rfl
noncomputable def s89 (p0 : SNat) (p1 : Int) : EV.Spec Tryd.prog GG (Bool) := .ofFn 89 mixed Tryd.func89 (k89 p0 p1)

/-- tannoy tannoyref13.port -/
noncomputable def g60 (p0 : SNat) (p1 : Int) : TT (Int) :=
  .cnd 2 [20]
  (.br 2006 (decide (p0.fLow ≤ p1))
    (.done (decide (p1 ≤ p0.fHigh)))
    (.done false))
  (fun (c68 : Bool) => [.bool c68]) fun c68 =>
  .bind 0
  (.br 0 c68
    (.done p1)
    (.done p0.fLow))
  (fun (e69 : Int) => Ext.lit .normal [(2, .ptr 2 0 0), (4, .int .i64 0), (5, .int .i64 e69)] [(2, ⟨9, true, [[.int .i64 p0.fMapping, .int .i64 p0.fFilter, .int .i64 p0.fTimeout, .bool p0.fHairpin, .str p0.fHost, .int .i64 p0.fLow, .int .i64 p0.fHigh, .int .i64 p0.fNow, .sl false 7 (List.map tySBinding.c p0.fTable)]]⟩)])
  (fun e69 =>
    .bind2 1
    (.lp (fun (l72 : Int) => Ext.lit .normal [(2, .ptr 2 0 0), (4, .int .i64 0), (5, .int .i64 e69), (6, .int .i64 (wi64 ((wi64 (p0.fHigh - p0.fLow)) + 1))), (7, .int .i64 l72)] [(2, ⟨9, true, [[.int .i64 p0.fMapping, .int .i64 p0.fFilter, .int .i64 p0.fTimeout, .bool p0.fHairpin, .str p0.fHost, .int .i64 p0.fLow, .int .i64 p0.fHigh, .int .i64 p0.fNow, .sl false 7 (List.map tySBinding.c p0.fTable)]]⟩)])
      (fun l72 =>
        .br 0 (decide (l72 < (wi64 ((wi64 (p0.fHigh - p0.fLow)) + 1))))
        (.chk 8010 (!((wi64 ((wi64 (p0.fHigh - p0.fLow)) + 1)) == 0)) (.call 9003 (s89 p0 (wi64 (p0.fLow + (Int.tmod (wi64 ((wi64 (e69 - p0.fLow)) + l72)) (wi64 ((wi64 (p0.fHigh - p0.fLow)) + 1)))))) [] [] fun r73 =>
          .br 0 (!r73)
          (.done (.inr (.inl (wi64 (p0.fLow + (Int.tmod (wi64 ((wi64 (e69 - p0.fLow)) + l72)) (wi64 ((wi64 (p0.fHigh - p0.fLow)) + 1))))))))
          (.done (.inl (wi64 (l72 + 1))))))
        (.done (.inr (.inr ()))))
      0)
    (fun (e74 : Int) => Ext.lit .ret [(4, .int .i64 e74)] [])
    (fun (e75 : Unit) => Ext.lit (.exit 0) [(4, .int .i64 0)] [])
    (fun e74 =>
      .done e74)
    (fun e75 =>
      .done 0))
theorem k60 (p0 : SNat) (p1 : Int) : FnD Tryd.prog GG [0, 1, 2, 4, 5, 6, 7, 8, 20, 30, 47] Tryd.f60 [.agg [.int .i64 p0.fMapping, .int .i64 p0.fFilter, .int .i64 p0.fTimeout, .bool p0.fHairpin, .str p0.fHost, .int .i64 p0.fLow, .int .i64 p0.fHigh, .int .i64 p0.fNow, .sl false 7 (List.map tySBinding.c p0.fTable)], .int .i64 p1] (g60 p0 p1) (fun r => .int .i64 r) := by unfold FnD; kernel_rfl
noncomputable def s60 (p0 : SNat) (p1 : Int) : EV.Spec Tryd.prog GG (Int) := .ofFn 60 mixed Tryd.func60 (k60 p0 p1)

end Go.Proofs.YtdiagiflihpidaaDoor

namespace Go.Proofs.YtdiagiflihpidaaDoor
open Go Go.EV
set_option maxRecDepth 100000

/-- (tannoy tannoyref13.Bend).Of -/
noncomputable def g35 (p0 : SBend) (p1 : SNat) : TT (SNat) :=
  .gh 1 (.virt 600039 5 7) (.bind 0
  (.lp (fun (l92 : (List SBinding) × Int) => Ext.of .normal [(2, .ptr 2 0 0), (3, .ptr 3 0 0), (4, .ptr 4 0 0), (5, .ref 600039 0 l92.1.length), (6, .int .i64 l92.2)] [(2, ⟨6, true, [[.int .u8 p0.fWhat, .int .u8 p0.fAt, .int .i64 p0.fN, .str p0.fA.fHost, .int .i64 p0.fA.fPort, .str p0.fS]]⟩), (3, ⟨9, true, [[.int .i64 p1.fMapping, .int .i64 p1.fFilter, .int .i64 p1.fTimeout, .bool p1.fHairpin, .str p1.fHost, .int .i64 p1.fLow, .int .i64 p1.fHigh, .int .i64 p1.fNow, .sl false 7 (List.map tySBinding.c p1.fTable)]]⟩), (4, ⟨9, true, [[.int .i64 0, .int .i64 0, .int .i64 0, .bool false, .str ByteArray.empty, .int .i64 0, .int .i64 0, .int .i64 0, .nilsl]]⟩)] [BT.of 600039 tySBindingO6 7 l92.1 true] (by rfl))
    (fun l92 =>
      .br 0 (decide (l92.2 < (mlen tySBinding p1.fTable)))
      (.row 5005 tySBinding p1.fTable l92.2.toNat (decide (0 ≤ l92.2)) fun x93 =>
        .call 5007 (s57 x93) [] [(7, 500041)] fun r94 =>
        .appn 5009 tySBindingO6 l92.1 (SBinding.mk x93.fInside x93.fPeer x93.fPort x93.fUntil r94) 6 500041 tySAddr r94 88 (.gh 0 (.drop [600039]) (.gh 0 (.ren 23 600039) (.done (.inl ((l92.1 ++ [(SBinding.mk x93.fInside x93.fPeer x93.fPort x93.fUntil r94)]), (wi64 (l92.2 + 1))))))))
      (.done (.inr l92.1)))
    ([], 0))
  (fun (e95 : (List SBinding)) => Ext.of (.exit 0) [(2, .ptr 2 0 0), (3, .ptr 3 0 0), (4, .ptr 4 0 0), (5, .ref 600039 0 e95.length)] [(2, ⟨6, true, [[.int .u8 p0.fWhat, .int .u8 p0.fAt, .int .i64 p0.fN, .str p0.fA.fHost, .int .i64 p0.fA.fPort, .str p0.fS]]⟩), (3, ⟨9, true, [[.int .i64 p1.fMapping, .int .i64 p1.fFilter, .int .i64 p1.fTimeout, .bool p1.fHairpin, .str p1.fHost, .int .i64 p1.fLow, .int .i64 p1.fHigh, .int .i64 p1.fNow, .sl false 7 (List.map tySBinding.c p1.fTable)]]⟩), (4, ⟨9, true, [[.int .i64 0, .int .i64 0, .int .i64 0, .bool false, .str ByteArray.empty, .int .i64 0, .int .i64 0, .int .i64 0, .nilsl]]⟩)] [BT.of 600039 tySBindingO6 7 e95 true] (by rfl))
  (fun e95 =>
    .bind 0
    (.br 0 ((Int.tmod p0.fWhat 14) == 0)
      (.gh 0 (.ren 600039 600042) (.done (p0.fN, p1.fFilter, p1.fTimeout, p1.fHost, p1.fLow, p1.fHigh, p1.fNow, e95)))
      (.br 0 ((Int.tmod p0.fWhat 14) == 1)
        (.gh 0 (.ren 600039 600042) (.done (p1.fMapping, p0.fN, p1.fTimeout, p1.fHost, p1.fLow, p1.fHigh, p1.fNow, e95)))
        (.br 0 ((Int.tmod p0.fWhat 14) == 2)
          (.gh 0 (.ren 600039 600042) (.done (p1.fMapping, p1.fFilter, p0.fN, p1.fHost, p1.fLow, p1.fHigh, p1.fNow, e95)))
          (.br 0 ((Int.tmod p0.fWhat 14) == 3)
            (.gh 0 (.ren 600039 600042) (.done (p1.fMapping, p1.fFilter, p1.fTimeout, p0.fS, p1.fLow, p1.fHigh, p1.fNow, e95)))
            (.br 0 ((Int.tmod p0.fWhat 14) == 4)
              (.gh 0 (.ren 600039 600042) (.done (p1.fMapping, p1.fFilter, p1.fTimeout, p1.fHost, p0.fN, p1.fHigh, p1.fNow, e95)))
              (.br 0 ((Int.tmod p0.fWhat 14) == 5)
                (.gh 0 (.ren 600039 600042) (.done (p1.fMapping, p1.fFilter, p1.fTimeout, p1.fHost, p1.fLow, p0.fN, p1.fNow, e95)))
                (.br 0 ((Int.tmod p0.fWhat 14) == 6)
                  (.gh 0 (.ren 600039 600042) (.done (p1.fMapping, p1.fFilter, p1.fTimeout, p1.fHost, p1.fLow, p1.fHigh, p0.fN, e95)))
                  (.br 0 ((Int.tmod p0.fWhat 14) == 7)
                    (.app 23012 tySBindingO6 e95 [(SBinding.mk p0.fA (SAddr.mk ByteArray.empty 0) p0.fN (wi64 (p1.fNow + 1)) [])] 88 false (by intro h; cases h) (.gh 0 (.ren 77 600042) (.done (p1.fMapping, p1.fFilter, p1.fTimeout, p1.fHost, p1.fLow, p1.fHigh, p1.fNow, (e95 ++ [(SBinding.mk p0.fA (SAddr.mk ByteArray.empty 0) p0.fN (wi64 (p1.fNow + 1)) [])])))))
                    (.gh 0 (.ren 600039 600042) (.done (p1.fMapping, p1.fFilter, p1.fTimeout, p1.fHost, p1.fLow, p1.fHigh, p1.fNow, e95)))))))))))
    (fun (e96 : Int × Int × Int × ByteArray × Int × Int × Int × (List SBinding)) => Ext.of .normal [(2, .ptr 2 0 0), (3, .ptr 3 0 0), (4, .ptr 4 0 0)] [(2, ⟨6, true, [[.int .u8 p0.fWhat, .int .u8 p0.fAt, .int .i64 p0.fN, .str p0.fA.fHost, .int .i64 p0.fA.fPort, .str p0.fS]]⟩), (3, ⟨9, true, [[.int .i64 e96.1, .int .i64 e96.2.1, .int .i64 e96.2.2.1, .bool p1.fHairpin, .str e96.2.2.2.1, .int .i64 e96.2.2.2.2.1, .int .i64 e96.2.2.2.2.2.1, .int .i64 e96.2.2.2.2.2.2.1, .ref 600042 0 e96.2.2.2.2.2.2.2.length]]⟩), (4, ⟨9, true, [[.int .i64 0, .int .i64 0, .int .i64 0, .bool false, .str ByteArray.empty, .int .i64 0, .int .i64 0, .int .i64 0, .nilsl]]⟩)] [BT.of 600042 tySBindingO6 7 e96.2.2.2.2.2.2.2 true] (by rfl))
    (fun e96 =>
      .br 0 ((e96.2.2.2.2.2.2.2.length : Int) == 0)
      (.gh 0 (.share [⟨600042, _, tySBindingO6, e96.2.2.2.2.2.2.2⟩, ⟨600042, _, tySBindingO6, e96.2.2.2.2.2.2.2⟩]) (.done (SNat.mk e96.1 e96.2.1 e96.2.2.1 p1.fHairpin e96.2.2.2.1 e96.2.2.2.2.1 e96.2.2.2.2.2.1 e96.2.2.2.2.2.2.1 e96.2.2.2.2.2.2.2)))
      (.chk 26009 (!((e96.2.2.2.2.2.2.2.length : Int) == 0)) (.chk 26010 (decide (0 ≤ (Int.tmod (wi64 p0.fAt) (e96.2.2.2.2.2.2.2.length : Int))) && decide ((Int.tmod (wi64 p0.fAt) (e96.2.2.2.2.2.2.2.length : Int)) < (e96.2.2.2.2.2.2.2.length : Int))) (.br 0 ((Int.tmod p0.fWhat 14) == 8)
        (.row 29006 tySBindingO6 e96.2.2.2.2.2.2.2 (0 + (Int.tmod (wi64 p0.fAt) (e96.2.2.2.2.2.2.2.length : Int)).toNat) true fun x97 =>
          .re 29006 (ReW.put 600042 7 tySBindingO6 e96.2.2.2.2.2.2.2 (0 + (Int.tmod (wi64 p0.fAt) (e96.2.2.2.2.2.2.2.length : Int)).toNat) (SBinding.mk p0.fA x97.fPeer x97.fPort x97.fUntil x97.fOpen)) (.gh 42 (.len 600042 ((e96.2.2.2.2.2.2.2.set (0 + (Int.tmod (wi64 p0.fAt) (e96.2.2.2.2.2.2.2.length : Int)).toNat) (SBinding.mk p0.fA x97.fPeer x97.fPort x97.fUntil x97.fOpen)).length) [e96.2.2.2.2.2.2.2.length] (by simp)) (.gh 0 (.share [⟨600042, _, tySBindingO6, (e96.2.2.2.2.2.2.2.set (0 + (Int.tmod (wi64 p0.fAt) (e96.2.2.2.2.2.2.2.length : Int)).toNat) (SBinding.mk p0.fA x97.fPeer x97.fPort x97.fUntil x97.fOpen))⟩, ⟨600042, _, tySBindingO6, (e96.2.2.2.2.2.2.2.set (0 + (Int.tmod (wi64 p0.fAt) (e96.2.2.2.2.2.2.2.length : Int)).toNat) (SBinding.mk p0.fA x97.fPeer x97.fPort x97.fUntil x97.fOpen))⟩]) (.done (SNat.mk e96.1 e96.2.1 e96.2.2.1 p1.fHairpin e96.2.2.2.1 e96.2.2.2.2.1 e96.2.2.2.2.2.1 e96.2.2.2.2.2.2.1 (e96.2.2.2.2.2.2.2.set (0 + (Int.tmod (wi64 p0.fAt) (e96.2.2.2.2.2.2.2.length : Int)).toNat) (SBinding.mk p0.fA x97.fPeer x97.fPort x97.fUntil x97.fOpen)))))))
        (.br 0 ((Int.tmod p0.fWhat 14) == 9)
          (.row 31006 tySBindingO6 e96.2.2.2.2.2.2.2 (0 + (Int.tmod (wi64 p0.fAt) (e96.2.2.2.2.2.2.2.length : Int)).toNat) true fun x98 =>
            .re 31006 (ReW.put 600042 7 tySBindingO6 e96.2.2.2.2.2.2.2 (0 + (Int.tmod (wi64 p0.fAt) (e96.2.2.2.2.2.2.2.length : Int)).toNat) (SBinding.mk x98.fInside p0.fA x98.fPort x98.fUntil x98.fOpen)) (.gh 42 (.len 600042 ((e96.2.2.2.2.2.2.2.set (0 + (Int.tmod (wi64 p0.fAt) (e96.2.2.2.2.2.2.2.length : Int)).toNat) (SBinding.mk x98.fInside p0.fA x98.fPort x98.fUntil x98.fOpen)).length) [e96.2.2.2.2.2.2.2.length] (by simp)) (.gh 0 (.share [⟨600042, _, tySBindingO6, (e96.2.2.2.2.2.2.2.set (0 + (Int.tmod (wi64 p0.fAt) (e96.2.2.2.2.2.2.2.length : Int)).toNat) (SBinding.mk x98.fInside p0.fA x98.fPort x98.fUntil x98.fOpen))⟩, ⟨600042, _, tySBindingO6, (e96.2.2.2.2.2.2.2.set (0 + (Int.tmod (wi64 p0.fAt) (e96.2.2.2.2.2.2.2.length : Int)).toNat) (SBinding.mk x98.fInside p0.fA x98.fPort x98.fUntil x98.fOpen))⟩]) (.done (SNat.mk e96.1 e96.2.1 e96.2.2.1 p1.fHairpin e96.2.2.2.1 e96.2.2.2.2.1 e96.2.2.2.2.2.1 e96.2.2.2.2.2.2.1 (e96.2.2.2.2.2.2.2.set (0 + (Int.tmod (wi64 p0.fAt) (e96.2.2.2.2.2.2.2.length : Int)).toNat) (SBinding.mk x98.fInside p0.fA x98.fPort x98.fUntil x98.fOpen)))))))
          (.br 0 ((Int.tmod p0.fWhat 14) == 10)
            (.row 33006 tySBindingO6 e96.2.2.2.2.2.2.2 (0 + (Int.tmod (wi64 p0.fAt) (e96.2.2.2.2.2.2.2.length : Int)).toNat) true fun x99 =>
              .re 33006 (ReW.put 600042 7 tySBindingO6 e96.2.2.2.2.2.2.2 (0 + (Int.tmod (wi64 p0.fAt) (e96.2.2.2.2.2.2.2.length : Int)).toNat) (SBinding.mk x99.fInside x99.fPeer p0.fN x99.fUntil x99.fOpen)) (.gh 42 (.len 600042 ((e96.2.2.2.2.2.2.2.set (0 + (Int.tmod (wi64 p0.fAt) (e96.2.2.2.2.2.2.2.length : Int)).toNat) (SBinding.mk x99.fInside x99.fPeer p0.fN x99.fUntil x99.fOpen)).length) [e96.2.2.2.2.2.2.2.length] (by simp)) (.gh 0 (.share [⟨600042, _, tySBindingO6, (e96.2.2.2.2.2.2.2.set (0 + (Int.tmod (wi64 p0.fAt) (e96.2.2.2.2.2.2.2.length : Int)).toNat) (SBinding.mk x99.fInside x99.fPeer p0.fN x99.fUntil x99.fOpen))⟩, ⟨600042, _, tySBindingO6, (e96.2.2.2.2.2.2.2.set (0 + (Int.tmod (wi64 p0.fAt) (e96.2.2.2.2.2.2.2.length : Int)).toNat) (SBinding.mk x99.fInside x99.fPeer p0.fN x99.fUntil x99.fOpen))⟩]) (.done (SNat.mk e96.1 e96.2.1 e96.2.2.1 p1.fHairpin e96.2.2.2.1 e96.2.2.2.2.1 e96.2.2.2.2.2.1 e96.2.2.2.2.2.2.1 (e96.2.2.2.2.2.2.2.set (0 + (Int.tmod (wi64 p0.fAt) (e96.2.2.2.2.2.2.2.length : Int)).toNat) (SBinding.mk x99.fInside x99.fPeer p0.fN x99.fUntil x99.fOpen)))))))
            (.br 0 ((Int.tmod p0.fWhat 14) == 11)
              (.row 35006 tySBindingO6 e96.2.2.2.2.2.2.2 (0 + (Int.tmod (wi64 p0.fAt) (e96.2.2.2.2.2.2.2.length : Int)).toNat) true fun x100 =>
                .re 35006 (ReW.put 600042 7 tySBindingO6 e96.2.2.2.2.2.2.2 (0 + (Int.tmod (wi64 p0.fAt) (e96.2.2.2.2.2.2.2.length : Int)).toNat) (SBinding.mk x100.fInside x100.fPeer x100.fPort p0.fN x100.fOpen)) (.gh 42 (.len 600042 ((e96.2.2.2.2.2.2.2.set (0 + (Int.tmod (wi64 p0.fAt) (e96.2.2.2.2.2.2.2.length : Int)).toNat) (SBinding.mk x100.fInside x100.fPeer x100.fPort p0.fN x100.fOpen)).length) [e96.2.2.2.2.2.2.2.length] (by simp)) (.gh 0 (.share [⟨600042, _, tySBindingO6, (e96.2.2.2.2.2.2.2.set (0 + (Int.tmod (wi64 p0.fAt) (e96.2.2.2.2.2.2.2.length : Int)).toNat) (SBinding.mk x100.fInside x100.fPeer x100.fPort p0.fN x100.fOpen))⟩, ⟨600042, _, tySBindingO6, (e96.2.2.2.2.2.2.2.set (0 + (Int.tmod (wi64 p0.fAt) (e96.2.2.2.2.2.2.2.length : Int)).toNat) (SBinding.mk x100.fInside x100.fPeer x100.fPort p0.fN x100.fOpen))⟩]) (.done (SNat.mk e96.1 e96.2.1 e96.2.2.1 p1.fHairpin e96.2.2.2.1 e96.2.2.2.2.1 e96.2.2.2.2.2.1 e96.2.2.2.2.2.2.1 (e96.2.2.2.2.2.2.2.set (0 + (Int.tmod (wi64 p0.fAt) (e96.2.2.2.2.2.2.2.length : Int)).toNat) (SBinding.mk x100.fInside x100.fPeer x100.fPort p0.fN x100.fOpen)))))))
              (.br 0 ((Int.tmod p0.fWhat 14) == 12)
                (.rowt 37005 tySBindingO6 e96.2.2.2.2.2.2.2 (0 + (Int.tmod (wi64 p0.fAt) (e96.2.2.2.2.2.2.2.length : Int)).toNat) 6 fun x101 =>
                  .re 37005 (ReW.take 600042 7 true tySBindingO6 e96.2.2.2.2.2.2.2 (0 + (Int.tmod (wi64 p0.fAt) (e96.2.2.2.2.2.2.2.length : Int)).toNat) [.str x101.fInside.fHost, .int .i64 x101.fInside.fPort, .str x101.fPeer.fHost, .int .i64 x101.fPeer.fPort, .int .i64 x101.fPort, .int .i64 x101.fUntil, .sl false 2 (List.map tySAddr.c x101.fOpen)] rfl 131 2 tySAddr x101.fOpen (fun _ => rfl) (fun n => .ref 131 0 n)) (.app 37009 tySAddr x101.fOpen [p0.fA] 24 false (by intro h; cases h) (.nst 37012 tySBindingO6 e96.2.2.2.2.2.2.2 [.str x101.fInside.fHost, .int .i64 x101.fInside.fPort, .str x101.fPeer.fHost, .int .i64 x101.fPeer.fPort, .int .i64 x101.fPort, .int .i64 x101.fUntil, .sl false 2 (List.map tySAddr.c x101.fOpen)] (0 + (Int.tmod (wi64 p0.fAt) (e96.2.2.2.2.2.2.2.length : Int)).toNat) 6 (SBinding.mk x101.fInside x101.fPeer x101.fPort x101.fUntil (x101.fOpen ++ [p0.fA])) tySAddr (x101.fOpen ++ [p0.fA]) none (.gh 42 (.len 600042 ((e96.2.2.2.2.2.2.2.set (0 + (Int.tmod (wi64 p0.fAt) (e96.2.2.2.2.2.2.2.length : Int)).toNat) (SBinding.mk x101.fInside x101.fPeer x101.fPort x101.fUntil (x101.fOpen ++ [p0.fA]))).length) [e96.2.2.2.2.2.2.2.length] (by simp)) (.gh 0 (.share [⟨600042, _, tySBindingO6, (e96.2.2.2.2.2.2.2.set (0 + (Int.tmod (wi64 p0.fAt) (e96.2.2.2.2.2.2.2.length : Int)).toNat) (SBinding.mk x101.fInside x101.fPeer x101.fPort x101.fUntil (x101.fOpen ++ [p0.fA])))⟩, ⟨600042, _, tySBindingO6, (e96.2.2.2.2.2.2.2.set (0 + (Int.tmod (wi64 p0.fAt) (e96.2.2.2.2.2.2.2.length : Int)).toNat) (SBinding.mk x101.fInside x101.fPeer x101.fPort x101.fUntil (x101.fOpen ++ [p0.fA])))⟩]) (.done (SNat.mk e96.1 e96.2.1 e96.2.2.1 p1.fHairpin e96.2.2.2.1 e96.2.2.2.2.1 e96.2.2.2.2.2.1 e96.2.2.2.2.2.2.1 (e96.2.2.2.2.2.2.2.set (0 + (Int.tmod (wi64 p0.fAt) (e96.2.2.2.2.2.2.2.length : Int)).toNat) (SBinding.mk x101.fInside x101.fPeer x101.fPort x101.fUntil (x101.fOpen ++ [p0.fA]))))))))))
                (.br 0 ((Int.tmod p0.fWhat 14) == 13)
                  (.row 39004 tySBindingO6 e96.2.2.2.2.2.2.2 (0 + (Int.tmod (wi64 p0.fAt) (e96.2.2.2.2.2.2.2.length : Int)).toNat) true fun x102 =>
                    .re 39004 (ReW.put 600042 7 tySBindingO6 e96.2.2.2.2.2.2.2 (0 + (Int.tmod (wi64 p0.fAt) (e96.2.2.2.2.2.2.2.length : Int)).toNat) (SBinding.mk x102.fInside x102.fPeer x102.fPort x102.fUntil [])) (.gh 42 (.len 600042 ((e96.2.2.2.2.2.2.2.set (0 + (Int.tmod (wi64 p0.fAt) (e96.2.2.2.2.2.2.2.length : Int)).toNat) (SBinding.mk x102.fInside x102.fPeer x102.fPort x102.fUntil [])).length) [e96.2.2.2.2.2.2.2.length] (by simp)) (.gh 0 (.share [⟨600042, _, tySBindingO6, (e96.2.2.2.2.2.2.2.set (0 + (Int.tmod (wi64 p0.fAt) (e96.2.2.2.2.2.2.2.length : Int)).toNat) (SBinding.mk x102.fInside x102.fPeer x102.fPort x102.fUntil []))⟩, ⟨600042, _, tySBindingO6, (e96.2.2.2.2.2.2.2.set (0 + (Int.tmod (wi64 p0.fAt) (e96.2.2.2.2.2.2.2.length : Int)).toNat) (SBinding.mk x102.fInside x102.fPeer x102.fPort x102.fUntil []))⟩]) (.done (SNat.mk e96.1 e96.2.1 e96.2.2.1 p1.fHairpin e96.2.2.2.1 e96.2.2.2.2.1 e96.2.2.2.2.2.1 e96.2.2.2.2.2.2.1 (e96.2.2.2.2.2.2.2.set (0 + (Int.tmod (wi64 p0.fAt) (e96.2.2.2.2.2.2.2.length : Int)).toNat) (SBinding.mk x102.fInside x102.fPeer x102.fPort x102.fUntil [])))))))
                  (.gh 0 (.share [⟨600042, _, tySBindingO6, e96.2.2.2.2.2.2.2⟩, ⟨600042, _, tySBindingO6, e96.2.2.2.2.2.2.2⟩]) (.done (SNat.mk e96.1 e96.2.1 e96.2.2.1 p1.fHairpin e96.2.2.2.1 e96.2.2.2.2.1 e96.2.2.2.2.2.1 e96.2.2.2.2.2.2.1 e96.2.2.2.2.2.2.2))))))))))))))
theorem k35 (p0 : SBend) (p1 : SNat) : FnD Tryd.prog GG [0, 1, 2, 3, 4, 5, 6, 7, 12, 28, 29, 34, 39, 44, 49, 54, 59, 64, 82, 96, 97, 104, 111, 118, 125, 138] Tryd.f35 [.agg [.int .u8 p0.fWhat, .int .u8 p0.fAt, .int .i64 p0.fN, .str p0.fA.fHost, .int .i64 p0.fA.fPort, .str p0.fS], .agg [.int .i64 p1.fMapping, .int .i64 p1.fFilter, .int .i64 p1.fTimeout, .bool p1.fHairpin, .str p1.fHost, .int .i64 p1.fLow, .int .i64 p1.fHigh, .int .i64 p1.fNow, .sl false 7 (List.map tySBinding.c p1.fTable)]] (g35 p0 p1) (fun r => .agg [.int .i64 r.fMapping, .int .i64 r.fFilter, .int .i64 r.fTimeout, .bool r.fHairpin, .str r.fHost, .int .i64 r.fLow, .int .i64 r.fHigh, .int .i64 r.fNow, .sl false 7 (List.map tySBinding.c r.fTable)]) := by unfold FnD; kernel_rfl
noncomputable def s35 (p0 : SBend) (p1 : SNat) : EV.Spec Tryd.prog GG (SNat) := .ofFn 35 mixed Tryd.func35 (k35 p0 p1)

/-- tannoy tannoylaw13.addr -/
noncomputable def g33 (p0 : Int) (p1 : Int) (p2 : Int) (p3 : Int) (p4 : Int) : TT (SAddr) :=
  .done (SAddr.mk (strOfNums [p0, p1, p2, p3]) p4)
theorem k33 (p0 : Int) (p1 : Int) (p2 : Int) (p3 : Int) (p4 : Int) : FnD Tryd.prog GG [0, 1, 2, 3, 4, 10] Tryd.f33 [.int .u8 p0, .int .u8 p1, .int .u8 p2, .int .u8 p3, .int .i64 p4] (g33 p0 p1 p2 p3 p4) (fun r => .agg [.str r.fHost, .int .i64 r.fPort]) := by unfold FnD; kernel_rfl
noncomputable def s33 (p0 : Int) (p1 : Int) (p2 : Int) (p3 : Int) (p4 : Int) : EV.Spec Tryd.prog GG (SAddr) := .ofFn 33 mixed Tryd.func33 (k33 p0 p1 p2 p3 p4)

/-- tannoy tannoylaw13.sample -/
noncomputable def g34  : TT (SNat) :=
  .done (SNat.mk 1 3 1000 true (bs [192, 0, 2, 9]) 5000 5001 0 [])
theorem k34  : FnD Tryd.prog GG [0] Tryd.f34 [] (g34) (fun r => .agg [.int .i64 r.fMapping, .int .i64 r.fFilter, .int .i64 r.fTimeout, .bool r.fHairpin, .str r.fHost, .int .i64 r.fLow, .int .i64 r.fHigh, .int .i64 r.fNow, .sl false 7 (List.map tySBinding.c r.fTable)]) := by unfold FnD; kernel_rfl
noncomputable def s34  : EV.Spec Tryd.prog GG (SNat) := .ofFn 34 mixed Tryd.func34 (k34)

end Go.Proofs.YtdiagiflihpidaaDoor

namespace Go.Proofs.YtdiagiflihpidaaDoor
open Go Go.EV
set_option maxRecDepth 100000

/-- slices.Clone -/
noncomputable def g64 (p0 : (List SAddr)) : TT Unit := .app 3003 tySAddr [] p0 24 true (by intros; rfl) (.done ())
theorem k64y : Piece Tryd.prog GG [2] 8 (cloneYes Tryd.f64.body) (Ext.lit .normal [(2, .nilsl)] []) (.done () : TT Unit) (fun _ => Ext.lit .ret [(2, .nilsl)] []) := by unfold Piece; kernel_rfl
theorem k64r (p0 : (List SAddr)) : Piece Tryd.prog GG [0, 2, 5, 6, 7] 8 (cloneRest Tryd.f64.body) (Ext.lit .normal [(0, .sl false 2 (List.map tySAddr.c p0)), (2, .nilsl)] []) (g64 p0) (fun _ => Ext.of .ret [(2, .ref 7 0 ([] ++ p0).length)] [] [BT.of 7 tySAddr 2 ([] ++ p0)] (by rfl)) := by unfold Piece; kernel_rfl
theorem k64 (p0 : (List SAddr)) {r : Unit} (h : (g64 p0).run = some r) : CallC Tryd.prog GG 64 [.sl false 2 (List.map tySAddr.c p0)] (ofL []) (.ref 7 0 p0.length) (ofL [(7, ⟨2, true, List.map tySAddr.c p0⟩)]) :=
  clone_ok (ty := tySAddr) (ops0 := cloneOps0 Tryd.f64.body) (ops1 := cloneOps1 Tryd.f64.body) (yes := cloneYes Tryd.f64.body) (rest := cloneRest Tryd.f64.body) (t := 59) mixed Tryd.func64 (by kernel_rfl) (by kernel_rfl) (by kernel_rfl) (by kernel_rfl) (by kernel_rfl) (by kernel_rfl) (by kernel_rfl) (by kernel_rfl) (by kernel_rfl) k64y (k64r p0) (by rfl) h
noncomputable def s64 (p0 : (List SAddr)) : EV.Spec Tryd.prog GG Unit := ⟨64, [.sl false 2 (List.map tySAddr.c p0)], [], (g64 p0).run, fun _ => .ref 7 0 p0.length, fun _ => [(7, ⟨2, true, List.map tySAddr.c p0⟩)], [7], fun _ p hp _ => by
  rw [List.mem_singleton.1 hp]; exact tySAddr.data _, fun _ h => k64 p0 h⟩

/-- tannoy nat.start -/
noncomputable def g56 (p0 : SNat) (p1 : Int) (p2 : (List SAddr)) : TT ((Int) ⊕ ((List SBinding))) :=
  .view 2002 (s55 (SRouter.mk p0)) [] fun r103 =>
  .br 0 (!r103)
  (.done (.inl 130))
  (.cnd 4 [26]
    (.br 4006 (decide (p1 < p0.fNow))
      (.done true)
      (.done (decide ((1099511627776 : Int) < p1))))
    (fun (c104 : Bool) => [.bool c104]) fun c104 =>
    .br 0 c104
    (.done (.inl 2))
    (.bind2 1
      (.lp (fun (l108 : Int) => Ext.lit .normal [(1, .int .i64 p1), (3, .ptr 3 0 0), (6, .nilp), (7, .int .i64 0), (8, .ptr 15 0 0), (27, .sl false 2 (List.map tySAddr.c p2)), (28, .int .i64 (mlen tySAddr p2)), (29, .int .i64 l108)] [(3, ⟨9, true, [[.int .i64 p0.fMapping, .int .i64 p0.fFilter, .int .i64 p0.fTimeout, .bool p0.fHairpin, .str p0.fHost, .int .i64 p0.fLow, .int .i64 p0.fHigh, .int .i64 p0.fNow, .sl false 7 (List.map tySBinding.c p0.fTable)]]⟩), (15, ⟨9, true, [[.int .i64 p0.fMapping, .int .i64 p0.fFilter, .int .i64 p0.fTimeout, .bool p0.fHairpin, .str p0.fHost, .int .i64 p0.fLow, .int .i64 p0.fHigh, .int .i64 p0.fNow, .sl false 7 (List.map tySBinding.c p0.fTable)]]⟩)])
        (fun l108 =>
          .br 0 (decide (l108 < (mlen tySAddr p2)))
          (.row 8001 tySAddr p2 l108.toNat (decide (0 ≤ l108)) fun x109 =>
            .view 9003 (s84 (SRouter.mk p0) x109) [] fun r110 =>
            .br 0 (!r110)
            (.done (.inr (.inl ())))
            (.done (.inl (wi64 (l108 + 1)))))
          (.done (.inr (.inr ()))))
        0)
      (fun (e111 : Unit) => Ext.lit .ret [(1, .int .i64 p1), (3, .ptr 3 0 0), (6, .nilp), (7, .int .i64 2), (8, .ptr 15 0 0)] [(3, ⟨9, true, [[.int .i64 p0.fMapping, .int .i64 p0.fFilter, .int .i64 p0.fTimeout, .bool p0.fHairpin, .str p0.fHost, .int .i64 p0.fLow, .int .i64 p0.fHigh, .int .i64 p0.fNow, .sl false 7 (List.map tySBinding.c p0.fTable)]]⟩), (15, ⟨9, true, [[.int .i64 p0.fMapping, .int .i64 p0.fFilter, .int .i64 p0.fTimeout, .bool p0.fHairpin, .str p0.fHost, .int .i64 p0.fLow, .int .i64 p0.fHigh, .int .i64 p0.fNow, .sl false 7 (List.map tySBinding.c p0.fTable)]]⟩)])
      (fun (e112 : Unit) => Ext.lit (.exit 0) [(1, .int .i64 p1), (3, .ptr 3 0 0), (6, .nilp), (7, .int .i64 0), (8, .ptr 15 0 0)] [(3, ⟨9, true, [[.int .i64 p0.fMapping, .int .i64 p0.fFilter, .int .i64 p0.fTimeout, .bool p0.fHairpin, .str p0.fHost, .int .i64 p0.fLow, .int .i64 p0.fHigh, .int .i64 p0.fNow, .sl false 7 (List.map tySBinding.c p0.fTable)]]⟩), (15, ⟨9, true, [[.int .i64 p0.fMapping, .int .i64 p0.fFilter, .int .i64 p0.fTimeout, .bool p0.fHairpin, .str p0.fHost, .int .i64 p0.fLow, .int .i64 p0.fHigh, .int .i64 p0.fNow, .sl false 7 (List.map tySBinding.c p0.fTable)]]⟩)])
      (fun e111 =>
        .done (.inl 2))
      (fun e112 =>
        .gh 1 (.virtC 600056 15 8 7) (.bind 0
        (.lp (fun (l116 : (List SBinding) × Int) => Ext.of .normal [(1, .int .i64 p1), (6, .nilp), (7, .int .i64 0), (8, .ptr 15 0 0), (48, .sl false 7 (List.map tySBinding.c p0.fTable)), (49, .int .i64 (mlen tySBinding p0.fTable)), (50, .int .i64 l116.2)] [(15, ⟨9, true, [[.int .i64 p0.fMapping, .int .i64 p0.fFilter, .int .i64 p0.fTimeout, .bool p0.fHairpin, .str p0.fHost, .int .i64 p0.fLow, .int .i64 p0.fHigh, .int .i64 p1, .ref 600056 0 l116.1.length]]⟩)] [BT.of 600056 tySBindingO6 7 l116.1 true] (by rfl))
          (fun l116 =>
            .br 0 (decide (l116.2 < (mlen tySBinding p0.fTable)))
            (.row 15001 tySBinding p0.fTable l116.2.toNat (decide (0 ≤ l116.2)) fun x117 =>
              .br 0 (decide (p1 < x117.fUntil))
              (.call 17003 (s64 x117.fOpen) [] [(7, 500060)] fun r118 =>
                .appn 18009 tySBindingO6 l116.1 x117 6 500060 tySAddr x117.fOpen 88 (.gh 0 (.drop [600056]) (.gh 0 (.ren 70 600056) (.done (.inl ((l116.1 ++ [x117]), (wi64 (l116.2 + 1))))))))
              (.done (.inl (l116.1, (wi64 (l116.2 + 1))))))
            (.done (.inr l116.1)))
          ([], 0))
        (fun (e119 : (List SBinding)) => Ext.of (.exit 2) [(6, .nilp), (7, .int .i64 0), (8, .ptr 15 0 0)] [(15, ⟨9, true, [[.int .i64 p0.fMapping, .int .i64 p0.fFilter, .int .i64 p0.fTimeout, .bool p0.fHairpin, .str p0.fHost, .int .i64 p0.fLow, .int .i64 p0.fHigh, .int .i64 p1, .ref 600056 0 e119.length]]⟩)] [BT.of 600056 tySBindingO6 7 e119 true] (by rfl))
        (fun e119 =>
          .done (.inr e119))))))
theorem k56 (p0 : SNat) (p1 : Int) (p2 : (List SAddr)) : FnB Tryd.prog GG [0, 1, 2, 3, 6, 7, 8, 10, 12, 18, 26, 27, 28, 29, 30, 36, 48, 49, 50, 51, 57] Tryd.f56 [.agg [.int .i64 p0.fMapping, .int .i64 p0.fFilter, .int .i64 p0.fTimeout, .bool p0.fHairpin, .str p0.fHost, .int .i64 p0.fLow, .int .i64 p0.fHigh, .int .i64 p0.fNow, .sl false 7 (List.map tySBinding.c p0.fTable)], .int .i64 p1, .sl false 2 (List.map tySAddr.c p2)] (Ext.of .normal (argTs [.agg [.int .i64 p0.fMapping, .int .i64 p0.fFilter, .int .i64 p0.fTimeout, .bool p0.fHairpin, .str p0.fHost, .int .i64 p0.fLow, .int .i64 p0.fHigh, .int .i64 p0.fNow, .sl false 7 (List.map tySBinding.c p0.fTable)], .int .i64 p1, .sl false 2 (List.map tySAddr.c p2)]) [] [] (by rfl)) (g56 p0 p1 p2) (Sum.elim (fun (r : Int) => .tup [.nilp, .int .i64 r]) (fun (r : (List SBinding)) => .tup [.ptr 15 0 0, .int .i64 0])) (Sum.elim (fun (r : Int) => Ext.of .normal [] [] [] (by rfl)) (fun (r : (List SBinding)) => Ext.of .normal [] [(15, ⟨9, true, [[.int .i64 p0.fMapping, .int .i64 p0.fFilter, .int .i64 p0.fTimeout, .bool p0.fHairpin, .str p0.fHost, .int .i64 p0.fLow, .int .i64 p0.fHigh, .int .i64 p1, .ref 600056 0 r.length]]⟩)] [BT.of 600056 tySBindingO6 7 r true] (by rfl))) := by unfold FnB; kernel_rfl
noncomputable def s56 (p0 : SNat) (p1 : Int) (p2 : (List SAddr)) : EV.Spec Tryd.prog GG ((Int) ⊕ ((List SBinding))) := .ofFnB 56 [600056] mixed Tryd.func56 rfl (fun r => by cases r <;> rfl) (k56 p0 p1 p2)

/-- tannoy nat.start -/
noncomputable def g56_1 (p0 : SNat) (p1 : Int) (p2 : (List SAddr)) : TT ((Int) ⊕ ((List SBinding))) :=
  .view 2002 (s55 (SRouter.mk p0)) [] fun r120 =>
  .br 0 (!r120)
  (.done (.inl 130))
  (.cnd 4 [26]
    (.br 4006 (decide (p1 < p0.fNow))
      (.done true)
      (.done (decide ((1099511627776 : Int) < p1))))
    (fun (c121 : Bool) => [.bool c121]) fun c121 =>
    .br 0 c121
    (.done (.inl 2))
    (.bind2 1
      (.lp (fun (l125 : Int) => Ext.of .normal [(1, .int .i64 p1), (3, .ptr 3 0 0), (6, .nilp), (7, .int .i64 0), (8, .ptr 15 0 0), (27, .ref 1000000 0 p2.length), (28, .int .i64 (p2.length : Int)), (29, .int .i64 l125)] [(3, ⟨9, true, [[.int .i64 p0.fMapping, .int .i64 p0.fFilter, .int .i64 p0.fTimeout, .bool p0.fHairpin, .str p0.fHost, .int .i64 p0.fLow, .int .i64 p0.fHigh, .int .i64 p0.fNow, .sl false 7 (List.map tySBinding.c p0.fTable)]]⟩), (15, ⟨9, true, [[.int .i64 p0.fMapping, .int .i64 p0.fFilter, .int .i64 p0.fTimeout, .bool p0.fHairpin, .str p0.fHost, .int .i64 p0.fLow, .int .i64 p0.fHigh, .int .i64 p0.fNow, .sl false 7 (List.map tySBinding.c p0.fTable)]]⟩)] [BT.of 1000000 tySAddr 2 p2 true] (by rfl))
        (fun l125 =>
          .br 0 (decide (l125 < (p2.length : Int)))
          (.chk 8001 (decide (0 ≤ l125) && decide (l125 < (p2.length : Int))) (.row 8002 tySAddr p2 (0 + l125.toNat) true fun x126 =>
            .view 9003 (s84 (SRouter.mk p0) x126) [] fun r127 =>
            .br 0 (!r127)
            (.done (.inr (.inl ())))
            (.done (.inl (wi64 (l125 + 1))))))
          (.done (.inr (.inr ()))))
        0)
      (fun (e128 : Unit) => Ext.lit .ret [(1, .int .i64 p1), (3, .ptr 3 0 0), (6, .nilp), (7, .int .i64 2), (8, .ptr 15 0 0)] [(3, ⟨9, true, [[.int .i64 p0.fMapping, .int .i64 p0.fFilter, .int .i64 p0.fTimeout, .bool p0.fHairpin, .str p0.fHost, .int .i64 p0.fLow, .int .i64 p0.fHigh, .int .i64 p0.fNow, .sl false 7 (List.map tySBinding.c p0.fTable)]]⟩), (15, ⟨9, true, [[.int .i64 p0.fMapping, .int .i64 p0.fFilter, .int .i64 p0.fTimeout, .bool p0.fHairpin, .str p0.fHost, .int .i64 p0.fLow, .int .i64 p0.fHigh, .int .i64 p0.fNow, .sl false 7 (List.map tySBinding.c p0.fTable)]]⟩)])
      (fun (e129 : Unit) => Ext.lit (.exit 0) [(1, .int .i64 p1), (3, .ptr 3 0 0), (6, .nilp), (7, .int .i64 0), (8, .ptr 15 0 0)] [(3, ⟨9, true, [[.int .i64 p0.fMapping, .int .i64 p0.fFilter, .int .i64 p0.fTimeout, .bool p0.fHairpin, .str p0.fHost, .int .i64 p0.fLow, .int .i64 p0.fHigh, .int .i64 p0.fNow, .sl false 7 (List.map tySBinding.c p0.fTable)]]⟩), (15, ⟨9, true, [[.int .i64 p0.fMapping, .int .i64 p0.fFilter, .int .i64 p0.fTimeout, .bool p0.fHairpin, .str p0.fHost, .int .i64 p0.fLow, .int .i64 p0.fHigh, .int .i64 p0.fNow, .sl false 7 (List.map tySBinding.c p0.fTable)]]⟩)])
      (fun e128 =>
        .done (.inl 2))
      (fun e129 =>
        .gh 1 (.virtC 600074 15 8 7) (.bind 0
        (.lp (fun (l133 : (List SBinding) × Int) => Ext.of .normal [(1, .int .i64 p1), (6, .nilp), (7, .int .i64 0), (8, .ptr 15 0 0), (48, .sl false 7 (List.map tySBinding.c p0.fTable)), (49, .int .i64 (mlen tySBinding p0.fTable)), (50, .int .i64 l133.2)] [(15, ⟨9, true, [[.int .i64 p0.fMapping, .int .i64 p0.fFilter, .int .i64 p0.fTimeout, .bool p0.fHairpin, .str p0.fHost, .int .i64 p0.fLow, .int .i64 p0.fHigh, .int .i64 p1, .ref 600074 0 l133.1.length]]⟩)] [BT.of 600074 tySBindingO6 7 l133.1 true] (by rfl))
          (fun l133 =>
            .br 0 (decide (l133.2 < (mlen tySBinding p0.fTable)))
            (.row 15001 tySBinding p0.fTable l133.2.toNat (decide (0 ≤ l133.2)) fun x134 =>
              .br 0 (decide (p1 < x134.fUntil))
              (.call 17003 (s64 x134.fOpen) [] [(7, 500078)] fun r135 =>
                .appn 18009 tySBindingO6 l133.1 x134 6 500078 tySAddr x134.fOpen 88 (.gh 0 (.drop [600074]) (.gh 0 (.ren 70 600074) (.done (.inl ((l133.1 ++ [x134]), (wi64 (l133.2 + 1))))))))
              (.done (.inl (l133.1, (wi64 (l133.2 + 1))))))
            (.done (.inr l133.1)))
          ([], 0))
        (fun (e136 : (List SBinding)) => Ext.of (.exit 2) [(6, .nilp), (7, .int .i64 0), (8, .ptr 15 0 0)] [(15, ⟨9, true, [[.int .i64 p0.fMapping, .int .i64 p0.fFilter, .int .i64 p0.fTimeout, .bool p0.fHairpin, .str p0.fHost, .int .i64 p0.fLow, .int .i64 p0.fHigh, .int .i64 p1, .ref 600074 0 e136.length]]⟩)] [BT.of 600074 tySBindingO6 7 e136 true] (by rfl))
        (fun e136 =>
          .done (.inr e136))))))
theorem k56_1 (p0 : SNat) (p1 : Int) (p2 : (List SAddr)) : FnB Tryd.prog GG [0, 1, 2, 3, 6, 7, 8, 10, 12, 18, 26, 27, 28, 29, 30, 36, 48, 49, 50, 51, 57] Tryd.f56 [.agg [.int .i64 p0.fMapping, .int .i64 p0.fFilter, .int .i64 p0.fTimeout, .bool p0.fHairpin, .str p0.fHost, .int .i64 p0.fLow, .int .i64 p0.fHigh, .int .i64 p0.fNow, .sl false 7 (List.map tySBinding.c p0.fTable)], .int .i64 p1, .ref 1000000 0 p2.length] (Ext.of .normal (argTs [.agg [.int .i64 p0.fMapping, .int .i64 p0.fFilter, .int .i64 p0.fTimeout, .bool p0.fHairpin, .str p0.fHost, .int .i64 p0.fLow, .int .i64 p0.fHigh, .int .i64 p0.fNow, .sl false 7 (List.map tySBinding.c p0.fTable)], .int .i64 p1, .ref 1000000 0 p2.length]) [] [BT.of 1000000 tySAddr 2 p2 true] (by rfl)) (g56_1 p0 p1 p2) (Sum.elim (fun (r : Int) => .tup [.nilp, .int .i64 r]) (fun (r : (List SBinding)) => .tup [.ptr 15 0 0, .int .i64 0])) (Sum.elim (fun (r : Int) => Ext.of .normal [] [] [] (by rfl)) (fun (r : (List SBinding)) => Ext.of .normal [] [(15, ⟨9, true, [[.int .i64 p0.fMapping, .int .i64 p0.fFilter, .int .i64 p0.fTimeout, .bool p0.fHairpin, .str p0.fHost, .int .i64 p0.fLow, .int .i64 p0.fHigh, .int .i64 p1, .ref 600074 0 r.length]]⟩)] [BT.of 600074 tySBindingO6 7 r true] (by rfl))) := by unfold FnB; kernel_rfl
noncomputable def s56_1 (p0 : SNat) (p1 : Int) (p2 : (List SAddr)) : EV.Spec Tryd.prog GG ((Int) ⊕ ((List SBinding))) := .ofFnB 56 [600074] mixed Tryd.func56 rfl (fun r => by cases r <;> rfl) (k56_1 p0 p1 p2)

/-- (*tannoy nat.router).out -/
noncomputable def g58 (p0 : SAddr) (p1 : SAddr) : TT (SAddr × Int) :=
  .fail
theorem k58 (p0 : SAddr) (p1 : SAddr) : FnD Tryd.prog GG [0, 1, 2, 4, 5, 6, 7, 8, 9, 10, 11, 12, 13, 27, 36, 103] Tryd.f58 [.nilp, .agg [.str p0.fHost, .int .i64 p0.fPort], .agg [.str p1.fHost, .int .i64 p1.fPort]] (g58 p0 p1) (fun r => .tup [.agg [.str r.1.fHost, .int .i64 r.1.fPort], .int .i64 r.2]) := by unfold FnD; kernel_rfl
noncomputable def s58 (p0 : SAddr) (p1 : SAddr) : EV.Spec Tryd.prog GG (SAddr × Int) := .ofFn 58 mixed Tryd.func58 (k58 p0 p1)

/-- tannoy nat.keys 1 -/
noncomputable def g146 (p0 : SAddr) : TT (SAddr) :=
  .done (SAddr.mk ByteArray.empty 0)
theorem k146 (p0 : SAddr) : FnD Tryd.prog GG [0, 2] Tryd.f146 [.agg [.str p0.fHost, .int .i64 p0.fPort]] (g146 p0) (fun r => .agg [.str r.fHost, .int .i64 r.fPort]) := by unfold FnD; kernel_rfl
noncomputable def s146 (p0 : SAddr) : EV.Spec Tryd.prog GG (SAddr) := .ofFn 146 mixed Tryd.func146 (k146 p0)

/-- (*tannoy nat.router).out 1 -/
noncomputable def g86 (p0 : SBinding) (p1 : SAddr) (p2 : SAddr) : TT (Bool) :=
  .cnd 1 [4]
  (.br 1006 ((decide (p0.fInside.fHost = p1.fHost)) && ((p0.fInside.fPort == p1.fPort) && true))
    (.done ((decide (p0.fPeer.fHost = p2.fHost)) && ((p0.fPeer.fPort == p2.fPort) && true)))
    (.done false))
  (fun (c146 : Bool) => [.bool c146]) fun c146 =>
  .done c146
theorem k86 (p0 : SBinding) (p1 : SAddr) (p2 : SAddr) : FnD Tryd.prog GG [0, 1, 2, 3, 4] Tryd.f86 [.agg [.str p0.fInside.fHost, .int .i64 p0.fInside.fPort, .str p0.fPeer.fHost, .int .i64 p0.fPeer.fPort, .int .i64 p0.fPort, .int .i64 p0.fUntil, .sl false 2 (List.map tySAddr.c p0.fOpen)], .snap [.str p1.fHost, .int .i64 p1.fPort], .snap [.str p2.fHost, .int .i64 p2.fPort]] (g86 p0 p1 p2) (fun r => .bool r) := by unfold FnD; kernel_rfl
noncomputable def s86 (p0 : SBinding) (p1 : SAddr) (p2 : SAddr) : EV.Spec Tryd.prog GG (Bool) := .ofFn 86 mixed Tryd.func86 (k86 p0 p1 p2)

/-- slices.IndexFunc   tannoy api.Binding tannoy api.Binding  -/
noncomputable def g115_1 (p0 : (List SBinding)) (p1 : SAddr) (p2 : SAddr) : TT (Int) :=
  .bind2 1
  (.lp (fun (l147 : Int) => Ext.lit .normal [(0, .sl false 7 (List.map tySBinding.c p0)), (1, .fn 86 [] [.snap [.str p1.fHost, .int .i64 p1.fPort], .snap [.str p2.fHost, .int .i64 p2.fPort]]), (4, .int .i64 0), (7, .int .i64 (mlen tySBinding p0)), (8, .int .i64 l147)] [])
    (fun l147 =>
      .br 0 (decide (l147 < (mlen tySBinding p0)))
      (.row 4004 tySBinding p0 l147.toNat (decide (0 ≤ l147)) fun x148 =>
        .call 4006 (s86 x148 p1 p2) [] [] fun r149 =>
        .br 0 r149
        (.done (.inr (.inl l147)))
        (.done (.inl (wi64 (l147 + 1)))))
      (.done (.inr (.inr ()))))
    0)
  (fun (e150 : Int) => Ext.lit .ret [(4, .int .i64 e150)] [])
  (fun (e151 : Unit) => Ext.lit (.exit 0) [(4, .int .i64 0)] [])
  (fun e150 =>
    .done e150)
  (fun e151 =>
    .done (-1))
theorem k115_1 (p0 : (List SBinding)) (p1 : SAddr) (p2 : SAddr) : FnD Tryd.prog GG [0, 1, 4, 5, 7, 8, 9, 16] Tryd.f115 [.sl false 7 (List.map tySBinding.c p0), .fn 86 [] [.snap [.str p1.fHost, .int .i64 p1.fPort], .snap [.str p2.fHost, .int .i64 p2.fPort]]] (g115_1 p0 p1 p2) (fun r => .int .i64 r) := by unfold FnD; kernel_rfl
noncomputable def s115_1 (p0 : (List SBinding)) (p1 : SAddr) (p2 : SAddr) : EV.Spec Tryd.prog GG (Int) := .ofFn 115 mixed Tryd.func115 (k115_1 p0 p1 p2)

/-- (*tannoy nat.router).find -/
noncomputable def g85 (p0 : SRouter) (p1 : SAddr) (p2 : SAddr) : TT (Int) :=
  .call 1007 (s115_1 p0.fNat.fTable p1 p2) [] [] fun r152 =>
  .done r152
theorem k85 (p0 : SRouter) (p1 : SAddr) (p2 : SAddr) : FnD Tryd.prog GG [0, 1, 4] Tryd.f85 [.snap [.int .i64 p0.fNat.fMapping, .int .i64 p0.fNat.fFilter, .int .i64 p0.fNat.fTimeout, .bool p0.fNat.fHairpin, .str p0.fNat.fHost, .int .i64 p0.fNat.fLow, .int .i64 p0.fNat.fHigh, .int .i64 p0.fNat.fNow, .sl false 7 (List.map tySBinding.c p0.fNat.fTable)], .fn 86 [] [.snap [.str p1.fHost, .int .i64 p1.fPort], .snap [.str p2.fHost, .int .i64 p2.fPort]]] (g85 p0 p1 p2) (fun r => .int .i64 r) := by unfold FnD; kernel_rfl
noncomputable def s85 (p0 : SRouter) (p1 : SAddr) (p2 : SAddr) : EV.Spec Tryd.prog GG (Int) := .ofFn 85 mixed Tryd.func85 (k85 p0 p1 p2)


/-- slices.Index   tannoy api.Addr tannoy api.Addr  -/
noncomputable def g117 (p0 : (List SAddr)) (p1 : SAddr) : TT (Int) :=
  .bind2 1
  (.lp (fun (l165 : Int) => Ext.lit .normal [(0, .sl false 2 (List.map tySAddr.c p0)), (3, .ptr 3 0 0), (4, .int .i64 0), (7, .int .i64 (mlen tySAddr p0)), (8, .int .i64 l165)] [(3, ⟨2, true, [[.str p1.fHost, .int .i64 p1.fPort]]⟩)])
    (fun l165 =>
      .br 0 (decide (l165 < (mlen tySAddr p0)))
      (.row 4004 tySAddr p0 l165.toNat (decide (0 ≤ l165)) fun x166 =>
        .br 0 ((decide (p1.fHost = x166.fHost)) && ((p1.fPort == x166.fPort) && true))
        (.done (.inr (.inl l165)))
        (.done (.inl (wi64 (l165 + 1)))))
      (.done (.inr (.inr ()))))
    0)
  (fun (e167 : Int) => Ext.lit .ret [(4, .int .i64 e167)] [])
  (fun (e168 : Unit) => Ext.lit (.exit 0) [(4, .int .i64 0)] [])
  (fun e167 =>
    .done e167)
  (fun e168 =>
    .done (-1))
theorem k117 (p0 : (List SAddr)) (p1 : SAddr) : FnD Tryd.prog GG [0, 1, 3, 4, 5, 7, 8, 9, 16] Tryd.f117 [.sl false 2 (List.map tySAddr.c p0), .agg [.str p1.fHost, .int .i64 p1.fPort]] (g117 p0 p1) (fun r => .int .i64 r) := by unfold FnD; kernel_rfl
noncomputable def s117 (p0 : (List SAddr)) (p1 : SAddr) : EV.Spec Tryd.prog GG (Int) := .ofFn 117 mixed Tryd.func117 (k117 p0 p1)

/-- slices.Contains   tannoy api.Addr tannoy api.Addr  -/
noncomputable def g88 (p0 : (List SAddr)) (p1 : SAddr) : TT (Bool) :=
  .call 1003 (s117 p0 p1) [] [] fun r169 =>
  .done (decide ((0 : Int) ≤ r169))
theorem k88 (p0 : (List SAddr)) (p1 : SAddr) : FnD Tryd.prog GG [0, 1, 3, 4] Tryd.f88 [.sl false 2 (List.map tySAddr.c p0), .agg [.str p1.fHost, .int .i64 p1.fPort]] (g88 p0 p1) (fun r => .bool r) := by unfold FnD; kernel_rfl
noncomputable def s88 (p0 : (List SAddr)) (p1 : SAddr) : EV.Spec Tryd.prog GG (Bool) := .ofFn 88 mixed Tryd.func88 (k88 p0 p1)

/-- tannoy nat.keys 2 -/
noncomputable def g147 (p0 : SAddr) : TT (SAddr) :=
  .done (SAddr.mk p0.fHost 0)
theorem k147 (p0 : SAddr) : FnD Tryd.prog GG [0, 1, 2] Tryd.f147 [.agg [.str p0.fHost, .int .i64 p0.fPort]] (g147 p0) (fun r => .agg [.str r.fHost, .int .i64 r.fPort]) := by unfold FnD; kernel_rfl
noncomputable def s147 (p0 : SAddr) : EV.Spec Tryd.prog GG (SAddr) := .ofFn 147 mixed Tryd.func147 (k147 p0)

/-- tannoy nat.keys 3 -/
noncomputable def g148 (p0 : SAddr) : TT (SAddr) :=
  .done p0
theorem k148 (p0 : SAddr) : FnD Tryd.prog GG [0, 1, 2] Tryd.f148 [.agg [.str p0.fHost, .int .i64 p0.fPort]] (g148 p0) (fun r => .agg [.str r.fHost, .int .i64 r.fPort]) := by unfold FnD; kernel_rfl
noncomputable def s148 (p0 : SAddr) : EV.Spec Tryd.prog GG (SAddr) := .ofFn 148 mixed Tryd.func148 (k148 p0)

/-- (*tannoy nat.router).out -/
noncomputable def g58_1 (p0 : SAddr) (p1 : SAddr) (p2 : Int) (p3 : Int) (p4 : Int) (p5 : Bool) (p6 : ByteArray) (p7 : Int) (p8 : Int) (p9 : Int) (p10 : (List SBinding)) : TT ((List SBinding) × Int × ByteArray × Int) :=
  .ceq 1006 p2 [0, 1, 2, 3] (fun v => bif v == 0 then .fail else bif v == 1 then .call 1009 (s146 p1) [] [] fun r187 =>
    .view 2003 (s85 (SRouter.mk (SNat.mk p2 p3 p4 p5 p6 p7 p8 p9 p10)) p0 r187) [⟨1000001, _, tySBindingO6, p10⟩] fun r188 =>
    .bind2 0
    (.br 0 (decide (r188 < 0))
      (.view 4004 (s87 (SRouter.mk (SNat.mk p2 p3 p4 p5 p6 p7 p8 p9 p10)) p0.fPort) [⟨1000001, _, tySBindingO6, p10⟩] fun r189 =>
        .br 0 (!r189.isSome)
        (.done (.inl ()))
        (.app 8012 tySBindingO6 p10 [(SBinding.mk p0 r187 (r189.getD 0) 0 [])] 88 false (by intro h; cases h) (.gh 0 (.ren 55 600083) (.done (.inr ((p10 ++ [(SBinding.mk p0 r187 (r189.getD 0) 0 [])]), (p10.length : Int)))))))
      (.gh 0 (.ren 1000001 600083) (.done (.inr (p10, r188)))))
    (fun (e190 : Unit) => Ext.of .ret [(0, .ptr 1000000 0 0), (5, .ptr 5 0 0), (6, .ptr 6 0 0), (7, .int .i64 4), (9, .int .i64 r188)] [(5, ⟨2, true, [[.str p1.fHost, .int .i64 p1.fPort]]⟩), (6, ⟨2, true, [[.str ByteArray.empty, .int .i64 0]]⟩), (1000000, ⟨9, true, [[.int .i64 p2, .int .i64 p3, .int .i64 p4, .bool p5, .str p6, .int .i64 p7, .int .i64 p8, .int .i64 p9, .ref 1000001 0 p10.length]]⟩)] [BT.of 1000001 tySBindingO6 7 p10 true] (by rfl))
    (fun (e191 : (List SBinding) × Int) => Ext.of .normal [(0, .ptr 1000000 0 0), (5, .ptr 5 0 0), (6, .ptr 6 0 0), (7, .int .i64 0), (9, .int .i64 e191.2)] [(5, ⟨2, true, [[.str p1.fHost, .int .i64 p1.fPort]]⟩), (6, ⟨2, true, [[.str ByteArray.empty, .int .i64 0]]⟩), (1000000, ⟨9, true, [[.int .i64 p2, .int .i64 p3, .int .i64 p4, .bool p5, .str p6, .int .i64 p7, .int .i64 p8, .int .i64 p9, .ref 600083 0 e191.1.length]]⟩)] [BT.of 600083 tySBindingO6 7 e191.1 true] (by rfl))
    (fun e190 =>
      .gh 0 (.ren 1000001 660000) (.done (p10, 4, ByteArray.empty, 0)))
    (fun e191 =>
      .chk 9007 (decide (0 ≤ e191.2) && decide (e191.2 < (e191.1.length : Int))) (.row 10015 tySBindingO6 e191.1 (0 + e191.2.toNat) true fun x192 =>
      .re 10015 (ReW.put 600083 7 tySBindingO6 e191.1 (0 + e191.2.toNat) (SBinding.mk x192.fInside x192.fPeer x192.fPort (wi64 (p9 + p4)) x192.fOpen)) (.gh 13 (.len 600083 ((e191.1.set (0 + e191.2.toNat) (SBinding.mk x192.fInside x192.fPeer x192.fPort (wi64 (p9 + p4)) x192.fOpen)).length) [e191.1.length] (by simp)) (.ceq 11006 p3 [0, 1, 2, 3] (fun v => bif v == 0 then .fail else bif v == 1 then .call 11009 (s146 p1) [] [] fun r193 =>
        .cnd 12 [103]
        (.br 12008 (p3 != 1)
          (.row 12011 tySBindingO6 (e191.1.set (0 + e191.2.toNat) (SBinding.mk x192.fInside x192.fPeer x192.fPort (wi64 (p9 + p4)) x192.fOpen)) (0 + e191.2.toNat) true fun x194 =>
            .call 12013 (s88 x194.fOpen r193) [] [] fun r195 =>
            .done (!r195))
          (.done false))
        (fun (c196 : Bool) => [.bool c196]) fun c196 =>
        .bind 0
        (.br 0 c196
          (.rowt 13005 tySBindingO6 (e191.1.set (0 + e191.2.toNat) (SBinding.mk x192.fInside x192.fPeer x192.fPort (wi64 (p9 + p4)) x192.fOpen)) (0 + e191.2.toNat) 6 fun x197 =>
            .re 13005 (ReW.take 600083 7 true tySBindingO6 (e191.1.set (0 + e191.2.toNat) (SBinding.mk x192.fInside x192.fPeer x192.fPort (wi64 (p9 + p4)) x192.fOpen)) (0 + e191.2.toNat) [.str x197.fInside.fHost, .int .i64 x197.fInside.fPort, .str x197.fPeer.fHost, .int .i64 x197.fPeer.fPort, .int .i64 x197.fPort, .int .i64 x197.fUntil, .sl false 2 (List.map tySAddr.c x197.fOpen)] rfl 108 2 tySAddr x197.fOpen (fun _ => rfl) (fun n => .ref 108 0 n)) (.app 13008 tySAddr x197.fOpen [r193] 24 false (by intro h; cases h) (.nst 13011 tySBindingO6 (e191.1.set (0 + e191.2.toNat) (SBinding.mk x192.fInside x192.fPeer x192.fPort (wi64 (p9 + p4)) x192.fOpen)) [.str x197.fInside.fHost, .int .i64 x197.fInside.fPort, .str x197.fPeer.fHost, .int .i64 x197.fPeer.fPort, .int .i64 x197.fPort, .int .i64 x197.fUntil, .sl false 2 (List.map tySAddr.c x197.fOpen)] (0 + e191.2.toNat) 6 (SBinding.mk x197.fInside x197.fPeer x197.fPort x197.fUntil (x197.fOpen ++ [r193])) tySAddr (x197.fOpen ++ [r193]) none (.gh 16 (.len 600083 (((e191.1.set (0 + e191.2.toNat) (SBinding.mk x192.fInside x192.fPeer x192.fPort (wi64 (p9 + p4)) x192.fOpen)).set (0 + e191.2.toNat) (SBinding.mk x197.fInside x197.fPeer x197.fPort x197.fUntil (x197.fOpen ++ [r193]))).length) [(e191.1.set (0 + e191.2.toNat) (SBinding.mk x192.fInside x192.fPeer x192.fPort (wi64 (p9 + p4)) x192.fOpen)).length] (by simp)) (.rowg 16 600083 500084 tySBindingO6 ((e191.1.set (0 + e191.2.toNat) (SBinding.mk x192.fInside x192.fPeer x192.fPort (wi64 (p9 + p4)) x192.fOpen)).set (0 + e191.2.toNat) (SBinding.mk x197.fInside x197.fPeer x197.fPort x197.fUntil (x197.fOpen ++ [r193]))) (0 + e191.2.toNat) 6 2 tySAddr (fun x198 => x198.fOpen) (fun _ => rfl) (fun _ => rfl) fun x198 =>
            .hrow 14005 tySBindingO6 ((e191.1.set (0 + e191.2.toNat) (SBinding.mk x192.fInside x192.fPeer x192.fPort (wi64 (p9 + p4)) x192.fOpen)).set (0 + e191.2.toNat) (SBinding.mk x197.fInside x197.fPeer x197.fPort x197.fUntil (x197.fOpen ++ [r193]))) [.str x198.fInside.fHost, .int .i64 x198.fInside.fPort, .str x198.fPeer.fHost, .int .i64 x198.fPeer.fPort, .int .i64 x198.fPort, .int .i64 x198.fUntil, .ref 500084 0 x198.fOpen.length] (0 + e191.2.toNat) (.hrow 14009 tySBindingO6 ((e191.1.set (0 + e191.2.toNat) (SBinding.mk x192.fInside x192.fPeer x192.fPort (wi64 (p9 + p4)) x192.fOpen)).set (0 + e191.2.toNat) (SBinding.mk x197.fInside x197.fPeer x197.fPort x197.fUntil (x197.fOpen ++ [r193]))) [.str x198.fInside.fHost, .int .i64 x198.fInside.fPort, .str x198.fPeer.fHost, .int .i64 x198.fPeer.fPort, .int .i64 x198.fPort, .int .i64 x198.fUntil, .ref 500084 0 x198.fOpen.length] (0 + e191.2.toNat) (.chk 14013 (decide (0 ≤ (if (wi64 ((x198.fOpen.length : Int) - 16)) > (0 : Int) then (wi64 ((x198.fOpen.length : Int) - 16)) else (0 : Int))) && decide ((if (wi64 ((x198.fOpen.length : Int) - 16)) > (0 : Int) then (wi64 ((x198.fOpen.length : Int) - 16)) else (0 : Int)) ≤ (x198.fOpen.length : Int))) (.nst 14016 tySBindingO6 ((e191.1.set (0 + e191.2.toNat) (SBinding.mk x192.fInside x192.fPeer x192.fPort (wi64 (p9 + p4)) x192.fOpen)).set (0 + e191.2.toNat) (SBinding.mk x197.fInside x197.fPeer x197.fPort x197.fUntil (x197.fOpen ++ [r193]))) [.str x198.fInside.fHost, .int .i64 x198.fInside.fPort, .str x198.fPeer.fHost, .int .i64 x198.fPeer.fPort, .int .i64 x198.fPort, .int .i64 x198.fUntil, .ref 500084 0 x198.fOpen.length] (0 + e191.2.toNat) 6 (SBinding.mk x198.fInside x198.fPeer x198.fPort x198.fUntil (x198.fOpen.drop ((if (wi64 ((x198.fOpen.length : Int) - 16)) > (0 : Int) then (wi64 ((x198.fOpen.length : Int) - 16)) else (0 : Int)).toNat))) tySAddr x198.fOpen (some ((if (wi64 ((x198.fOpen.length : Int) - 16)) > (0 : Int) then (wi64 ((x198.fOpen.length : Int) - 16)) else (0 : Int)).toNat)) (.gh 0 (.len 600083 ((((e191.1.set (0 + e191.2.toNat) (SBinding.mk x192.fInside x192.fPeer x192.fPort (wi64 (p9 + p4)) x192.fOpen)).set (0 + e191.2.toNat) (SBinding.mk x197.fInside x197.fPeer x197.fPort x197.fUntil (x197.fOpen ++ [r193]))).set (0 + e191.2.toNat) (SBinding.mk x198.fInside x198.fPeer x198.fPort x198.fUntil (x198.fOpen.drop ((if (wi64 ((x198.fOpen.length : Int) - 16)) > (0 : Int) then (wi64 ((x198.fOpen.length : Int) - 16)) else (0 : Int)).toNat)))).length) [((e191.1.set (0 + e191.2.toNat) (SBinding.mk x192.fInside x192.fPeer x192.fPort (wi64 (p9 + p4)) x192.fOpen)).set (0 + e191.2.toNat) (SBinding.mk x197.fInside x197.fPeer x197.fPort x197.fUntil (x197.fOpen ++ [r193]))).length] (by simp)) (.done (((e191.1.set (0 + e191.2.toNat) (SBinding.mk x192.fInside x192.fPeer x192.fPort (wi64 (p9 + p4)) x192.fOpen)).set (0 + e191.2.toNat) (SBinding.mk x197.fInside x197.fPeer x197.fPort x197.fUntil (x197.fOpen ++ [r193]))).set (0 + e191.2.toNat) (SBinding.mk x198.fInside x198.fPeer x198.fPort x198.fUntil (x198.fOpen.drop ((if (wi64 ((x198.fOpen.length : Int) - 16)) > (0 : Int) then (wi64 ((x198.fOpen.length : Int) - 16)) else (0 : Int)).toNat))))))))))))))
          (.done (e191.1.set (0 + e191.2.toNat) (SBinding.mk x192.fInside x192.fPeer x192.fPort (wi64 (p9 + p4)) x192.fOpen))))
        (fun (e199 : (List SBinding)) => Ext.of .normal [(0, .ptr 1000000 0 0), (6, .ptr 6 0 0), (7, .int .i64 0), (12, .ptr 600083 (0 + e191.2.toNat) 0)] [(6, ⟨2, true, [[.str ByteArray.empty, .int .i64 0]]⟩), (1000000, ⟨9, true, [[.int .i64 p2, .int .i64 p3, .int .i64 p4, .bool p5, .str p6, .int .i64 p7, .int .i64 p8, .int .i64 p9, .ref 600083 0 e199.length]]⟩)] [BT.of 600083 tySBindingO6 7 e199 true] (by rfl))
        (fun e199 =>
          .row 15009 tySBindingO6 e199 (0 + e191.2.toNat) true fun x200 =>
          .gh 0 (.ren 600083 660000) (.done (e199, 0, p6, x200.fPort))) else bif v == 2 then .call 11009 (s147 p1) [] [] fun r201 =>
        .cnd 12 [103]
        (.br 12008 (p3 != 1)
          (.row 12011 tySBindingO6 (e191.1.set (0 + e191.2.toNat) (SBinding.mk x192.fInside x192.fPeer x192.fPort (wi64 (p9 + p4)) x192.fOpen)) (0 + e191.2.toNat) true fun x202 =>
            .call 12013 (s88 x202.fOpen r201) [] [] fun r203 =>
            .done (!r203))
          (.done false))
        (fun (c204 : Bool) => [.bool c204]) fun c204 =>
        .bind 0
        (.br 0 c204
          (.rowt 13005 tySBindingO6 (e191.1.set (0 + e191.2.toNat) (SBinding.mk x192.fInside x192.fPeer x192.fPort (wi64 (p9 + p4)) x192.fOpen)) (0 + e191.2.toNat) 6 fun x205 =>
            .re 13005 (ReW.take 600083 7 true tySBindingO6 (e191.1.set (0 + e191.2.toNat) (SBinding.mk x192.fInside x192.fPeer x192.fPort (wi64 (p9 + p4)) x192.fOpen)) (0 + e191.2.toNat) [.str x205.fInside.fHost, .int .i64 x205.fInside.fPort, .str x205.fPeer.fHost, .int .i64 x205.fPeer.fPort, .int .i64 x205.fPort, .int .i64 x205.fUntil, .sl false 2 (List.map tySAddr.c x205.fOpen)] rfl 108 2 tySAddr x205.fOpen (fun _ => rfl) (fun n => .ref 108 0 n)) (.app 13008 tySAddr x205.fOpen [r201] 24 false (by intro h; cases h) (.nst 13011 tySBindingO6 (e191.1.set (0 + e191.2.toNat) (SBinding.mk x192.fInside x192.fPeer x192.fPort (wi64 (p9 + p4)) x192.fOpen)) [.str x205.fInside.fHost, .int .i64 x205.fInside.fPort, .str x205.fPeer.fHost, .int .i64 x205.fPeer.fPort, .int .i64 x205.fPort, .int .i64 x205.fUntil, .sl false 2 (List.map tySAddr.c x205.fOpen)] (0 + e191.2.toNat) 6 (SBinding.mk x205.fInside x205.fPeer x205.fPort x205.fUntil (x205.fOpen ++ [r201])) tySAddr (x205.fOpen ++ [r201]) none (.gh 16 (.len 600083 (((e191.1.set (0 + e191.2.toNat) (SBinding.mk x192.fInside x192.fPeer x192.fPort (wi64 (p9 + p4)) x192.fOpen)).set (0 + e191.2.toNat) (SBinding.mk x205.fInside x205.fPeer x205.fPort x205.fUntil (x205.fOpen ++ [r201]))).length) [(e191.1.set (0 + e191.2.toNat) (SBinding.mk x192.fInside x192.fPeer x192.fPort (wi64 (p9 + p4)) x192.fOpen)).length] (by simp)) (.rowg 16 600083 500085 tySBindingO6 ((e191.1.set (0 + e191.2.toNat) (SBinding.mk x192.fInside x192.fPeer x192.fPort (wi64 (p9 + p4)) x192.fOpen)).set (0 + e191.2.toNat) (SBinding.mk x205.fInside x205.fPeer x205.fPort x205.fUntil (x205.fOpen ++ [r201]))) (0 + e191.2.toNat) 6 2 tySAddr (fun x206 => x206.fOpen) (fun _ => rfl) (fun _ => rfl) fun x206 =>
            .hrow 14005 tySBindingO6 ((e191.1.set (0 + e191.2.toNat) (SBinding.mk x192.fInside x192.fPeer x192.fPort (wi64 (p9 + p4)) x192.fOpen)).set (0 + e191.2.toNat) (SBinding.mk x205.fInside x205.fPeer x205.fPort x205.fUntil (x205.fOpen ++ [r201]))) [.str x206.fInside.fHost, .int .i64 x206.fInside.fPort, .str x206.fPeer.fHost, .int .i64 x206.fPeer.fPort, .int .i64 x206.fPort, .int .i64 x206.fUntil, .ref 500085 0 x206.fOpen.length] (0 + e191.2.toNat) (.hrow 14009 tySBindingO6 ((e191.1.set (0 + e191.2.toNat) (SBinding.mk x192.fInside x192.fPeer x192.fPort (wi64 (p9 + p4)) x192.fOpen)).set (0 + e191.2.toNat) (SBinding.mk x205.fInside x205.fPeer x205.fPort x205.fUntil (x205.fOpen ++ [r201]))) [.str x206.fInside.fHost, .int .i64 x206.fInside.fPort, .str x206.fPeer.fHost, .int .i64 x206.fPeer.fPort, .int .i64 x206.fPort, .int .i64 x206.fUntil, .ref 500085 0 x206.fOpen.length] (0 + e191.2.toNat) (.chk 14013 (decide (0 ≤ (if (wi64 ((x206.fOpen.length : Int) - 16)) > (0 : Int) then (wi64 ((x206.fOpen.length : Int) - 16)) else (0 : Int))) && decide ((if (wi64 ((x206.fOpen.length : Int) - 16)) > (0 : Int) then (wi64 ((x206.fOpen.length : Int) - 16)) else (0 : Int)) ≤ (x206.fOpen.length : Int))) (.nst 14016 tySBindingO6 ((e191.1.set (0 + e191.2.toNat) (SBinding.mk x192.fInside x192.fPeer x192.fPort (wi64 (p9 + p4)) x192.fOpen)).set (0 + e191.2.toNat) (SBinding.mk x205.fInside x205.fPeer x205.fPort x205.fUntil (x205.fOpen ++ [r201]))) [.str x206.fInside.fHost, .int .i64 x206.fInside.fPort, .str x206.fPeer.fHost, .int .i64 x206.fPeer.fPort, .int .i64 x206.fPort, .int .i64 x206.fUntil, .ref 500085 0 x206.fOpen.length] (0 + e191.2.toNat) 6 (SBinding.mk x206.fInside x206.fPeer x206.fPort x206.fUntil (x206.fOpen.drop ((if (wi64 ((x206.fOpen.length : Int) - 16)) > (0 : Int) then (wi64 ((x206.fOpen.length : Int) - 16)) else (0 : Int)).toNat))) tySAddr x206.fOpen (some ((if (wi64 ((x206.fOpen.length : Int) - 16)) > (0 : Int) then (wi64 ((x206.fOpen.length : Int) - 16)) else (0 : Int)).toNat)) (.gh 0 (.len 600083 ((((e191.1.set (0 + e191.2.toNat) (SBinding.mk x192.fInside x192.fPeer x192.fPort (wi64 (p9 + p4)) x192.fOpen)).set (0 + e191.2.toNat) (SBinding.mk x205.fInside x205.fPeer x205.fPort x205.fUntil (x205.fOpen ++ [r201]))).set (0 + e191.2.toNat) (SBinding.mk x206.fInside x206.fPeer x206.fPort x206.fUntil (x206.fOpen.drop ((if (wi64 ((x206.fOpen.length : Int) - 16)) > (0 : Int) then (wi64 ((x206.fOpen.length : Int) - 16)) else (0 : Int)).toNat)))).length) [((e191.1.set (0 + e191.2.toNat) (SBinding.mk x192.fInside x192.fPeer x192.fPort (wi64 (p9 + p4)) x192.fOpen)).set (0 + e191.2.toNat) (SBinding.mk x205.fInside x205.fPeer x205.fPort x205.fUntil (x205.fOpen ++ [r201]))).length] (by simp)) (.done (((e191.1.set (0 + e191.2.toNat) (SBinding.mk x192.fInside x192.fPeer x192.fPort (wi64 (p9 + p4)) x192.fOpen)).set (0 + e191.2.toNat) (SBinding.mk x205.fInside x205.fPeer x205.fPort x205.fUntil (x205.fOpen ++ [r201]))).set (0 + e191.2.toNat) (SBinding.mk x206.fInside x206.fPeer x206.fPort x206.fUntil (x206.fOpen.drop ((if (wi64 ((x206.fOpen.length : Int) - 16)) > (0 : Int) then (wi64 ((x206.fOpen.length : Int) - 16)) else (0 : Int)).toNat))))))))))))))
          (.done (e191.1.set (0 + e191.2.toNat) (SBinding.mk x192.fInside x192.fPeer x192.fPort (wi64 (p9 + p4)) x192.fOpen))))
        (fun (e207 : (List SBinding)) => Ext.of .normal [(0, .ptr 1000000 0 0), (6, .ptr 6 0 0), (7, .int .i64 0), (12, .ptr 600083 (0 + e191.2.toNat) 0)] [(6, ⟨2, true, [[.str ByteArray.empty, .int .i64 0]]⟩), (1000000, ⟨9, true, [[.int .i64 p2, .int .i64 p3, .int .i64 p4, .bool p5, .str p6, .int .i64 p7, .int .i64 p8, .int .i64 p9, .ref 600083 0 e207.length]]⟩)] [BT.of 600083 tySBindingO6 7 e207 true] (by rfl))
        (fun e207 =>
          .row 15009 tySBindingO6 e207 (0 + e191.2.toNat) true fun x208 =>
          .gh 0 (.ren 600083 660000) (.done (e207, 0, p6, x208.fPort))) else bif v == 3 then .call 11009 (s148 p1) [] [] fun r209 =>
        .cnd 12 [103]
        (.br 12008 (p3 != 1)
          (.row 12011 tySBindingO6 (e191.1.set (0 + e191.2.toNat) (SBinding.mk x192.fInside x192.fPeer x192.fPort (wi64 (p9 + p4)) x192.fOpen)) (0 + e191.2.toNat) true fun x210 =>
            .call 12013 (s88 x210.fOpen r209) [] [] fun r211 =>
            .done (!r211))
          (.done false))
        (fun (c212 : Bool) => [.bool c212]) fun c212 =>
        .bind 0
        (.br 0 c212
          (.rowt 13005 tySBindingO6 (e191.1.set (0 + e191.2.toNat) (SBinding.mk x192.fInside x192.fPeer x192.fPort (wi64 (p9 + p4)) x192.fOpen)) (0 + e191.2.toNat) 6 fun x213 =>
            .re 13005 (ReW.take 600083 7 true tySBindingO6 (e191.1.set (0 + e191.2.toNat) (SBinding.mk x192.fInside x192.fPeer x192.fPort (wi64 (p9 + p4)) x192.fOpen)) (0 + e191.2.toNat) [.str x213.fInside.fHost, .int .i64 x213.fInside.fPort, .str x213.fPeer.fHost, .int .i64 x213.fPeer.fPort, .int .i64 x213.fPort, .int .i64 x213.fUntil, .sl false 2 (List.map tySAddr.c x213.fOpen)] rfl 108 2 tySAddr x213.fOpen (fun _ => rfl) (fun n => .ref 108 0 n)) (.app 13008 tySAddr x213.fOpen [r209] 24 false (by intro h; cases h) (.nst 13011 tySBindingO6 (e191.1.set (0 + e191.2.toNat) (SBinding.mk x192.fInside x192.fPeer x192.fPort (wi64 (p9 + p4)) x192.fOpen)) [.str x213.fInside.fHost, .int .i64 x213.fInside.fPort, .str x213.fPeer.fHost, .int .i64 x213.fPeer.fPort, .int .i64 x213.fPort, .int .i64 x213.fUntil, .sl false 2 (List.map tySAddr.c x213.fOpen)] (0 + e191.2.toNat) 6 (SBinding.mk x213.fInside x213.fPeer x213.fPort x213.fUntil (x213.fOpen ++ [r209])) tySAddr (x213.fOpen ++ [r209]) none (.gh 16 (.len 600083 (((e191.1.set (0 + e191.2.toNat) (SBinding.mk x192.fInside x192.fPeer x192.fPort (wi64 (p9 + p4)) x192.fOpen)).set (0 + e191.2.toNat) (SBinding.mk x213.fInside x213.fPeer x213.fPort x213.fUntil (x213.fOpen ++ [r209]))).length) [(e191.1.set (0 + e191.2.toNat) (SBinding.mk x192.fInside x192.fPeer x192.fPort (wi64 (p9 + p4)) x192.fOpen)).length] (by simp)) (.rowg 16 600083 500086 tySBindingO6 ((e191.1.set (0 + e191.2.toNat) (SBinding.mk x192.fInside x192.fPeer x192.fPort (wi64 (p9 + p4)) x192.fOpen)).set (0 + e191.2.toNat) (SBinding.mk x213.fInside x213.fPeer x213.fPort x213.fUntil (x213.fOpen ++ [r209]))) (0 + e191.2.toNat) 6 2 tySAddr (fun x214 => x214.fOpen) (fun _ => rfl) (fun _ => rfl) fun x214 =>
            .hrow 14005 tySBindingO6 ((e191.1.set (0 + e191.2.toNat) (SBinding.mk x192.fInside x192.fPeer x192.fPort (wi64 (p9 + p4)) x192.fOpen)).set (0 + e191.2.toNat) (SBinding.mk x213.fInside x213.fPeer x213.fPort x213.fUntil (x213.fOpen ++ [r209]))) [.str x214.fInside.fHost, .int .i64 x214.fInside.fPort, .str x214.fPeer.fHost, .int .i64 x214.fPeer.fPort, .int .i64 x214.fPort, .int .i64 x214.fUntil, .ref 500086 0 x214.fOpen.length] (0 + e191.2.toNat) (.hrow 14009 tySBindingO6 ((e191.1.set (0 + e191.2.toNat) (SBinding.mk x192.fInside x192.fPeer x192.fPort (wi64 (p9 + p4)) x192.fOpen)).set (0 + e191.2.toNat) (SBinding.mk x213.fInside x213.fPeer x213.fPort x213.fUntil (x213.fOpen ++ [r209]))) [.str x214.fInside.fHost, .int .i64 x214.fInside.fPort, .str x214.fPeer.fHost, .int .i64 x214.fPeer.fPort, .int .i64 x214.fPort, .int .i64 x214.fUntil, .ref 500086 0 x214.fOpen.length] (0 + e191.2.toNat) (.chk 14013 (decide (0 ≤ (if (wi64 ((x214.fOpen.length : Int) - 16)) > (0 : Int) then (wi64 ((x214.fOpen.length : Int) - 16)) else (0 : Int))) && decide ((if (wi64 ((x214.fOpen.length : Int) - 16)) > (0 : Int) then (wi64 ((x214.fOpen.length : Int) - 16)) else (0 : Int)) ≤ (x214.fOpen.length : Int))) (.nst 14016 tySBindingO6 ((e191.1.set (0 + e191.2.toNat) (SBinding.mk x192.fInside x192.fPeer x192.fPort (wi64 (p9 + p4)) x192.fOpen)).set (0 + e191.2.toNat) (SBinding.mk x213.fInside x213.fPeer x213.fPort x213.fUntil (x213.fOpen ++ [r209]))) [.str x214.fInside.fHost, .int .i64 x214.fInside.fPort, .str x214.fPeer.fHost, .int .i64 x214.fPeer.fPort, .int .i64 x214.fPort, .int .i64 x214.fUntil, .ref 500086 0 x214.fOpen.length] (0 + e191.2.toNat) 6 (SBinding.mk x214.fInside x214.fPeer x214.fPort x214.fUntil (x214.fOpen.drop ((if (wi64 ((x214.fOpen.length : Int) - 16)) > (0 : Int) then (wi64 ((x214.fOpen.length : Int) - 16)) else (0 : Int)).toNat))) tySAddr x214.fOpen (some ((if (wi64 ((x214.fOpen.length : Int) - 16)) > (0 : Int) then (wi64 ((x214.fOpen.length : Int) - 16)) else (0 : Int)).toNat)) (.gh 0 (.len 600083 ((((e191.1.set (0 + e191.2.toNat) (SBinding.mk x192.fInside x192.fPeer x192.fPort (wi64 (p9 + p4)) x192.fOpen)).set (0 + e191.2.toNat) (SBinding.mk x213.fInside x213.fPeer x213.fPort x213.fUntil (x213.fOpen ++ [r209]))).set (0 + e191.2.toNat) (SBinding.mk x214.fInside x214.fPeer x214.fPort x214.fUntil (x214.fOpen.drop ((if (wi64 ((x214.fOpen.length : Int) - 16)) > (0 : Int) then (wi64 ((x214.fOpen.length : Int) - 16)) else (0 : Int)).toNat)))).length) [((e191.1.set (0 + e191.2.toNat) (SBinding.mk x192.fInside x192.fPeer x192.fPort (wi64 (p9 + p4)) x192.fOpen)).set (0 + e191.2.toNat) (SBinding.mk x213.fInside x213.fPeer x213.fPort x213.fUntil (x213.fOpen ++ [r209]))).length] (by simp)) (.done (((e191.1.set (0 + e191.2.toNat) (SBinding.mk x192.fInside x192.fPeer x192.fPort (wi64 (p9 + p4)) x192.fOpen)).set (0 + e191.2.toNat) (SBinding.mk x213.fInside x213.fPeer x213.fPort x213.fUntil (x213.fOpen ++ [r209]))).set (0 + e191.2.toNat) (SBinding.mk x214.fInside x214.fPeer x214.fPort x214.fUntil (x214.fOpen.drop ((if (wi64 ((x214.fOpen.length : Int) - 16)) > (0 : Int) then (wi64 ((x214.fOpen.length : Int) - 16)) else (0 : Int)).toNat))))))))))))))
          (.done (e191.1.set (0 + e191.2.toNat) (SBinding.mk x192.fInside x192.fPeer x192.fPort (wi64 (p9 + p4)) x192.fOpen))))
        (fun (e215 : (List SBinding)) => Ext.of .normal [(0, .ptr 1000000 0 0), (6, .ptr 6 0 0), (7, .int .i64 0), (12, .ptr 600083 (0 + e191.2.toNat) 0)] [(6, ⟨2, true, [[.str ByteArray.empty, .int .i64 0]]⟩), (1000000, ⟨9, true, [[.int .i64 p2, .int .i64 p3, .int .i64 p4, .bool p5, .str p6, .int .i64 p7, .int .i64 p8, .int .i64 p9, .ref 600083 0 e215.length]]⟩)] [BT.of 600083 tySBindingO6 7 e215 true] (by rfl))
        (fun e215 =>
          .row 15009 tySBindingO6 e215 (0 + e191.2.toNat) true fun x216 =>
          .gh 0 (.ren 600083 660000) (.done (e215, 0, p6, x216.fPort))) else .fail))))) else bif v == 2 then .call 1009 (s147 p1) [] [] fun r217 =>
    .view 2003 (s85 (SRouter.mk (SNat.mk p2 p3 p4 p5 p6 p7 p8 p9 p10)) p0 r217) [⟨1000001, _, tySBindingO6, p10⟩] fun r218 =>
    .bind2 0
    (.br 0 (decide (r218 < 0))
      (.view 4004 (s87 (SRouter.mk (SNat.mk p2 p3 p4 p5 p6 p7 p8 p9 p10)) p0.fPort) [⟨1000001, _, tySBindingO6, p10⟩] fun r219 =>
        .br 0 (!r219.isSome)
        (.done (.inl ()))
        (.app 8012 tySBindingO6 p10 [(SBinding.mk p0 r217 (r219.getD 0) 0 [])] 88 false (by intro h; cases h) (.gh 0 (.ren 55 600087) (.done (.inr ((p10 ++ [(SBinding.mk p0 r217 (r219.getD 0) 0 [])]), (p10.length : Int)))))))
      (.gh 0 (.ren 1000001 600087) (.done (.inr (p10, r218)))))
    (fun (e220 : Unit) => Ext.of .ret [(0, .ptr 1000000 0 0), (5, .ptr 5 0 0), (6, .ptr 6 0 0), (7, .int .i64 4), (9, .int .i64 r218)] [(5, ⟨2, true, [[.str p1.fHost, .int .i64 p1.fPort]]⟩), (6, ⟨2, true, [[.str ByteArray.empty, .int .i64 0]]⟩), (1000000, ⟨9, true, [[.int .i64 p2, .int .i64 p3, .int .i64 p4, .bool p5, .str p6, .int .i64 p7, .int .i64 p8, .int .i64 p9, .ref 1000001 0 p10.length]]⟩)] [BT.of 1000001 tySBindingO6 7 p10 true] (by rfl))
    (fun (e221 : (List SBinding) × Int) => Ext.of .normal [(0, .ptr 1000000 0 0), (5, .ptr 5 0 0), (6, .ptr 6 0 0), (7, .int .i64 0), (9, .int .i64 e221.2)] [(5, ⟨2, true, [[.str p1.fHost, .int .i64 p1.fPort]]⟩), (6, ⟨2, true, [[.str ByteArray.empty, .int .i64 0]]⟩), (1000000, ⟨9, true, [[.int .i64 p2, .int .i64 p3, .int .i64 p4, .bool p5, .str p6, .int .i64 p7, .int .i64 p8, .int .i64 p9, .ref 600087 0 e221.1.length]]⟩)] [BT.of 600087 tySBindingO6 7 e221.1 true] (by rfl))
    (fun e220 =>
      .gh 0 (.ren 1000001 660000) (.done (p10, 4, ByteArray.empty, 0)))
    (fun e221 =>
      .chk 9007 (decide (0 ≤ e221.2) && decide (e221.2 < (e221.1.length : Int))) (.row 10015 tySBindingO6 e221.1 (0 + e221.2.toNat) true fun x222 =>
      .re 10015 (ReW.put 600087 7 tySBindingO6 e221.1 (0 + e221.2.toNat) (SBinding.mk x222.fInside x222.fPeer x222.fPort (wi64 (p9 + p4)) x222.fOpen)) (.gh 13 (.len 600087 ((e221.1.set (0 + e221.2.toNat) (SBinding.mk x222.fInside x222.fPeer x222.fPort (wi64 (p9 + p4)) x222.fOpen)).length) [e221.1.length] (by simp)) (.ceq 11006 p3 [0, 1, 2, 3] (fun v => bif v == 0 then .fail else bif v == 1 then .call 11009 (s146 p1) [] [] fun r223 =>
        .cnd 12 [103]
        (.br 12008 (p3 != 1)
          (.row 12011 tySBindingO6 (e221.1.set (0 + e221.2.toNat) (SBinding.mk x222.fInside x222.fPeer x222.fPort (wi64 (p9 + p4)) x222.fOpen)) (0 + e221.2.toNat) true fun x224 =>
            .call 12013 (s88 x224.fOpen r223) [] [] fun r225 =>
            .done (!r225))
          (.done false))
        (fun (c226 : Bool) => [.bool c226]) fun c226 =>
        .bind 0
        (.br 0 c226
          (.rowt 13005 tySBindingO6 (e221.1.set (0 + e221.2.toNat) (SBinding.mk x222.fInside x222.fPeer x222.fPort (wi64 (p9 + p4)) x222.fOpen)) (0 + e221.2.toNat) 6 fun x227 =>
            .re 13005 (ReW.take 600087 7 true tySBindingO6 (e221.1.set (0 + e221.2.toNat) (SBinding.mk x222.fInside x222.fPeer x222.fPort (wi64 (p9 + p4)) x222.fOpen)) (0 + e221.2.toNat) [.str x227.fInside.fHost, .int .i64 x227.fInside.fPort, .str x227.fPeer.fHost, .int .i64 x227.fPeer.fPort, .int .i64 x227.fPort, .int .i64 x227.fUntil, .sl false 2 (List.map tySAddr.c x227.fOpen)] rfl 108 2 tySAddr x227.fOpen (fun _ => rfl) (fun n => .ref 108 0 n)) (.app 13008 tySAddr x227.fOpen [r223] 24 false (by intro h; cases h) (.nst 13011 tySBindingO6 (e221.1.set (0 + e221.2.toNat) (SBinding.mk x222.fInside x222.fPeer x222.fPort (wi64 (p9 + p4)) x222.fOpen)) [.str x227.fInside.fHost, .int .i64 x227.fInside.fPort, .str x227.fPeer.fHost, .int .i64 x227.fPeer.fPort, .int .i64 x227.fPort, .int .i64 x227.fUntil, .sl false 2 (List.map tySAddr.c x227.fOpen)] (0 + e221.2.toNat) 6 (SBinding.mk x227.fInside x227.fPeer x227.fPort x227.fUntil (x227.fOpen ++ [r223])) tySAddr (x227.fOpen ++ [r223]) none (.gh 16 (.len 600087 (((e221.1.set (0 + e221.2.toNat) (SBinding.mk x222.fInside x222.fPeer x222.fPort (wi64 (p9 + p4)) x222.fOpen)).set (0 + e221.2.toNat) (SBinding.mk x227.fInside x227.fPeer x227.fPort x227.fUntil (x227.fOpen ++ [r223]))).length) [(e221.1.set (0 + e221.2.toNat) (SBinding.mk x222.fInside x222.fPeer x222.fPort (wi64 (p9 + p4)) x222.fOpen)).length] (by simp)) (.rowg 16 600087 500088 tySBindingO6 ((e221.1.set (0 + e221.2.toNat) (SBinding.mk x222.fInside x222.fPeer x222.fPort (wi64 (p9 + p4)) x222.fOpen)).set (0 + e221.2.toNat) (SBinding.mk x227.fInside x227.fPeer x227.fPort x227.fUntil (x227.fOpen ++ [r223]))) (0 + e221.2.toNat) 6 2 tySAddr (fun x228 => x228.fOpen) (fun _ => rfl) (fun _ => rfl) fun x228 =>
            .hrow 14005 tySBindingO6 ((e221.1.set (0 + e221.2.toNat) (SBinding.mk x222.fInside x222.fPeer x222.fPort (wi64 (p9 + p4)) x222.fOpen)).set (0 + e221.2.toNat) (SBinding.mk x227.fInside x227.fPeer x227.fPort x227.fUntil (x227.fOpen ++ [r223]))) [.str x228.fInside.fHost, .int .i64 x228.fInside.fPort, .str x228.fPeer.fHost, .int .i64 x228.fPeer.fPort, .int .i64 x228.fPort, .int .i64 x228.fUntil, .ref 500088 0 x228.fOpen.length] (0 + e221.2.toNat) (.hrow 14009 tySBindingO6 ((e221.1.set (0 + e221.2.toNat) (SBinding.mk x222.fInside x222.fPeer x222.fPort (wi64 (p9 + p4)) x222.fOpen)).set (0 + e221.2.toNat) (SBinding.mk x227.fInside x227.fPeer x227.fPort x227.fUntil (x227.fOpen ++ [r223]))) [.str x228.fInside.fHost, .int .i64 x228.fInside.fPort, .str x228.fPeer.fHost, .int .i64 x228.fPeer.fPort, .int .i64 x228.fPort, .int .i64 x228.fUntil, .ref 500088 0 x228.fOpen.length] (0 + e221.2.toNat) (.chk 14013 (decide (0 ≤ (if (wi64 ((x228.fOpen.length : Int) - 16)) > (0 : Int) then (wi64 ((x228.fOpen.length : Int) - 16)) else (0 : Int))) && decide ((if (wi64 ((x228.fOpen.length : Int) - 16)) > (0 : Int) then (wi64 ((x228.fOpen.length : Int) - 16)) else (0 : Int)) ≤ (x228.fOpen.length : Int))) (.nst 14016 tySBindingO6 ((e221.1.set (0 + e221.2.toNat) (SBinding.mk x222.fInside x222.fPeer x222.fPort (wi64 (p9 + p4)) x222.fOpen)).set (0 + e221.2.toNat) (SBinding.mk x227.fInside x227.fPeer x227.fPort x227.fUntil (x227.fOpen ++ [r223]))) [.str x228.fInside.fHost, .int .i64 x228.fInside.fPort, .str x228.fPeer.fHost, .int .i64 x228.fPeer.fPort, .int .i64 x228.fPort, .int .i64 x228.fUntil, .ref 500088 0 x228.fOpen.length] (0 + e221.2.toNat) 6 (SBinding.mk x228.fInside x228.fPeer x228.fPort x228.fUntil (x228.fOpen.drop ((if (wi64 ((x228.fOpen.length : Int) - 16)) > (0 : Int) then (wi64 ((x228.fOpen.length : Int) - 16)) else (0 : Int)).toNat))) tySAddr x228.fOpen (some ((if (wi64 ((x228.fOpen.length : Int) - 16)) > (0 : Int) then (wi64 ((x228.fOpen.length : Int) - 16)) else (0 : Int)).toNat)) (.gh 0 (.len 600087 ((((e221.1.set (0 + e221.2.toNat) (SBinding.mk x222.fInside x222.fPeer x222.fPort (wi64 (p9 + p4)) x222.fOpen)).set (0 + e221.2.toNat) (SBinding.mk x227.fInside x227.fPeer x227.fPort x227.fUntil (x227.fOpen ++ [r223]))).set (0 + e221.2.toNat) (SBinding.mk x228.fInside x228.fPeer x228.fPort x228.fUntil (x228.fOpen.drop ((if (wi64 ((x228.fOpen.length : Int) - 16)) > (0 : Int) then (wi64 ((x228.fOpen.length : Int) - 16)) else (0 : Int)).toNat)))).length) [((e221.1.set (0 + e221.2.toNat) (SBinding.mk x222.fInside x222.fPeer x222.fPort (wi64 (p9 + p4)) x222.fOpen)).set (0 + e221.2.toNat) (SBinding.mk x227.fInside x227.fPeer x227.fPort x227.fUntil (x227.fOpen ++ [r223]))).length] (by simp)) (.done (((e221.1.set (0 + e221.2.toNat) (SBinding.mk x222.fInside x222.fPeer x222.fPort (wi64 (p9 + p4)) x222.fOpen)).set (0 + e221.2.toNat) (SBinding.mk x227.fInside x227.fPeer x227.fPort x227.fUntil (x227.fOpen ++ [r223]))).set (0 + e221.2.toNat) (SBinding.mk x228.fInside x228.fPeer x228.fPort x228.fUntil (x228.fOpen.drop ((if (wi64 ((x228.fOpen.length : Int) - 16)) > (0 : Int) then (wi64 ((x228.fOpen.length : Int) - 16)) else (0 : Int)).toNat))))))))))))))
          (.done (e221.1.set (0 + e221.2.toNat) (SBinding.mk x222.fInside x222.fPeer x222.fPort (wi64 (p9 + p4)) x222.fOpen))))
        (fun (e229 : (List SBinding)) => Ext.of .normal [(0, .ptr 1000000 0 0), (6, .ptr 6 0 0), (7, .int .i64 0), (12, .ptr 600087 (0 + e221.2.toNat) 0)] [(6, ⟨2, true, [[.str ByteArray.empty, .int .i64 0]]⟩), (1000000, ⟨9, true, [[.int .i64 p2, .int .i64 p3, .int .i64 p4, .bool p5, .str p6, .int .i64 p7, .int .i64 p8, .int .i64 p9, .ref 600087 0 e229.length]]⟩)] [BT.of 600087 tySBindingO6 7 e229 true] (by rfl))
        (fun e229 =>
          .row 15009 tySBindingO6 e229 (0 + e221.2.toNat) true fun x230 =>
          .gh 0 (.ren 600087 660000) (.done (e229, 0, p6, x230.fPort))) else bif v == 2 then .call 11009 (s147 p1) [] [] fun r231 =>
        .cnd 12 [103]
        (.br 12008 (p3 != 1)
          (.row 12011 tySBindingO6 (e221.1.set (0 + e221.2.toNat) (SBinding.mk x222.fInside x222.fPeer x222.fPort (wi64 (p9 + p4)) x222.fOpen)) (0 + e221.2.toNat) true fun x232 =>
            .call 12013 (s88 x232.fOpen r231) [] [] fun r233 =>
            .done (!r233))
          (.done false))
        (fun (c234 : Bool) => [.bool c234]) fun c234 =>
        .bind 0
        (.br 0 c234
          (.rowt 13005 tySBindingO6 (e221.1.set (0 + e221.2.toNat) (SBinding.mk x222.fInside x222.fPeer x222.fPort (wi64 (p9 + p4)) x222.fOpen)) (0 + e221.2.toNat) 6 fun x235 =>
            .re 13005 (ReW.take 600087 7 true tySBindingO6 (e221.1.set (0 + e221.2.toNat) (SBinding.mk x222.fInside x222.fPeer x222.fPort (wi64 (p9 + p4)) x222.fOpen)) (0 + e221.2.toNat) [.str x235.fInside.fHost, .int .i64 x235.fInside.fPort, .str x235.fPeer.fHost, .int .i64 x235.fPeer.fPort, .int .i64 x235.fPort, .int .i64 x235.fUntil, .sl false 2 (List.map tySAddr.c x235.fOpen)] rfl 108 2 tySAddr x235.fOpen (fun _ => rfl) (fun n => .ref 108 0 n)) (.app 13008 tySAddr x235.fOpen [r231] 24 false (by intro h; cases h) (.nst 13011 tySBindingO6 (e221.1.set (0 + e221.2.toNat) (SBinding.mk x222.fInside x222.fPeer x222.fPort (wi64 (p9 + p4)) x222.fOpen)) [.str x235.fInside.fHost, .int .i64 x235.fInside.fPort, .str x235.fPeer.fHost, .int .i64 x235.fPeer.fPort, .int .i64 x235.fPort, .int .i64 x235.fUntil, .sl false 2 (List.map tySAddr.c x235.fOpen)] (0 + e221.2.toNat) 6 (SBinding.mk x235.fInside x235.fPeer x235.fPort x235.fUntil (x235.fOpen ++ [r231])) tySAddr (x235.fOpen ++ [r231]) none (.gh 16 (.len 600087 (((e221.1.set (0 + e221.2.toNat) (SBinding.mk x222.fInside x222.fPeer x222.fPort (wi64 (p9 + p4)) x222.fOpen)).set (0 + e221.2.toNat) (SBinding.mk x235.fInside x235.fPeer x235.fPort x235.fUntil (x235.fOpen ++ [r231]))).length) [(e221.1.set (0 + e221.2.toNat) (SBinding.mk x222.fInside x222.fPeer x222.fPort (wi64 (p9 + p4)) x222.fOpen)).length] (by simp)) (.rowg 16 600087 500089 tySBindingO6 ((e221.1.set (0 + e221.2.toNat) (SBinding.mk x222.fInside x222.fPeer x222.fPort (wi64 (p9 + p4)) x222.fOpen)).set (0 + e221.2.toNat) (SBinding.mk x235.fInside x235.fPeer x235.fPort x235.fUntil (x235.fOpen ++ [r231]))) (0 + e221.2.toNat) 6 2 tySAddr (fun x236 => x236.fOpen) (fun _ => rfl) (fun _ => rfl) fun x236 =>
            .hrow 14005 tySBindingO6 ((e221.1.set (0 + e221.2.toNat) (SBinding.mk x222.fInside x222.fPeer x222.fPort (wi64 (p9 + p4)) x222.fOpen)).set (0 + e221.2.toNat) (SBinding.mk x235.fInside x235.fPeer x235.fPort x235.fUntil (x235.fOpen ++ [r231]))) [.str x236.fInside.fHost, .int .i64 x236.fInside.fPort, .str x236.fPeer.fHost, .int .i64 x236.fPeer.fPort, .int .i64 x236.fPort, .int .i64 x236.fUntil, .ref 500089 0 x236.fOpen.length] (0 + e221.2.toNat) (.hrow 14009 tySBindingO6 ((e221.1.set (0 + e221.2.toNat) (SBinding.mk x222.fInside x222.fPeer x222.fPort (wi64 (p9 + p4)) x222.fOpen)).set (0 + e221.2.toNat) (SBinding.mk x235.fInside x235.fPeer x235.fPort x235.fUntil (x235.fOpen ++ [r231]))) [.str x236.fInside.fHost, .int .i64 x236.fInside.fPort, .str x236.fPeer.fHost, .int .i64 x236.fPeer.fPort, .int .i64 x236.fPort, .int .i64 x236.fUntil, .ref 500089 0 x236.fOpen.length] (0 + e221.2.toNat) (.chk 14013 (decide (0 ≤ (if (wi64 ((x236.fOpen.length : Int) - 16)) > (0 : Int) then (wi64 ((x236.fOpen.length : Int) - 16)) else (0 : Int))) && decide ((if (wi64 ((x236.fOpen.length : Int) - 16)) > (0 : Int) then (wi64 ((x236.fOpen.length : Int) - 16)) else (0 : Int)) ≤ (x236.fOpen.length : Int))) (.nst 14016 tySBindingO6 ((e221.1.set (0 + e221.2.toNat) (SBinding.mk x222.fInside x222.fPeer x222.fPort (wi64 (p9 + p4)) x222.fOpen)).set (0 + e221.2.toNat) (SBinding.mk x235.fInside x235.fPeer x235.fPort x235.fUntil (x235.fOpen ++ [r231]))) [.str x236.fInside.fHost, .int .i64 x236.fInside.fPort, .str x236.fPeer.fHost, .int .i64 x236.fPeer.fPort, .int .i64 x236.fPort, .int .i64 x236.fUntil, .ref 500089 0 x236.fOpen.length] (0 + e221.2.toNat) 6 (SBinding.mk x236.fInside x236.fPeer x236.fPort x236.fUntil (x236.fOpen.drop ((if (wi64 ((x236.fOpen.length : Int) - 16)) > (0 : Int) then (wi64 ((x236.fOpen.length : Int) - 16)) else (0 : Int)).toNat))) tySAddr x236.fOpen (some ((if (wi64 ((x236.fOpen.length : Int) - 16)) > (0 : Int) then (wi64 ((x236.fOpen.length : Int) - 16)) else (0 : Int)).toNat)) (.gh 0 (.len 600087 ((((e221.1.set (0 + e221.2.toNat) (SBinding.mk x222.fInside x222.fPeer x222.fPort (wi64 (p9 + p4)) x222.fOpen)).set (0 + e221.2.toNat) (SBinding.mk x235.fInside x235.fPeer x235.fPort x235.fUntil (x235.fOpen ++ [r231]))).set (0 + e221.2.toNat) (SBinding.mk x236.fInside x236.fPeer x236.fPort x236.fUntil (x236.fOpen.drop ((if (wi64 ((x236.fOpen.length : Int) - 16)) > (0 : Int) then (wi64 ((x236.fOpen.length : Int) - 16)) else (0 : Int)).toNat)))).length) [((e221.1.set (0 + e221.2.toNat) (SBinding.mk x222.fInside x222.fPeer x222.fPort (wi64 (p9 + p4)) x222.fOpen)).set (0 + e221.2.toNat) (SBinding.mk x235.fInside x235.fPeer x235.fPort x235.fUntil (x235.fOpen ++ [r231]))).length] (by simp)) (.done (((e221.1.set (0 + e221.2.toNat) (SBinding.mk x222.fInside x222.fPeer x222.fPort (wi64 (p9 + p4)) x222.fOpen)).set (0 + e221.2.toNat) (SBinding.mk x235.fInside x235.fPeer x235.fPort x235.fUntil (x235.fOpen ++ [r231]))).set (0 + e221.2.toNat) (SBinding.mk x236.fInside x236.fPeer x236.fPort x236.fUntil (x236.fOpen.drop ((if (wi64 ((x236.fOpen.length : Int) - 16)) > (0 : Int) then (wi64 ((x236.fOpen.length : Int) - 16)) else (0 : Int)).toNat))))))))))))))
          (.done (e221.1.set (0 + e221.2.toNat) (SBinding.mk x222.fInside x222.fPeer x222.fPort (wi64 (p9 + p4)) x222.fOpen))))
        (fun (e237 : (List SBinding)) => Ext.of .normal [(0, .ptr 1000000 0 0), (6, .ptr 6 0 0), (7, .int .i64 0), (12, .ptr 600087 (0 + e221.2.toNat) 0)] [(6, ⟨2, true, [[.str ByteArray.empty, .int .i64 0]]⟩), (1000000, ⟨9, true, [[.int .i64 p2, .int .i64 p3, .int .i64 p4, .bool p5, .str p6, .int .i64 p7, .int .i64 p8, .int .i64 p9, .ref 600087 0 e237.length]]⟩)] [BT.of 600087 tySBindingO6 7 e237 true] (by rfl))
        (fun e237 =>
          .row 15009 tySBindingO6 e237 (0 + e221.2.toNat) true fun x238 =>
          .gh 0 (.ren 600087 660000) (.done (e237, 0, p6, x238.fPort))) else bif v == 3 then .call 11009 (s148 p1) [] [] fun r239 =>
        .cnd 12 [103]
        (.br 12008 (p3 != 1)
          (.row 12011 tySBindingO6 (e221.1.set (0 + e221.2.toNat) (SBinding.mk x222.fInside x222.fPeer x222.fPort (wi64 (p9 + p4)) x222.fOpen)) (0 + e221.2.toNat) true fun x240 =>
            .call 12013 (s88 x240.fOpen r239) [] [] fun r241 =>
            .done (!r241))
          (.done false))
        (fun (c242 : Bool) => [.bool c242]) fun c242 =>
        .bind 0
        (.br 0 c242
          (.rowt 13005 tySBindingO6 (e221.1.set (0 + e221.2.toNat) (SBinding.mk x222.fInside x222.fPeer x222.fPort (wi64 (p9 + p4)) x222.fOpen)) (0 + e221.2.toNat) 6 fun x243 =>
            .re 13005 (ReW.take 600087 7 true tySBindingO6 (e221.1.set (0 + e221.2.toNat) (SBinding.mk x222.fInside x222.fPeer x222.fPort (wi64 (p9 + p4)) x222.fOpen)) (0 + e221.2.toNat) [.str x243.fInside.fHost, .int .i64 x243.fInside.fPort, .str x243.fPeer.fHost, .int .i64 x243.fPeer.fPort, .int .i64 x243.fPort, .int .i64 x243.fUntil, .sl false 2 (List.map tySAddr.c x243.fOpen)] rfl 108 2 tySAddr x243.fOpen (fun _ => rfl) (fun n => .ref 108 0 n)) (.app 13008 tySAddr x243.fOpen [r239] 24 false (by intro h; cases h) (.nst 13011 tySBindingO6 (e221.1.set (0 + e221.2.toNat) (SBinding.mk x222.fInside x222.fPeer x222.fPort (wi64 (p9 + p4)) x222.fOpen)) [.str x243.fInside.fHost, .int .i64 x243.fInside.fPort, .str x243.fPeer.fHost, .int .i64 x243.fPeer.fPort, .int .i64 x243.fPort, .int .i64 x243.fUntil, .sl false 2 (List.map tySAddr.c x243.fOpen)] (0 + e221.2.toNat) 6 (SBinding.mk x243.fInside x243.fPeer x243.fPort x243.fUntil (x243.fOpen ++ [r239])) tySAddr (x243.fOpen ++ [r239]) none (.gh 16 (.len 600087 (((e221.1.set (0 + e221.2.toNat) (SBinding.mk x222.fInside x222.fPeer x222.fPort (wi64 (p9 + p4)) x222.fOpen)).set (0 + e221.2.toNat) (SBinding.mk x243.fInside x243.fPeer x243.fPort x243.fUntil (x243.fOpen ++ [r239]))).length) [(e221.1.set (0 + e221.2.toNat) (SBinding.mk x222.fInside x222.fPeer x222.fPort (wi64 (p9 + p4)) x222.fOpen)).length] (by simp)) (.rowg 16 600087 500090 tySBindingO6 ((e221.1.set (0 + e221.2.toNat) (SBinding.mk x222.fInside x222.fPeer x222.fPort (wi64 (p9 + p4)) x222.fOpen)).set (0 + e221.2.toNat) (SBinding.mk x243.fInside x243.fPeer x243.fPort x243.fUntil (x243.fOpen ++ [r239]))) (0 + e221.2.toNat) 6 2 tySAddr (fun x244 => x244.fOpen) (fun _ => rfl) (fun _ => rfl) fun x244 =>
            .hrow 14005 tySBindingO6 ((e221.1.set (0 + e221.2.toNat) (SBinding.mk x222.fInside x222.fPeer x222.fPort (wi64 (p9 + p4)) x222.fOpen)).set (0 + e221.2.toNat) (SBinding.mk x243.fInside x243.fPeer x243.fPort x243.fUntil (x243.fOpen ++ [r239]))) [.str x244.fInside.fHost, .int .i64 x244.fInside.fPort, .str x244.fPeer.fHost, .int .i64 x244.fPeer.fPort, .int .i64 x244.fPort, .int .i64 x244.fUntil, .ref 500090 0 x244.fOpen.length] (0 + e221.2.toNat) (.hrow 14009 tySBindingO6 ((e221.1.set (0 + e221.2.toNat) (SBinding.mk x222.fInside x222.fPeer x222.fPort (wi64 (p9 + p4)) x222.fOpen)).set (0 + e221.2.toNat) (SBinding.mk x243.fInside x243.fPeer x243.fPort x243.fUntil (x243.fOpen ++ [r239]))) [.str x244.fInside.fHost, .int .i64 x244.fInside.fPort, .str x244.fPeer.fHost, .int .i64 x244.fPeer.fPort, .int .i64 x244.fPort, .int .i64 x244.fUntil, .ref 500090 0 x244.fOpen.length] (0 + e221.2.toNat) (.chk 14013 (decide (0 ≤ (if (wi64 ((x244.fOpen.length : Int) - 16)) > (0 : Int) then (wi64 ((x244.fOpen.length : Int) - 16)) else (0 : Int))) && decide ((if (wi64 ((x244.fOpen.length : Int) - 16)) > (0 : Int) then (wi64 ((x244.fOpen.length : Int) - 16)) else (0 : Int)) ≤ (x244.fOpen.length : Int))) (.nst 14016 tySBindingO6 ((e221.1.set (0 + e221.2.toNat) (SBinding.mk x222.fInside x222.fPeer x222.fPort (wi64 (p9 + p4)) x222.fOpen)).set (0 + e221.2.toNat) (SBinding.mk x243.fInside x243.fPeer x243.fPort x243.fUntil (x243.fOpen ++ [r239]))) [.str x244.fInside.fHost, .int .i64 x244.fInside.fPort, .str x244.fPeer.fHost, .int .i64 x244.fPeer.fPort, .int .i64 x244.fPort, .int .i64 x244.fUntil, .ref 500090 0 x244.fOpen.length] (0 + e221.2.toNat) 6 (SBinding.mk x244.fInside x244.fPeer x244.fPort x244.fUntil (x244.fOpen.drop ((if (wi64 ((x244.fOpen.length : Int) - 16)) > (0 : Int) then (wi64 ((x244.fOpen.length : Int) - 16)) else (0 : Int)).toNat))) tySAddr x244.fOpen (some ((if (wi64 ((x244.fOpen.length : Int) - 16)) > (0 : Int) then (wi64 ((x244.fOpen.length : Int) - 16)) else (0 : Int)).toNat)) (.gh 0 (.len 600087 ((((e221.1.set (0 + e221.2.toNat) (SBinding.mk x222.fInside x222.fPeer x222.fPort (wi64 (p9 + p4)) x222.fOpen)).set (0 + e221.2.toNat) (SBinding.mk x243.fInside x243.fPeer x243.fPort x243.fUntil (x243.fOpen ++ [r239]))).set (0 + e221.2.toNat) (SBinding.mk x244.fInside x244.fPeer x244.fPort x244.fUntil (x244.fOpen.drop ((if (wi64 ((x244.fOpen.length : Int) - 16)) > (0 : Int) then (wi64 ((x244.fOpen.length : Int) - 16)) else (0 : Int)).toNat)))).length) [((e221.1.set (0 + e221.2.toNat) (SBinding.mk x222.fInside x222.fPeer x222.fPort (wi64 (p9 + p4)) x222.fOpen)).set (0 + e221.2.toNat) (SBinding.mk x243.fInside x243.fPeer x243.fPort x243.fUntil (x243.fOpen ++ [r239]))).length] (by simp)) (.done (((e221.1.set (0 + e221.2.toNat) (SBinding.mk x222.fInside x222.fPeer x222.fPort (wi64 (p9 + p4)) x222.fOpen)).set (0 + e221.2.toNat) (SBinding.mk x243.fInside x243.fPeer x243.fPort x243.fUntil (x243.fOpen ++ [r239]))).set (0 + e221.2.toNat) (SBinding.mk x244.fInside x244.fPeer x244.fPort x244.fUntil (x244.fOpen.drop ((if (wi64 ((x244.fOpen.length : Int) - 16)) > (0 : Int) then (wi64 ((x244.fOpen.length : Int) - 16)) else (0 : Int)).toNat))))))))))))))
          (.done (e221.1.set (0 + e221.2.toNat) (SBinding.mk x222.fInside x222.fPeer x222.fPort (wi64 (p9 + p4)) x222.fOpen))))
        (fun (e245 : (List SBinding)) => Ext.of .normal [(0, .ptr 1000000 0 0), (6, .ptr 6 0 0), (7, .int .i64 0), (12, .ptr 600087 (0 + e221.2.toNat) 0)] [(6, ⟨2, true, [[.str ByteArray.empty, .int .i64 0]]⟩), (1000000, ⟨9, true, [[.int .i64 p2, .int .i64 p3, .int .i64 p4, .bool p5, .str p6, .int .i64 p7, .int .i64 p8, .int .i64 p9, .ref 600087 0 e245.length]]⟩)] [BT.of 600087 tySBindingO6 7 e245 true] (by rfl))
        (fun e245 =>
          .row 15009 tySBindingO6 e245 (0 + e221.2.toNat) true fun x246 =>
          .gh 0 (.ren 600087 660000) (.done (e245, 0, p6, x246.fPort))) else .fail))))) else bif v == 3 then .call 1009 (s148 p1) [] [] fun r247 =>
    .view 2003 (s85 (SRouter.mk (SNat.mk p2 p3 p4 p5 p6 p7 p8 p9 p10)) p0 r247) [⟨1000001, _, tySBindingO6, p10⟩] fun r248 =>
    .bind2 0
    (.br 0 (decide (r248 < 0))
      (.view 4004 (s87 (SRouter.mk (SNat.mk p2 p3 p4 p5 p6 p7 p8 p9 p10)) p0.fPort) [⟨1000001, _, tySBindingO6, p10⟩] fun r249 =>
        .br 0 (!r249.isSome)
        (.done (.inl ()))
        (.app 8012 tySBindingO6 p10 [(SBinding.mk p0 r247 (r249.getD 0) 0 [])] 88 false (by intro h; cases h) (.gh 0 (.ren 55 600091) (.done (.inr ((p10 ++ [(SBinding.mk p0 r247 (r249.getD 0) 0 [])]), (p10.length : Int)))))))
      (.gh 0 (.ren 1000001 600091) (.done (.inr (p10, r248)))))
    (fun (e250 : Unit) => Ext.of .ret [(0, .ptr 1000000 0 0), (5, .ptr 5 0 0), (6, .ptr 6 0 0), (7, .int .i64 4), (9, .int .i64 r248)] [(5, ⟨2, true, [[.str p1.fHost, .int .i64 p1.fPort]]⟩), (6, ⟨2, true, [[.str ByteArray.empty, .int .i64 0]]⟩), (1000000, ⟨9, true, [[.int .i64 p2, .int .i64 p3, .int .i64 p4, .bool p5, .str p6, .int .i64 p7, .int .i64 p8, .int .i64 p9, .ref 1000001 0 p10.length]]⟩)] [BT.of 1000001 tySBindingO6 7 p10 true] (by rfl))
    (fun (e251 : (List SBinding) × Int) => Ext.of .normal [(0, .ptr 1000000 0 0), (5, .ptr 5 0 0), (6, .ptr 6 0 0), (7, .int .i64 0), (9, .int .i64 e251.2)] [(5, ⟨2, true, [[.str p1.fHost, .int .i64 p1.fPort]]⟩), (6, ⟨2, true, [[.str ByteArray.empty, .int .i64 0]]⟩), (1000000, ⟨9, true, [[.int .i64 p2, .int .i64 p3, .int .i64 p4, .bool p5, .str p6, .int .i64 p7, .int .i64 p8, .int .i64 p9, .ref 600091 0 e251.1.length]]⟩)] [BT.of 600091 tySBindingO6 7 e251.1 true] (by rfl))
    (fun e250 =>
      .gh 0 (.ren 1000001 660000) (.done (p10, 4, ByteArray.empty, 0)))
    (fun e251 =>
      .chk 9007 (decide (0 ≤ e251.2) && decide (e251.2 < (e251.1.length : Int))) (.row 10015 tySBindingO6 e251.1 (0 + e251.2.toNat) true fun x252 =>
      .re 10015 (ReW.put 600091 7 tySBindingO6 e251.1 (0 + e251.2.toNat) (SBinding.mk x252.fInside x252.fPeer x252.fPort (wi64 (p9 + p4)) x252.fOpen)) (.gh 13 (.len 600091 ((e251.1.set (0 + e251.2.toNat) (SBinding.mk x252.fInside x252.fPeer x252.fPort (wi64 (p9 + p4)) x252.fOpen)).length) [e251.1.length] (by simp)) (.ceq 11006 p3 [0, 1, 2, 3] (fun v => bif v == 0 then .fail else bif v == 1 then .call 11009 (s146 p1) [] [] fun r253 =>
        .cnd 12 [103]
        (.br 12008 (p3 != 1)
          (.row 12011 tySBindingO6 (e251.1.set (0 + e251.2.toNat) (SBinding.mk x252.fInside x252.fPeer x252.fPort (wi64 (p9 + p4)) x252.fOpen)) (0 + e251.2.toNat) true fun x254 =>
            .call 12013 (s88 x254.fOpen r253) [] [] fun r255 =>
            .done (!r255))
          (.done false))
        (fun (c256 : Bool) => [.bool c256]) fun c256 =>
        .bind 0
        (.br 0 c256
          (.rowt 13005 tySBindingO6 (e251.1.set (0 + e251.2.toNat) (SBinding.mk x252.fInside x252.fPeer x252.fPort (wi64 (p9 + p4)) x252.fOpen)) (0 + e251.2.toNat) 6 fun x257 =>
            .re 13005 (ReW.take 600091 7 true tySBindingO6 (e251.1.set (0 + e251.2.toNat) (SBinding.mk x252.fInside x252.fPeer x252.fPort (wi64 (p9 + p4)) x252.fOpen)) (0 + e251.2.toNat) [.str x257.fInside.fHost, .int .i64 x257.fInside.fPort, .str x257.fPeer.fHost, .int .i64 x257.fPeer.fPort, .int .i64 x257.fPort, .int .i64 x257.fUntil, .sl false 2 (List.map tySAddr.c x257.fOpen)] rfl 108 2 tySAddr x257.fOpen (fun _ => rfl) (fun n => .ref 108 0 n)) (.app 13008 tySAddr x257.fOpen [r253] 24 false (by intro h; cases h) (.nst 13011 tySBindingO6 (e251.1.set (0 + e251.2.toNat) (SBinding.mk x252.fInside x252.fPeer x252.fPort (wi64 (p9 + p4)) x252.fOpen)) [.str x257.fInside.fHost, .int .i64 x257.fInside.fPort, .str x257.fPeer.fHost, .int .i64 x257.fPeer.fPort, .int .i64 x257.fPort, .int .i64 x257.fUntil, .sl false 2 (List.map tySAddr.c x257.fOpen)] (0 + e251.2.toNat) 6 (SBinding.mk x257.fInside x257.fPeer x257.fPort x257.fUntil (x257.fOpen ++ [r253])) tySAddr (x257.fOpen ++ [r253]) none (.gh 16 (.len 600091 (((e251.1.set (0 + e251.2.toNat) (SBinding.mk x252.fInside x252.fPeer x252.fPort (wi64 (p9 + p4)) x252.fOpen)).set (0 + e251.2.toNat) (SBinding.mk x257.fInside x257.fPeer x257.fPort x257.fUntil (x257.fOpen ++ [r253]))).length) [(e251.1.set (0 + e251.2.toNat) (SBinding.mk x252.fInside x252.fPeer x252.fPort (wi64 (p9 + p4)) x252.fOpen)).length] (by simp)) (.rowg 16 600091 500092 tySBindingO6 ((e251.1.set (0 + e251.2.toNat) (SBinding.mk x252.fInside x252.fPeer x252.fPort (wi64 (p9 + p4)) x252.fOpen)).set (0 + e251.2.toNat) (SBinding.mk x257.fInside x257.fPeer x257.fPort x257.fUntil (x257.fOpen ++ [r253]))) (0 + e251.2.toNat) 6 2 tySAddr (fun x258 => x258.fOpen) (fun _ => rfl) (fun _ => rfl) fun x258 =>
            .hrow 14005 tySBindingO6 ((e251.1.set (0 + e251.2.toNat) (SBinding.mk x252.fInside x252.fPeer x252.fPort (wi64 (p9 + p4)) x252.fOpen)).set (0 + e251.2.toNat) (SBinding.mk x257.fInside x257.fPeer x257.fPort x257.fUntil (x257.fOpen ++ [r253]))) [.str x258.fInside.fHost, .int .i64 x258.fInside.fPort, .str x258.fPeer.fHost, .int .i64 x258.fPeer.fPort, .int .i64 x258.fPort, .int .i64 x258.fUntil, .ref 500092 0 x258.fOpen.length] (0 + e251.2.toNat) (.hrow 14009 tySBindingO6 ((e251.1.set (0 + e251.2.toNat) (SBinding.mk x252.fInside x252.fPeer x252.fPort (wi64 (p9 + p4)) x252.fOpen)).set (0 + e251.2.toNat) (SBinding.mk x257.fInside x257.fPeer x257.fPort x257.fUntil (x257.fOpen ++ [r253]))) [.str x258.fInside.fHost, .int .i64 x258.fInside.fPort, .str x258.fPeer.fHost, .int .i64 x258.fPeer.fPort, .int .i64 x258.fPort, .int .i64 x258.fUntil, .ref 500092 0 x258.fOpen.length] (0 + e251.2.toNat) (.chk 14013 (decide (0 ≤ (if (wi64 ((x258.fOpen.length : Int) - 16)) > (0 : Int) then (wi64 ((x258.fOpen.length : Int) - 16)) else (0 : Int))) && decide ((if (wi64 ((x258.fOpen.length : Int) - 16)) > (0 : Int) then (wi64 ((x258.fOpen.length : Int) - 16)) else (0 : Int)) ≤ (x258.fOpen.length : Int))) (.nst 14016 tySBindingO6 ((e251.1.set (0 + e251.2.toNat) (SBinding.mk x252.fInside x252.fPeer x252.fPort (wi64 (p9 + p4)) x252.fOpen)).set (0 + e251.2.toNat) (SBinding.mk x257.fInside x257.fPeer x257.fPort x257.fUntil (x257.fOpen ++ [r253]))) [.str x258.fInside.fHost, .int .i64 x258.fInside.fPort, .str x258.fPeer.fHost, .int .i64 x258.fPeer.fPort, .int .i64 x258.fPort, .int .i64 x258.fUntil, .ref 500092 0 x258.fOpen.length] (0 + e251.2.toNat) 6 (SBinding.mk x258.fInside x258.fPeer x258.fPort x258.fUntil (x258.fOpen.drop ((if (wi64 ((x258.fOpen.length : Int) - 16)) > (0 : Int) then (wi64 ((x258.fOpen.length : Int) - 16)) else (0 : Int)).toNat))) tySAddr x258.fOpen (some ((if (wi64 ((x258.fOpen.length : Int) - 16)) > (0 : Int) then (wi64 ((x258.fOpen.length : Int) - 16)) else (0 : Int)).toNat)) (.gh 0 (.len 600091 ((((e251.1.set (0 + e251.2.toNat) (SBinding.mk x252.fInside x252.fPeer x252.fPort (wi64 (p9 + p4)) x252.fOpen)).set (0 + e251.2.toNat) (SBinding.mk x257.fInside x257.fPeer x257.fPort x257.fUntil (x257.fOpen ++ [r253]))).set (0 + e251.2.toNat) (SBinding.mk x258.fInside x258.fPeer x258.fPort x258.fUntil (x258.fOpen.drop ((if (wi64 ((x258.fOpen.length : Int) - 16)) > (0 : Int) then (wi64 ((x258.fOpen.length : Int) - 16)) else (0 : Int)).toNat)))).length) [((e251.1.set (0 + e251.2.toNat) (SBinding.mk x252.fInside x252.fPeer x252.fPort (wi64 (p9 + p4)) x252.fOpen)).set (0 + e251.2.toNat) (SBinding.mk x257.fInside x257.fPeer x257.fPort x257.fUntil (x257.fOpen ++ [r253]))).length] (by simp)) (.done (((e251.1.set (0 + e251.2.toNat) (SBinding.mk x252.fInside x252.fPeer x252.fPort (wi64 (p9 + p4)) x252.fOpen)).set (0 + e251.2.toNat) (SBinding.mk x257.fInside x257.fPeer x257.fPort x257.fUntil (x257.fOpen ++ [r253]))).set (0 + e251.2.toNat) (SBinding.mk x258.fInside x258.fPeer x258.fPort x258.fUntil (x258.fOpen.drop ((if (wi64 ((x258.fOpen.length : Int) - 16)) > (0 : Int) then (wi64 ((x258.fOpen.length : Int) - 16)) else (0 : Int)).toNat))))))))))))))
          (.done (e251.1.set (0 + e251.2.toNat) (SBinding.mk x252.fInside x252.fPeer x252.fPort (wi64 (p9 + p4)) x252.fOpen))))
        (fun (e259 : (List SBinding)) => Ext.of .normal [(0, .ptr 1000000 0 0), (6, .ptr 6 0 0), (7, .int .i64 0), (12, .ptr 600091 (0 + e251.2.toNat) 0)] [(6, ⟨2, true, [[.str ByteArray.empty, .int .i64 0]]⟩), (1000000, ⟨9, true, [[.int .i64 p2, .int .i64 p3, .int .i64 p4, .bool p5, .str p6, .int .i64 p7, .int .i64 p8, .int .i64 p9, .ref 600091 0 e259.length]]⟩)] [BT.of 600091 tySBindingO6 7 e259 true] (by rfl))
        (fun e259 =>
          .row 15009 tySBindingO6 e259 (0 + e251.2.toNat) true fun x260 =>
          .gh 0 (.ren 600091 660000) (.done (e259, 0, p6, x260.fPort))) else bif v == 2 then .call 11009 (s147 p1) [] [] fun r261 =>
        .cnd 12 [103]
        (.br 12008 (p3 != 1)
          (.row 12011 tySBindingO6 (e251.1.set (0 + e251.2.toNat) (SBinding.mk x252.fInside x252.fPeer x252.fPort (wi64 (p9 + p4)) x252.fOpen)) (0 + e251.2.toNat) true fun x262 =>
            .call 12013 (s88 x262.fOpen r261) [] [] fun r263 =>
            .done (!r263))
          (.done false))
        (fun (c264 : Bool) => [.bool c264]) fun c264 =>
        .bind 0
        (.br 0 c264
          (.rowt 13005 tySBindingO6 (e251.1.set (0 + e251.2.toNat) (SBinding.mk x252.fInside x252.fPeer x252.fPort (wi64 (p9 + p4)) x252.fOpen)) (0 + e251.2.toNat) 6 fun x265 =>
            .re 13005 (ReW.take 600091 7 true tySBindingO6 (e251.1.set (0 + e251.2.toNat) (SBinding.mk x252.fInside x252.fPeer x252.fPort (wi64 (p9 + p4)) x252.fOpen)) (0 + e251.2.toNat) [.str x265.fInside.fHost, .int .i64 x265.fInside.fPort, .str x265.fPeer.fHost, .int .i64 x265.fPeer.fPort, .int .i64 x265.fPort, .int .i64 x265.fUntil, .sl false 2 (List.map tySAddr.c x265.fOpen)] rfl 108 2 tySAddr x265.fOpen (fun _ => rfl) (fun n => .ref 108 0 n)) (.app 13008 tySAddr x265.fOpen [r261] 24 false (by intro h; cases h) (.nst 13011 tySBindingO6 (e251.1.set (0 + e251.2.toNat) (SBinding.mk x252.fInside x252.fPeer x252.fPort (wi64 (p9 + p4)) x252.fOpen)) [.str x265.fInside.fHost, .int .i64 x265.fInside.fPort, .str x265.fPeer.fHost, .int .i64 x265.fPeer.fPort, .int .i64 x265.fPort, .int .i64 x265.fUntil, .sl false 2 (List.map tySAddr.c x265.fOpen)] (0 + e251.2.toNat) 6 (SBinding.mk x265.fInside x265.fPeer x265.fPort x265.fUntil (x265.fOpen ++ [r261])) tySAddr (x265.fOpen ++ [r261]) none (.gh 16 (.len 600091 (((e251.1.set (0 + e251.2.toNat) (SBinding.mk x252.fInside x252.fPeer x252.fPort (wi64 (p9 + p4)) x252.fOpen)).set (0 + e251.2.toNat) (SBinding.mk x265.fInside x265.fPeer x265.fPort x265.fUntil (x265.fOpen ++ [r261]))).length) [(e251.1.set (0 + e251.2.toNat) (SBinding.mk x252.fInside x252.fPeer x252.fPort (wi64 (p9 + p4)) x252.fOpen)).length] (by simp)) (.rowg 16 600091 500093 tySBindingO6 ((e251.1.set (0 + e251.2.toNat) (SBinding.mk x252.fInside x252.fPeer x252.fPort (wi64 (p9 + p4)) x252.fOpen)).set (0 + e251.2.toNat) (SBinding.mk x265.fInside x265.fPeer x265.fPort x265.fUntil (x265.fOpen ++ [r261]))) (0 + e251.2.toNat) 6 2 tySAddr (fun x266 => x266.fOpen) (fun _ => rfl) (fun _ => rfl) fun x266 =>
            .hrow 14005 tySBindingO6 ((e251.1.set (0 + e251.2.toNat) (SBinding.mk x252.fInside x252.fPeer x252.fPort (wi64 (p9 + p4)) x252.fOpen)).set (0 + e251.2.toNat) (SBinding.mk x265.fInside x265.fPeer x265.fPort x265.fUntil (x265.fOpen ++ [r261]))) [.str x266.fInside.fHost, .int .i64 x266.fInside.fPort, .str x266.fPeer.fHost, .int .i64 x266.fPeer.fPort, .int .i64 x266.fPort, .int .i64 x266.fUntil, .ref 500093 0 x266.fOpen.length] (0 + e251.2.toNat) (.hrow 14009 tySBindingO6 ((e251.1.set (0 + e251.2.toNat) (SBinding.mk x252.fInside x252.fPeer x252.fPort (wi64 (p9 + p4)) x252.fOpen)).set (0 + e251.2.toNat) (SBinding.mk x265.fInside x265.fPeer x265.fPort x265.fUntil (x265.fOpen ++ [r261]))) [.str x266.fInside.fHost, .int .i64 x266.fInside.fPort, .str x266.fPeer.fHost, .int .i64 x266.fPeer.fPort, .int .i64 x266.fPort, .int .i64 x266.fUntil, .ref 500093 0 x266.fOpen.length] (0 + e251.2.toNat) (.chk 14013 (decide (0 ≤ (if (wi64 ((x266.fOpen.length : Int) - 16)) > (0 : Int) then (wi64 ((x266.fOpen.length : Int) - 16)) else (0 : Int))) && decide ((if (wi64 ((x266.fOpen.length : Int) - 16)) > (0 : Int) then (wi64 ((x266.fOpen.length : Int) - 16)) else (0 : Int)) ≤ (x266.fOpen.length : Int))) (.nst 14016 tySBindingO6 ((e251.1.set (0 + e251.2.toNat) (SBinding.mk x252.fInside x252.fPeer x252.fPort (wi64 (p9 + p4)) x252.fOpen)).set (0 + e251.2.toNat) (SBinding.mk x265.fInside x265.fPeer x265.fPort x265.fUntil (x265.fOpen ++ [r261]))) [.str x266.fInside.fHost, .int .i64 x266.fInside.fPort, .str x266.fPeer.fHost, .int .i64 x266.fPeer.fPort, .int .i64 x266.fPort, .int .i64 x266.fUntil, .ref 500093 0 x266.fOpen.length] (0 + e251.2.toNat) 6 (SBinding.mk x266.fInside x266.fPeer x266.fPort x266.fUntil (x266.fOpen.drop ((if (wi64 ((x266.fOpen.length : Int) - 16)) > (0 : Int) then (wi64 ((x266.fOpen.length : Int) - 16)) else (0 : Int)).toNat))) tySAddr x266.fOpen (some ((if (wi64 ((x266.fOpen.length : Int) - 16)) > (0 : Int) then (wi64 ((x266.fOpen.length : Int) - 16)) else (0 : Int)).toNat)) (.gh 0 (.len 600091 ((((e251.1.set (0 + e251.2.toNat) (SBinding.mk x252.fInside x252.fPeer x252.fPort (wi64 (p9 + p4)) x252.fOpen)).set (0 + e251.2.toNat) (SBinding.mk x265.fInside x265.fPeer x265.fPort x265.fUntil (x265.fOpen ++ [r261]))).set (0 + e251.2.toNat) (SBinding.mk x266.fInside x266.fPeer x266.fPort x266.fUntil (x266.fOpen.drop ((if (wi64 ((x266.fOpen.length : Int) - 16)) > (0 : Int) then (wi64 ((x266.fOpen.length : Int) - 16)) else (0 : Int)).toNat)))).length) [((e251.1.set (0 + e251.2.toNat) (SBinding.mk x252.fInside x252.fPeer x252.fPort (wi64 (p9 + p4)) x252.fOpen)).set (0 + e251.2.toNat) (SBinding.mk x265.fInside x265.fPeer x265.fPort x265.fUntil (x265.fOpen ++ [r261]))).length] (by simp)) (.done (((e251.1.set (0 + e251.2.toNat) (SBinding.mk x252.fInside x252.fPeer x252.fPort (wi64 (p9 + p4)) x252.fOpen)).set (0 + e251.2.toNat) (SBinding.mk x265.fInside x265.fPeer x265.fPort x265.fUntil (x265.fOpen ++ [r261]))).set (0 + e251.2.toNat) (SBinding.mk x266.fInside x266.fPeer x266.fPort x266.fUntil (x266.fOpen.drop ((if (wi64 ((x266.fOpen.length : Int) - 16)) > (0 : Int) then (wi64 ((x266.fOpen.length : Int) - 16)) else (0 : Int)).toNat))))))))))))))
          (.done (e251.1.set (0 + e251.2.toNat) (SBinding.mk x252.fInside x252.fPeer x252.fPort (wi64 (p9 + p4)) x252.fOpen))))
        (fun (e267 : (List SBinding)) => Ext.of .normal [(0, .ptr 1000000 0 0), (6, .ptr 6 0 0), (7, .int .i64 0), (12, .ptr 600091 (0 + e251.2.toNat) 0)] [(6, ⟨2, true, [[.str ByteArray.empty, .int .i64 0]]⟩), (1000000, ⟨9, true, [[.int .i64 p2, .int .i64 p3, .int .i64 p4, .bool p5, .str p6, .int .i64 p7, .int .i64 p8, .int .i64 p9, .ref 600091 0 e267.length]]⟩)] [BT.of 600091 tySBindingO6 7 e267 true] (by rfl))
        (fun e267 =>
          .row 15009 tySBindingO6 e267 (0 + e251.2.toNat) true fun x268 =>
          .gh 0 (.ren 600091 660000) (.done (e267, 0, p6, x268.fPort))) else bif v == 3 then .call 11009 (s148 p1) [] [] fun r269 =>
        .cnd 12 [103]
        (.br 12008 (p3 != 1)
          (.row 12011 tySBindingO6 (e251.1.set (0 + e251.2.toNat) (SBinding.mk x252.fInside x252.fPeer x252.fPort (wi64 (p9 + p4)) x252.fOpen)) (0 + e251.2.toNat) true fun x270 =>
            .call 12013 (s88 x270.fOpen r269) [] [] fun r271 =>
            .done (!r271))
          (.done false))
        (fun (c272 : Bool) => [.bool c272]) fun c272 =>
        .bind 0
        (.br 0 c272
          (.rowt 13005 tySBindingO6 (e251.1.set (0 + e251.2.toNat) (SBinding.mk x252.fInside x252.fPeer x252.fPort (wi64 (p9 + p4)) x252.fOpen)) (0 + e251.2.toNat) 6 fun x273 =>
            .re 13005 (ReW.take 600091 7 true tySBindingO6 (e251.1.set (0 + e251.2.toNat) (SBinding.mk x252.fInside x252.fPeer x252.fPort (wi64 (p9 + p4)) x252.fOpen)) (0 + e251.2.toNat) [.str x273.fInside.fHost, .int .i64 x273.fInside.fPort, .str x273.fPeer.fHost, .int .i64 x273.fPeer.fPort, .int .i64 x273.fPort, .int .i64 x273.fUntil, .sl false 2 (List.map tySAddr.c x273.fOpen)] rfl 108 2 tySAddr x273.fOpen (fun _ => rfl) (fun n => .ref 108 0 n)) (.app 13008 tySAddr x273.fOpen [r269] 24 false (by intro h; cases h) (.nst 13011 tySBindingO6 (e251.1.set (0 + e251.2.toNat) (SBinding.mk x252.fInside x252.fPeer x252.fPort (wi64 (p9 + p4)) x252.fOpen)) [.str x273.fInside.fHost, .int .i64 x273.fInside.fPort, .str x273.fPeer.fHost, .int .i64 x273.fPeer.fPort, .int .i64 x273.fPort, .int .i64 x273.fUntil, .sl false 2 (List.map tySAddr.c x273.fOpen)] (0 + e251.2.toNat) 6 (SBinding.mk x273.fInside x273.fPeer x273.fPort x273.fUntil (x273.fOpen ++ [r269])) tySAddr (x273.fOpen ++ [r269]) none (.gh 16 (.len 600091 (((e251.1.set (0 + e251.2.toNat) (SBinding.mk x252.fInside x252.fPeer x252.fPort (wi64 (p9 + p4)) x252.fOpen)).set (0 + e251.2.toNat) (SBinding.mk x273.fInside x273.fPeer x273.fPort x273.fUntil (x273.fOpen ++ [r269]))).length) [(e251.1.set (0 + e251.2.toNat) (SBinding.mk x252.fInside x252.fPeer x252.fPort (wi64 (p9 + p4)) x252.fOpen)).length] (by simp)) (.rowg 16 600091 500094 tySBindingO6 ((e251.1.set (0 + e251.2.toNat) (SBinding.mk x252.fInside x252.fPeer x252.fPort (wi64 (p9 + p4)) x252.fOpen)).set (0 + e251.2.toNat) (SBinding.mk x273.fInside x273.fPeer x273.fPort x273.fUntil (x273.fOpen ++ [r269]))) (0 + e251.2.toNat) 6 2 tySAddr (fun x274 => x274.fOpen) (fun _ => rfl) (fun _ => rfl) fun x274 =>
            .hrow 14005 tySBindingO6 ((e251.1.set (0 + e251.2.toNat) (SBinding.mk x252.fInside x252.fPeer x252.fPort (wi64 (p9 + p4)) x252.fOpen)).set (0 + e251.2.toNat) (SBinding.mk x273.fInside x273.fPeer x273.fPort x273.fUntil (x273.fOpen ++ [r269]))) [.str x274.fInside.fHost, .int .i64 x274.fInside.fPort, .str x274.fPeer.fHost, .int .i64 x274.fPeer.fPort, .int .i64 x274.fPort, .int .i64 x274.fUntil, .ref 500094 0 x274.fOpen.length] (0 + e251.2.toNat) (.hrow 14009 tySBindingO6 ((e251.1.set (0 + e251.2.toNat) (SBinding.mk x252.fInside x252.fPeer x252.fPort (wi64 (p9 + p4)) x252.fOpen)).set (0 + e251.2.toNat) (SBinding.mk x273.fInside x273.fPeer x273.fPort x273.fUntil (x273.fOpen ++ [r269]))) [.str x274.fInside.fHost, .int .i64 x274.fInside.fPort, .str x274.fPeer.fHost, .int .i64 x274.fPeer.fPort, .int .i64 x274.fPort, .int .i64 x274.fUntil, .ref 500094 0 x274.fOpen.length] (0 + e251.2.toNat) (.chk 14013 (decide (0 ≤ (if (wi64 ((x274.fOpen.length : Int) - 16)) > (0 : Int) then (wi64 ((x274.fOpen.length : Int) - 16)) else (0 : Int))) && decide ((if (wi64 ((x274.fOpen.length : Int) - 16)) > (0 : Int) then (wi64 ((x274.fOpen.length : Int) - 16)) else (0 : Int)) ≤ (x274.fOpen.length : Int))) (.nst 14016 tySBindingO6 ((e251.1.set (0 + e251.2.toNat) (SBinding.mk x252.fInside x252.fPeer x252.fPort (wi64 (p9 + p4)) x252.fOpen)).set (0 + e251.2.toNat) (SBinding.mk x273.fInside x273.fPeer x273.fPort x273.fUntil (x273.fOpen ++ [r269]))) [.str x274.fInside.fHost, .int .i64 x274.fInside.fPort, .str x274.fPeer.fHost, .int .i64 x274.fPeer.fPort, .int .i64 x274.fPort, .int .i64 x274.fUntil, .ref 500094 0 x274.fOpen.length] (0 + e251.2.toNat) 6 (SBinding.mk x274.fInside x274.fPeer x274.fPort x274.fUntil (x274.fOpen.drop ((if (wi64 ((x274.fOpen.length : Int) - 16)) > (0 : Int) then (wi64 ((x274.fOpen.length : Int) - 16)) else (0 : Int)).toNat))) tySAddr x274.fOpen (some ((if (wi64 ((x274.fOpen.length : Int) - 16)) > (0 : Int) then (wi64 ((x274.fOpen.length : Int) - 16)) else (0 : Int)).toNat)) (.gh 0 (.len 600091 ((((e251.1.set (0 + e251.2.toNat) (SBinding.mk x252.fInside x252.fPeer x252.fPort (wi64 (p9 + p4)) x252.fOpen)).set (0 + e251.2.toNat) (SBinding.mk x273.fInside x273.fPeer x273.fPort x273.fUntil (x273.fOpen ++ [r269]))).set (0 + e251.2.toNat) (SBinding.mk x274.fInside x274.fPeer x274.fPort x274.fUntil (x274.fOpen.drop ((if (wi64 ((x274.fOpen.length : Int) - 16)) > (0 : Int) then (wi64 ((x274.fOpen.length : Int) - 16)) else (0 : Int)).toNat)))).length) [((e251.1.set (0 + e251.2.toNat) (SBinding.mk x252.fInside x252.fPeer x252.fPort (wi64 (p9 + p4)) x252.fOpen)).set (0 + e251.2.toNat) (SBinding.mk x273.fInside x273.fPeer x273.fPort x273.fUntil (x273.fOpen ++ [r269]))).length] (by simp)) (.done (((e251.1.set (0 + e251.2.toNat) (SBinding.mk x252.fInside x252.fPeer x252.fPort (wi64 (p9 + p4)) x252.fOpen)).set (0 + e251.2.toNat) (SBinding.mk x273.fInside x273.fPeer x273.fPort x273.fUntil (x273.fOpen ++ [r269]))).set (0 + e251.2.toNat) (SBinding.mk x274.fInside x274.fPeer x274.fPort x274.fUntil (x274.fOpen.drop ((if (wi64 ((x274.fOpen.length : Int) - 16)) > (0 : Int) then (wi64 ((x274.fOpen.length : Int) - 16)) else (0 : Int)).toNat))))))))))))))
          (.done (e251.1.set (0 + e251.2.toNat) (SBinding.mk x252.fInside x252.fPeer x252.fPort (wi64 (p9 + p4)) x252.fOpen))))
        (fun (e275 : (List SBinding)) => Ext.of .normal [(0, .ptr 1000000 0 0), (6, .ptr 6 0 0), (7, .int .i64 0), (12, .ptr 600091 (0 + e251.2.toNat) 0)] [(6, ⟨2, true, [[.str ByteArray.empty, .int .i64 0]]⟩), (1000000, ⟨9, true, [[.int .i64 p2, .int .i64 p3, .int .i64 p4, .bool p5, .str p6, .int .i64 p7, .int .i64 p8, .int .i64 p9, .ref 600091 0 e275.length]]⟩)] [BT.of 600091 tySBindingO6 7 e275 true] (by rfl))
        (fun e275 =>
          .row 15009 tySBindingO6 e275 (0 + e251.2.toNat) true fun x276 =>
          .gh 0 (.ren 600091 660000) (.done (e275, 0, p6, x276.fPort))) else .fail))))) else .fail)
theorem k58_1 (p0 : SAddr) (p1 : SAddr) (p2 : Int) (p3 : Int) (p4 : Int) (p5 : Bool) (p6 : ByteArray) (p7 : Int) (p8 : Int) (p9 : Int) (p10 : (List SBinding)) : FnB Tryd.prog GG [0, 1, 2, 4, 5, 6, 7, 8, 9, 10, 11, 12, 13, 27, 36, 103] Tryd.f58 [.ptr 1000000 0 0, .agg [.str p0.fHost, .int .i64 p0.fPort], .agg [.str p1.fHost, .int .i64 p1.fPort]] (Ext.of .normal (argTs [.ptr 1000000 0 0, .agg [.str p0.fHost, .int .i64 p0.fPort], .agg [.str p1.fHost, .int .i64 p1.fPort]]) [(1000000, ⟨9, true, [[.int .i64 p2, .int .i64 p3, .int .i64 p4, .bool p5, .str p6, .int .i64 p7, .int .i64 p8, .int .i64 p9, .ref 1000001 0 p10.length]]⟩)] [BT.of 1000001 tySBindingO6 7 p10 true] (by rfl)) (g58_1 p0 p1 p2 p3 p4 p5 p6 p7 p8 p9 p10) (fun (r : (List SBinding) × Int × ByteArray × Int) => .tup [.agg [.str r.2.2.1, .int .i64 r.2.2.2], .int .i64 r.2.1]) (fun (r : (List SBinding) × Int × ByteArray × Int) => Ext.of .normal [] [(1000000, ⟨9, true, [[.int .i64 p2, .int .i64 p3, .int .i64 p4, .bool p5, .str p6, .int .i64 p7, .int .i64 p8, .int .i64 p9, .ref 660000 0 r.1.length]]⟩)] [BT.of 660000 tySBindingO6 7 r.1 true] (by rfl)) := by unfold FnB; kernel_rfl
noncomputable def s58_1 (p0 : SAddr) (p1 : SAddr) (p2 : Int) (p3 : Int) (p4 : Int) (p5 : Bool) (p6 : ByteArray) (p7 : Int) (p8 : Int) (p9 : Int) (p10 : (List SBinding)) : EV.Spec Tryd.prog GG ((List SBinding) × Int × ByteArray × Int) := .ofFnB 58 [660000] mixed Tryd.func58 rfl (fun _ => rfl) (k58_1 p0 p1 p2 p3 p4 p5 p6 p7 p8 p9 p10)

/-- tannoy nat.Out -/
noncomputable def g25 (p0 : SNat) (p1 : Int) (p2 : SAddr) (p3 : SAddr) : TT (SNat × SAddr × Int) :=
  .call2 1006 (s56_1 p0 p1 [p2, p3]) [(1000000, 19)] [(15, 500079), (600074, 500080)] (fun r137 =>
    .cnd 2 [31]
    (.br 2004 (r137 == 0)
      (.done (decide (p2.fHost = p0.fHost)))
      (.done false))
    (fun (c138 : Bool) => [.bool c138]) fun c138 =>
    .bind 0
    (.br 0 c138
      (.done 2)
      (.done r137))
    (fun (e139 : Int) => Ext.lit .normal [(6, .ptr 6 0 0), (7, .ptr 7 0 0), (8, .ptr 8 0 0), (9, .ptr 9 0 0), (10, .int .i64 0), (11, .nilp), (12, .int .i64 e139)] [(6, ⟨2, true, [[.str p2.fHost, .int .i64 p2.fPort]]⟩), (7, ⟨2, true, [[.str p3.fHost, .int .i64 p3.fPort]]⟩), (8, ⟨9, true, [[.int .i64 0, .int .i64 0, .int .i64 0, .bool false, .str ByteArray.empty, .int .i64 0, .int .i64 0, .int .i64 0, .nilsl]]⟩), (9, ⟨2, true, [[.str ByteArray.empty, .int .i64 0]]⟩)])
    (fun e139 =>
      .br 0 (e139 != 0)
      (.done ((SNat.mk 0 0 0 false ByteArray.empty 0 0 0 []), (SAddr.mk ByteArray.empty 0), e139))
      (.call 6004 (s58 p2 p3) [] [] fun r140 =>
        .br 0 (r140.2 != 0)
        (.done ((SNat.mk 0 0 0 false ByteArray.empty 0 0 0 []), (SAddr.mk ByteArray.empty 0), r140.2))
        (.fail))))
  (fun r141 =>
    .bind 0
    (.br 0 (decide (p2.fHost = p0.fHost))
      (.done 2)
      (.done 0))
    (fun (e142 : Int) => Ext.of .normal [(6, .ptr 6 0 0), (7, .ptr 7 0 0), (8, .ptr 8 0 0), (9, .ptr 9 0 0), (10, .int .i64 0), (11, .ptr 500079 0 0), (12, .int .i64 e142)] [(6, ⟨2, true, [[.str p2.fHost, .int .i64 p2.fPort]]⟩), (7, ⟨2, true, [[.str p3.fHost, .int .i64 p3.fPort]]⟩), (8, ⟨9, true, [[.int .i64 0, .int .i64 0, .int .i64 0, .bool false, .str ByteArray.empty, .int .i64 0, .int .i64 0, .int .i64 0, .nilsl]]⟩), (9, ⟨2, true, [[.str ByteArray.empty, .int .i64 0]]⟩), (500079, ⟨9, true, [[.int .i64 p0.fMapping, .int .i64 p0.fFilter, .int .i64 p0.fTimeout, .bool p0.fHairpin, .str p0.fHost, .int .i64 p0.fLow, .int .i64 p0.fHigh, .int .i64 p1, .ref 500080 0 r141.length]]⟩)] [BT.of 500080 tySBindingO6 7 r141 true] (by rfl))
    (fun e142 =>
      .br 0 (e142 != 0)
      (.done ((SNat.mk 0 0 0 false ByteArray.empty 0 0 0 []), (SAddr.mk ByteArray.empty 0), e142))
      (.call 6004 (s58_1 p2 p3 p0.fMapping p0.fFilter p0.fTimeout p0.fHairpin p0.fHost p0.fLow p0.fHigh p1 r141) [(1000000, 500079), (1000001, 500080)] [(660000, 500095)] fun r277 =>
        .br 0 (r277.2.1 != 0)
        (.done ((SNat.mk 0 0 0 false ByteArray.empty 0 0 0 []), (SAddr.mk ByteArray.empty 0), r277.2.1))
        (.gh 0 (.share [⟨500095, _, tySBindingO6, r277.1⟩, ⟨500095, _, tySBindingO6, r277.1⟩]) (.done ((SNat.mk p0.fMapping p0.fFilter p0.fTimeout p0.fHairpin p0.fHost p0.fLow p0.fHigh p1 r277.1), (SAddr.mk r277.2.2.1 r277.2.2.2), 0))))))
theorem k25 (p0 : SNat) (p1 : Int) (p2 : SAddr) (p3 : SAddr) : FnD Tryd.prog GG [0, 1, 2, 3, 4, 6, 7, 8, 9, 10, 11, 12, 13, 31, 33, 45] Tryd.f25 [.agg [.int .i64 p0.fMapping, .int .i64 p0.fFilter, .int .i64 p0.fTimeout, .bool p0.fHairpin, .str p0.fHost, .int .i64 p0.fLow, .int .i64 p0.fHigh, .int .i64 p0.fNow, .sl false 7 (List.map tySBinding.c p0.fTable)], .int .i64 p1, .agg [.str p2.fHost, .int .i64 p2.fPort], .agg [.str p3.fHost, .int .i64 p3.fPort]] (g25 p0 p1 p2 p3) (fun r => .tup [.agg [.int .i64 r.1.fMapping, .int .i64 r.1.fFilter, .int .i64 r.1.fTimeout, .bool r.1.fHairpin, .str r.1.fHost, .int .i64 r.1.fLow, .int .i64 r.1.fHigh, .int .i64 r.1.fNow, .sl false 7 (List.map tySBinding.c r.1.fTable)], .agg [.str r.2.1.fHost, .int .i64 r.2.1.fPort], .int .i64 r.2.2]) := by unfold FnD; kernel_rfl
noncomputable def s25 (p0 : SNat) (p1 : Int) (p2 : SAddr) (p3 : SAddr) : EV.Spec Tryd.prog GG (SNat × SAddr × Int) := .ofFn 25 mixed Tryd.func25 (k25 p0 p1 p2 p3)

/-- (*tannoy nat.router).find -/
noncomputable def g85_1 (p0 : SAddr) : TT (Int) :=
  .fail
theorem k85_1 (p0 : SAddr) : FnD Tryd.prog GG [0, 1, 4] Tryd.f85 [.nilp, .fn 90 [] [.snap [.str p0.fHost, .int .i64 p0.fPort]]] (g85_1 p0) (fun r => .int .i64 r) := by unfold FnD; kernel_rfl
noncomputable def s85_1 (p0 : SAddr) : EV.Spec Tryd.prog GG (Int) := .ofFn 85 mixed Tryd.func85 (k85_1 p0)

/-- (*tannoy nat.router).in -/
noncomputable def g62 (p0 : SAddr) (p1 : SAddr) : TT (SAddr × Int) :=
  .view 1003 (s85_1 p1) [] fun r281 =>
  .br 2004 (decide (r281 < 0))
  (.tt (.done ((SAddr.mk ByteArray.empty 0), 4)))
  (.fail)
theorem k62 (p0 : SAddr) (p1 : SAddr) : FnD Tryd.prog GG [0, 1, 2, 4, 5, 6, 7, 8, 43] Tryd.f62 [.nilp, .agg [.str p0.fHost, .int .i64 p0.fPort], .agg [.str p1.fHost, .int .i64 p1.fPort]] (g62 p0 p1) (fun r => .tup [.agg [.str r.1.fHost, .int .i64 r.1.fPort], .int .i64 r.2]) := by unfold FnD; kernel_rfl
noncomputable def s62 (p0 : SAddr) (p1 : SAddr) : EV.Spec Tryd.prog GG (SAddr × Int) := .ofFn 62 mixed Tryd.func62 (k62 p0 p1)

/-- (*tannoy nat.router).in 1 -/
noncomputable def g90 (p0 : SBinding) (p1 : SAddr) : TT (Bool) :=
  .done (p0.fPort == p1.fPort)
theorem k90 (p0 : SBinding) (p1 : SAddr) : FnD Tryd.prog GG [0, 1, 2, 3] Tryd.f90 [.agg [.str p0.fInside.fHost, .int .i64 p0.fInside.fPort, .str p0.fPeer.fHost, .int .i64 p0.fPeer.fPort, .int .i64 p0.fPort, .int .i64 p0.fUntil, .sl false 2 (List.map tySAddr.c p0.fOpen)], .snap [.str p1.fHost, .int .i64 p1.fPort]] (g90 p0 p1) (fun r => .bool r) := by unfold FnD; kernel_rfl
noncomputable def s90 (p0 : SBinding) (p1 : SAddr) : EV.Spec Tryd.prog GG (Bool) := .ofFn 90 mixed Tryd.func90 (k90 p0 p1)

/-- slices.IndexFunc   tannoy api.Binding tannoy api.Binding  -/
noncomputable def g115_2 (p0 : (List SBinding)) (p1 : SAddr) : TT (Int) :=
  .bind2 1
  (.lp (fun (l288 : Int) => Ext.lit .normal [(0, .sl false 7 (List.map tySBinding.c p0)), (1, .fn 90 [] [.snap [.str p1.fHost, .int .i64 p1.fPort]]), (4, .int .i64 0), (7, .int .i64 (mlen tySBinding p0)), (8, .int .i64 l288)] [])
    (fun l288 =>
      .br 0 (decide (l288 < (mlen tySBinding p0)))
      (.row 4004 tySBinding p0 l288.toNat (decide (0 ≤ l288)) fun x289 =>
        .call 4006 (s90 x289 p1) [] [] fun r290 =>
        .br 0 r290
        (.done (.inr (.inl l288)))
        (.done (.inl (wi64 (l288 + 1)))))
      (.done (.inr (.inr ()))))
    0)
  (fun (e291 : Int) => Ext.lit .ret [(4, .int .i64 e291)] [])
  (fun (e292 : Unit) => Ext.lit (.exit 0) [(4, .int .i64 0)] [])
  (fun e291 =>
    .done e291)
  (fun e292 =>
    .done (-1))
theorem k115_2 (p0 : (List SBinding)) (p1 : SAddr) : FnD Tryd.prog GG [0, 1, 4, 5, 7, 8, 9, 16] Tryd.f115 [.sl false 7 (List.map tySBinding.c p0), .fn 90 [] [.snap [.str p1.fHost, .int .i64 p1.fPort]]] (g115_2 p0 p1) (fun r => .int .i64 r) := by unfold FnD; kernel_rfl
noncomputable def s115_2 (p0 : (List SBinding)) (p1 : SAddr) : EV.Spec Tryd.prog GG (Int) := .ofFn 115 mixed Tryd.func115 (k115_2 p0 p1)

/-- (*tannoy nat.router).find -/
noncomputable def g85_2 (p0 : SRouter) (p1 : SAddr) : TT (Int) :=
  .call 1007 (s115_2 p0.fNat.fTable p1) [] [] fun r293 =>
  .done r293
theorem k85_2 (p0 : SRouter) (p1 : SAddr) : FnD Tryd.prog GG [0, 1, 4] Tryd.f85 [.snap [.int .i64 p0.fNat.fMapping, .int .i64 p0.fNat.fFilter, .int .i64 p0.fNat.fTimeout, .bool p0.fNat.fHairpin, .str p0.fNat.fHost, .int .i64 p0.fNat.fLow, .int .i64 p0.fNat.fHigh, .int .i64 p0.fNat.fNow, .sl false 7 (List.map tySBinding.c p0.fNat.fTable)], .fn 90 [] [.snap [.str p1.fHost, .int .i64 p1.fPort]]] (g85_2 p0 p1) (fun r => .int .i64 r) := by unfold FnD; kernel_rfl
noncomputable def s85_2 (p0 : SRouter) (p1 : SAddr) : EV.Spec Tryd.prog GG (Int) := .ofFn 85 mixed Tryd.func85 (k85_2 p0 p1)

/-- (*tannoy nat.router).in -/
noncomputable def g62_1 (p0 : SRouter) (p1 : SAddr) (p2 : SAddr) : TT (SAddr × Int) :=
  .view 1003 (s85_2 p0 p2) [] fun r294 =>
  .cnd 2 [43]
  (.br 2004 (decide (r294 < 0))
    (.done true)
    (.br 2011 (p0.fNat.fFilter != 1)
      (.row 2017 tySBinding p0.fNat.fTable r294.toNat (decide (0 ≤ r294)) fun x295 =>
        .ceq 2025 p0.fNat.fFilter [0, 1, 2, 3] (fun v => bif v == 0 then .fail else bif v == 1 then .call 2028 (s146 p1) [] [] fun r296 =>
          .call 2029 (s88 x295.fOpen r296) [] [] fun r297 =>
          .done (!r297) else bif v == 2 then .call 2028 (s147 p1) [] [] fun r298 =>
          .call 2029 (s88 x295.fOpen r298) [] [] fun r299 =>
          .done (!r299) else bif v == 3 then .call 2028 (s148 p1) [] [] fun r300 =>
          .call 2029 (s88 x295.fOpen r300) [] [] fun r301 =>
          .done (!r301) else .fail))
      (.done false)))
  (fun (c302 : Bool) => [.bool c302]) fun c302 =>
  .br 0 c302
  (.done ((SAddr.mk ByteArray.empty 0), 4))
  (.row 4007 tySBinding p0.fNat.fTable r294.toNat (decide (0 ≤ r294)) fun x303 =>
    .done (x303.fInside, 0))
theorem k62_1 (p0 : SRouter) (p1 : SAddr) (p2 : SAddr) : FnD Tryd.prog GG [0, 1, 2, 4, 5, 6, 7, 8, 43] Tryd.f62 [.snap [.int .i64 p0.fNat.fMapping, .int .i64 p0.fNat.fFilter, .int .i64 p0.fNat.fTimeout, .bool p0.fNat.fHairpin, .str p0.fNat.fHost, .int .i64 p0.fNat.fLow, .int .i64 p0.fNat.fHigh, .int .i64 p0.fNat.fNow, .sl false 7 (List.map tySBinding.c p0.fNat.fTable)], .agg [.str p1.fHost, .int .i64 p1.fPort], .agg [.str p2.fHost, .int .i64 p2.fPort]] (g62_1 p0 p1 p2) (fun r => .tup [.agg [.str r.1.fHost, .int .i64 r.1.fPort], .int .i64 r.2]) := by unfold FnD; kernel_rfl
noncomputable def s62_1 (p0 : SRouter) (p1 : SAddr) (p2 : SAddr) : EV.Spec Tryd.prog GG (SAddr × Int) := .ofFn 62 mixed Tryd.func62 (k62_1 p0 p1 p2)

/-- tannoy nat.In -/
noncomputable def g27 (p0 : SNat) (p1 : Int) (p2 : SAddr) (p3 : SAddr) : TT (SNat × SAddr × Int) :=
  .call2 1006 (s56_1 p0 p1 [p2, p3]) [(1000000, 19)] [(15, 500096), (600074, 500097)] (fun r278 =>
    .cnd 2 [31]
    (.br 2004 (r278 == 0)
      (.done (!decide (p3.fHost = p0.fHost)))
      (.done false))
    (fun (c279 : Bool) => [.bool c279]) fun c279 =>
    .bind 0
    (.br 0 c279
      (.done 2)
      (.done r278))
    (fun (e280 : Int) => Ext.lit .normal [(6, .ptr 6 0 0), (7, .ptr 7 0 0), (8, .ptr 8 0 0), (9, .ptr 9 0 0), (10, .int .i64 0), (11, .nilp), (12, .int .i64 e280)] [(6, ⟨2, true, [[.str p2.fHost, .int .i64 p2.fPort]]⟩), (7, ⟨2, true, [[.str p3.fHost, .int .i64 p3.fPort]]⟩), (8, ⟨9, true, [[.int .i64 0, .int .i64 0, .int .i64 0, .bool false, .str ByteArray.empty, .int .i64 0, .int .i64 0, .int .i64 0, .nilsl]]⟩), (9, ⟨2, true, [[.str ByteArray.empty, .int .i64 0]]⟩)])
    (fun e280 =>
      .br 0 (e280 != 0)
      (.done ((SNat.mk 0 0 0 false ByteArray.empty 0 0 0 []), (SAddr.mk ByteArray.empty 0), e280))
      (.call 6004 (s62 p2 p3) [] [] fun r282 =>
        .br 0 (r282.2 != 0)
        (.done ((SNat.mk 0 0 0 false ByteArray.empty 0 0 0 []), (SAddr.mk ByteArray.empty 0), r282.2))
        (.fail))))
  (fun r283 =>
    .bind 0
    (.br 0 (!decide (p3.fHost = p0.fHost))
      (.done 2)
      (.done 0))
    (fun (e284 : Int) => Ext.of .normal [(6, .ptr 6 0 0), (7, .ptr 7 0 0), (8, .ptr 8 0 0), (9, .ptr 9 0 0), (10, .int .i64 0), (11, .ptr 500096 0 0), (12, .int .i64 e284)] [(6, ⟨2, true, [[.str p2.fHost, .int .i64 p2.fPort]]⟩), (7, ⟨2, true, [[.str p3.fHost, .int .i64 p3.fPort]]⟩), (8, ⟨9, true, [[.int .i64 0, .int .i64 0, .int .i64 0, .bool false, .str ByteArray.empty, .int .i64 0, .int .i64 0, .int .i64 0, .nilsl]]⟩), (9, ⟨2, true, [[.str ByteArray.empty, .int .i64 0]]⟩), (500096, ⟨9, true, [[.int .i64 p0.fMapping, .int .i64 p0.fFilter, .int .i64 p0.fTimeout, .bool p0.fHairpin, .str p0.fHost, .int .i64 p0.fLow, .int .i64 p0.fHigh, .int .i64 p1, .ref 500097 0 r283.length]]⟩)] [BT.of 500097 tySBindingO6 7 r283 true] (by rfl))
    (fun e284 =>
      .br 0 (e284 != 0)
      (.done ((SNat.mk 0 0 0 false ByteArray.empty 0 0 0 []), (SAddr.mk ByteArray.empty 0), e284))
      (.view 6004 (s62_1 (SRouter.mk (SNat.mk p0.fMapping p0.fFilter p0.fTimeout p0.fHairpin p0.fHost p0.fLow p0.fHigh p1 r283)) p2 p3) [⟨500097, _, tySBindingO6, r283⟩] fun r304 =>
        .br 0 (r304.2 != 0)
        (.done ((SNat.mk 0 0 0 false ByteArray.empty 0 0 0 []), (SAddr.mk ByteArray.empty 0), r304.2))
        (.gh 0 (.share [⟨500097, _, tySBindingO6, r283⟩, ⟨500097, _, tySBindingO6, r283⟩]) (.done ((SNat.mk p0.fMapping p0.fFilter p0.fTimeout p0.fHairpin p0.fHost p0.fLow p0.fHigh p1 r283), r304.1, 0))))))
theorem k27 (p0 : SNat) (p1 : Int) (p2 : SAddr) (p3 : SAddr) : FnD Tryd.prog GG [0, 1, 2, 3, 4, 6, 7, 8, 9, 10, 11, 12, 13, 31, 33, 45] Tryd.f27 [.agg [.int .i64 p0.fMapping, .int .i64 p0.fFilter, .int .i64 p0.fTimeout, .bool p0.fHairpin, .str p0.fHost, .int .i64 p0.fLow, .int .i64 p0.fHigh, .int .i64 p0.fNow, .sl false 7 (List.map tySBinding.c p0.fTable)], .int .i64 p1, .agg [.str p2.fHost, .int .i64 p2.fPort], .agg [.str p3.fHost, .int .i64 p3.fPort]] (g27 p0 p1 p2 p3) (fun r => .tup [.agg [.int .i64 r.1.fMapping, .int .i64 r.1.fFilter, .int .i64 r.1.fTimeout, .bool r.1.fHairpin, .str r.1.fHost, .int .i64 r.1.fLow, .int .i64 r.1.fHigh, .int .i64 r.1.fNow, .sl false 7 (List.map tySBinding.c r.1.fTable)], .agg [.str r.2.1.fHost, .int .i64 r.2.1.fPort], .int .i64 r.2.2]) := by unfold FnD; kernel_rfl
noncomputable def s27 (p0 : SNat) (p1 : Int) (p2 : SAddr) (p3 : SAddr) : EV.Spec Tryd.prog GG (SNat × SAddr × Int) := .ofFn 27 mixed Tryd.func27 (k27 p0 p1 p2 p3)

/-- tannoy nat.Expire -/
noncomputable def g20 (p0 : SNat) (p1 : Int) : TT (SNat × Int) :=
  .call2 1003 (s56 p0 p1 []) [] [(15, 500098), (600056, 500099)] (fun r305 =>
    .br 0 (r305 != 0)
    (.done ((SNat.mk 0 0 0 false ByteArray.empty 0 0 0 []), r305))
    (.fail))
  (fun r306 =>
    .ff (.gh 0 (.share [⟨500099, _, tySBindingO6, r306⟩, ⟨500099, _, tySBindingO6, r306⟩]) (.done ((SNat.mk p0.fMapping p0.fFilter p0.fTimeout p0.fHairpin p0.fHost p0.fLow p0.fHigh p1 r306), 0))))
theorem k20 (p0 : SNat) (p1 : Int) : FnD Tryd.prog GG [0, 1, 2, 4, 5, 6, 7, 15] Tryd.f20 [.agg [.int .i64 p0.fMapping, .int .i64 p0.fFilter, .int .i64 p0.fTimeout, .bool p0.fHairpin, .str p0.fHost, .int .i64 p0.fLow, .int .i64 p0.fHigh, .int .i64 p0.fNow, .sl false 7 (List.map tySBinding.c p0.fTable)], .int .i64 p1] (g20 p0 p1) (fun r => .tup [.agg [.int .i64 r.1.fMapping, .int .i64 r.1.fFilter, .int .i64 r.1.fTimeout, .bool r.1.fHairpin, .str r.1.fHost, .int .i64 r.1.fLow, .int .i64 r.1.fHigh, .int .i64 r.1.fNow, .sl false 7 (List.map tySBinding.c r.1.fTable)], .int .i64 r.2]) := by unfold FnD; kernel_rfl
noncomputable def s20 (p0 : SNat) (p1 : Int) : EV.Spec Tryd.prog GG (SNat × Int) := .ofFn 20 mixed Tryd.func20 (k20 p0 p1)

/-- tannoy nat.Check -/
noncomputable def g19 (p0 : SNat) : TT (Int) :=
  .view 2002 (s55 (SRouter.mk p0)) [] fun r307 =>
  .br 0 (!r307)
  (.done 130)
  (.done 0)
theorem k19 (p0 : SNat) : FnD Tryd.prog GG [0, 1, 2, 3, 9] Tryd.f19 [.agg [.int .i64 p0.fMapping, .int .i64 p0.fFilter, .int .i64 p0.fTimeout, .bool p0.fHairpin, .str p0.fHost, .int .i64 p0.fLow, .int .i64 p0.fHigh, .int .i64 p0.fNow, .sl false 7 (List.map tySBinding.c p0.fTable)]] (g19 p0) (fun r => .int .i64 r) := by unfold FnD; kernel_rfl
noncomputable def s19 (p0 : SNat) : EV.Spec Tryd.prog GG (Int) := .ofFn 19 mixed Tryd.func19 (k19 p0)

end Go.Proofs.YtdiagiflihpidaaDoor
