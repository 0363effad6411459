/- Guides and contracts, printed by a program.
   Guides and contracts, printed by a program.
   Guides and contracts, printed by a program. -/
import Derived.Test.YtdiagiflihpidaaDoorK2
import Derived.KernelRfl

namespace Go.Proofs.YtdiagiflihpidaaDoor
open Go Go.EV
set_option maxRecDepth 100000

/-- tannoy nat.kind -/
noncomputable def g80 (p0 : Int) : TT (Bool) :=
  .cnd 1 [2]
  (.br 1004 (decide ((1 : Int) ≤ p0))
    (.done (decide (p0 ≤ 3)))
    (.done false))
  (fun (c1 : Bool) => [.bool c1]) fun c1 =>
  .done c1
theorem k80 (p0 : Int) : FnD Tryd.prog GG [0, 2] Tryd.f80 [.int .i64 p0] (g80 p0) (fun r => .bool r) := by unfold FnD; kernel_rfl
noncomputable def s80 (p0 : Int) : EV.Spec Tryd.prog GG (Bool) := .ofFn 80 mixed Tryd.func80 (k80 p0)

/-- tannoy address.read -/
noncomputable def g118 (p0 : ByteArray) : TT (SHost × Int) :=
  .cnd 1 [11]
  (.br 1005 ((p0.size : Int) != 4)
    (.done ((p0.size : Int) != 16))
    (.done false))
  (fun (c8 : Bool) => [.bool c8]) fun c8 =>
  .br 0 c8
  (.done ((SHost.mk ByteArray.empty), 2))
  (.done ((SHost.mk p0), 0))
theorem k118 (p0 : ByteArray) : FnD Tryd.prog GG [0, 2, 3, 11] Tryd.f118 [.str p0] (g118 p0) (fun r => .tup [.agg [.str r.1.fs], .int .i64 r.2]) := by unfold FnD; kernel_rfl
noncomputable def s118 (p0 : ByteArray) : EV.Spec Tryd.prog GG (SHost × Int) := .ofFn 118 mixed Tryd.func118 (k118 p0)

/-- tannoy address.Check -/
noncomputable def g94 (p0 : SAddr) : TT (Int) :=
  .call 1003 (s118 p0.fHost) [] [] fun r9 =>
  .cnd 2 [22]
  (.br 2004 (r9.2 != 0)
    (.done true)
    (.br 2009 (decide (p0.fPort < 0))
      (.done true)
      (.done (decide ((65535 : Int) < p0.fPort)))))
  (fun (c10 : Bool) => [.bool c10]) fun c10 =>
  .br 0 c10
  (.done 2)
  (.done 0)
theorem k94 (p0 : SAddr) : FnD Tryd.prog GG [0, 1, 2, 4, 22] Tryd.f94 [.agg [.str p0.fHost, .int .i64 p0.fPort]] (g94 p0) (fun r => .int .i64 r) := by unfold FnD; kernel_rfl
noncomputable def s94 (p0 : SAddr) : EV.Spec Tryd.prog GG (Int) := .ofFn 94 mixed Tryd.func94 (k94 p0)

/-- (*tannoy nat.router).usable -/
noncomputable def g84 (p0 : SRouter) (p1 : SAddr) : TT (Bool) :=
  .cnd 1 [4]
  (.call 1002 (s94 p1) [] [] fun r11 =>
    .br 1005 (r11 == 0)
    (.br 1010 (decide ((1 : Int) ≤ p1.fPort))
      (.done ((p1.fHost.size : Int) == (p0.fNat.fHost.size : Int)))
      (.done false))
    (.done false))
  (fun (c12 : Bool) => [.bool c12]) fun c12 =>
  .done c12
theorem k84 (p0 : SRouter) (p1 : SAddr) : FnD Tryd.prog GG [0, 1, 3, 4] Tryd.f84 [.snap [.int .i64 p0.fNat.fMapping, .int .i64 p0.fNat.fFilter, .int .i64 p0.fNat.fTimeout, .bool p0.fNat.fHairpin, .str p0.fNat.fHost, .int .i64 p0.fNat.fLow, .int .i64 p0.fNat.fHigh, .int .i64 p0.fNat.fNow, .sl false 7 (List.map tySBinding.c p0.fNat.fTable)], .agg [.str p1.fHost, .int .i64 p1.fPort]] (g84 p0 p1) (fun r => .bool r) := by unfold FnD; kernel_rfl
noncomputable def s84 (p0 : SRouter) (p1 : SAddr) : EV.Spec Tryd.prog GG (Bool) := .ofFn 84 mixed Tryd.func84 (k84 p0 p1)

/-- (*tannoy nat.router).key -/
noncomputable def g111 (p0 : SRouter) (p1 : Int) (p2 : SAddr) : TT (Bool) :=
  .br 0 (p1 == 1)
  (.done ((decide (p2.fHost = ByteArray.empty)) && ((p2.fPort == 0) && true)))
  (.br 0 (p1 == 2)
    (.cnd 5 [6]
      (.br 5005 (p2.fPort == 0)
        (.call 5009 (s84 p0 (SAddr.mk p2.fHost 1)) [] [] fun r14 =>
          .done r14)
        (.done false))
      (fun (c15 : Bool) => [.bool c15]) fun c15 =>
      .done c15)
    (.call 6003 (s84 p0 p2) [] [] fun r16 =>
      .done r16))
theorem k111 (p0 : SRouter) (p1 : Int) (p2 : SAddr) : FnD Tryd.prog GG [0, 1, 2, 5, 6, 7, 8, 13] Tryd.f111 [.snap [.int .i64 p0.fNat.fMapping, .int .i64 p0.fNat.fFilter, .int .i64 p0.fNat.fTimeout, .bool p0.fNat.fHairpin, .str p0.fNat.fHost, .int .i64 p0.fNat.fLow, .int .i64 p0.fNat.fHigh, .int .i64 p0.fNat.fNow, .sl false 7 (List.map tySBinding.c p0.fNat.fTable)], .int .i64 p1, .agg [.str p2.fHost, .int .i64 p2.fPort]] (g111 p0 p1 p2) (fun r => .bool r) := by unfold FnD; kernel_rfl
noncomputable def s111 (p0 : SRouter) (p1 : Int) (p2 : SAddr) : EV.Spec Tryd.prog GG (Bool) := .ofFn 111 mixed Tryd.func111 (k111 p0 p1 p2)

/-- (*tannoy nat.router).binding 1 -/
noncomputable def g113 (p0 : SAddr) (p1 : SRouter) : TT (Bool) :=
  .call 1008 (s111 p1 p1.fNat.fFilter p0) [] [] fun r21 =>
  .done r21
theorem k113 (p0 : SAddr) (p1 : SRouter) : FnD Tryd.prog GG [0, 1, 2, 3] Tryd.f113 [.agg [.str p0.fHost, .int .i64 p0.fPort], .snap [.snap [.int .i64 p1.fNat.fMapping, .int .i64 p1.fNat.fFilter, .int .i64 p1.fNat.fTimeout, .bool p1.fNat.fHairpin, .str p1.fNat.fHost, .int .i64 p1.fNat.fLow, .int .i64 p1.fNat.fHigh, .int .i64 p1.fNat.fNow, .sl false 7 (List.map tySBinding.c p1.fNat.fTable)]]] (g113 p0 p1) (fun r => .bool r) := by unfold FnD; kernel_rfl
noncomputable def s113 (p0 : SAddr) (p1 : SRouter) : EV.Spec Tryd.prog GG (Bool) := .ofFn 113 mixed Tryd.func113 (k113 p0 p1)

/-- (*tannoy nat.router).binding 2 -/
noncomputable def g114 (p0 : SAddr) (p1 : SAddr) : TT (Bool) :=
  .done ((decide (p0.fHost = p1.fHost)) && ((p0.fPort == p1.fPort) && true))
theorem k114 (p0 : SAddr) (p1 : SAddr) : FnD Tryd.prog GG [0, 1, 2, 3, 4] Tryd.f114 [.agg [.str p0.fHost, .int .i64 p0.fPort], .agg [.str p1.fHost, .int .i64 p1.fPort]] (g114 p0 p1) (fun r => .bool r) := by unfold FnD; kernel_rfl
noncomputable def s114 (p0 : SAddr) (p1 : SAddr) : EV.Spec Tryd.prog GG (Bool) := .ofFn 114 mixed Tryd.func114 (k114 p0 p1)

/-- tannoy nat.all tannoy api.Addr  1 -/
noncomputable def g126 (p0 : SAddr) (p1 : SAddr) : TT (Bool) :=
  .call 1004 (s114 p1 p0) [] [] fun r25 =>
  .done r25
theorem k126 (p0 : SAddr) (p1 : SAddr) : FnD Tryd.prog GG [0, 1, 2, 3, 4] Tryd.f126 [.agg [.str p0.fHost, .int .i64 p0.fPort], .snap [.fn 114 [] []], .snap [.str p1.fHost, .int .i64 p1.fPort]] (g126 p0 p1) (fun r => .bool r) := by unfold FnD; kernel_rfl
noncomputable def s126 (p0 : SAddr) (p1 : SAddr) : EV.Spec Tryd.prog GG (Bool) := .ofFn 126 mixed Tryd.func126 (k126 p0 p1)

/-- slices.IndexFunc   tannoy api.Addr tannoy api.Addr  -/
noncomputable def g128 (p0 : (List SAddr)) (p1 : SAddr) : TT (Int) :=
  .bind2 1
  (.lp (fun (l26 : Int) => Ext.lit .normal [(0, .sl false 2 (List.map tySAddr.c p0)), (1, .fn 126 [] [.snap [.fn 114 [] []], .snap [.str p1.fHost, .int .i64 p1.fPort]]), (4, .int .i64 0), (7, .int .i64 (mlen tySAddr p0)), (8, .int .i64 l26)] [])
    (fun l26 =>
      .br 0 (decide (l26 < (mlen tySAddr p0)))
      (.row 4004 tySAddr p0 l26.toNat (decide (0 ≤ l26)) fun x27 =>
        .call 4006 (s126 x27 p1) [] [] fun r28 =>
        .br 0 r28
        (.done (.inr (.inl l26)))
        (.done (.inl (wi64 (l26 + 1)))))
      (.done (.inr (.inr ()))))
    0)
  (fun (e29 : Int) => Ext.lit .ret [(4, .int .i64 e29)] [])
  (fun (e30 : Unit) => Ext.lit (.exit 0) [(4, .int .i64 0)] [])
  (fun e29 =>
    .done e29)
  (fun e30 =>
    .done (-1))
theorem k128 (p0 : (List SAddr)) (p1 : SAddr) : FnD Tryd.prog GG [0, 1, 4, 5, 7, 8, 9, 16] Tryd.f128 [.sl false 2 (List.map tySAddr.c p0), .fn 126 [] [.snap [.fn 114 [] []], .snap [.str p1.fHost, .int .i64 p1.fPort]]] (g128 p0 p1) (fun r => .int .i64 r) := by unfold FnD; kernel_rfl
noncomputable def s128 (p0 : (List SAddr)) (p1 : SAddr) : EV.Spec Tryd.prog GG (Int) := .ofFn 128 mixed Tryd.func128 (k128 p0 p1)

/-- slices.ContainsFunc   tannoy api.Addr tannoy api.Addr  -/
noncomputable def g125 (p0 : (List SAddr)) (p1 : SAddr) : TT (Bool) :=
  .call 1003 (s128 p0 p1) [] [] fun r31 =>
  .done (decide ((0 : Int) ≤ r31))
theorem k125 (p0 : (List SAddr)) (p1 : SAddr) : FnD Tryd.prog GG [0, 1, 4] Tryd.f125 [.sl false 2 (List.map tySAddr.c p0), .fn 126 [] [.snap [.fn 114 [] []], .snap [.str p1.fHost, .int .i64 p1.fPort]]] (g125 p0 p1) (fun r => .bool r) := by unfold FnD; kernel_rfl
noncomputable def s125 (p0 : (List SAddr)) (p1 : SAddr) : EV.Spec Tryd.prog GG (Bool) := .ofFn 125 mixed Tryd.func125 (k125 p0 p1)

/-- tannoy nat.all tannoy api.Addr  -/
noncomputable def g112 (p0 : (List SAddr)) (p1 : SRouter) : TT (Bool) :=
  .bind2 1
  (.lp (fun (l24 : Int) => Ext.lit .normal [(0, .sl false 2 (List.map tySAddr.c p0)), (1, .fn 113 [] [.snap [.snap [.int .i64 p1.fNat.fMapping, .int .i64 p1.fNat.fFilter, .int .i64 p1.fNat.fTimeout, .bool p1.fNat.fHairpin, .str p1.fNat.fHost, .int .i64 p1.fNat.fLow, .int .i64 p1.fNat.fHigh, .int .i64 p1.fNat.fNow, .sl false 7 (List.map tySBinding.c p1.fNat.fTable)]]]), (5, .ptr 5 0 0), (6, .bool false), (9, .sl false 2 (List.map tySAddr.c p0)), (10, .int .i64 (mlen tySAddr p0)), (11, .int .i64 l24)] [(5, ⟨1, true, [[.fn 114 [] []]]⟩)])
    (fun l24 =>
      .br 0 (decide (l24 < (mlen tySAddr p0)))
      (.row 3002 tySAddr p0 l24.toNat (decide (0 ≤ l24)) fun x25 =>
        .cnd 4 [26]
        (.call 4003 (s113 x25 p1) [] [] fun r26 =>
          .br 4006 (!r26)
          (.done true)
          (.chk 4008 (decide (0 ≤ l24) && decide (l24 ≤ ((mlenn tySAddr p0) : Int))) (.re 4008 (ReW.cutHi 23 2 tySAddr p0 l24.toNat) (.view 4010 (s125 (p0.take l24.toNat) x25) [] fun r27 =>
            .done r27))))
        (fun (c28 : Bool) => [.bool c28]) fun c28 =>
        .br 0 c28
        (.done (.inr (.inl ())))
        (.done (.inl (wi64 (l24 + 1)))))
      (.done (.inr (.inr ()))))
    0)
  (fun (e29 : Unit) => Ext.lit .ret [(6, .bool false)] [])
  (fun (e30 : Unit) => Ext.lit (.exit 0) [(6, .bool false)] [])
  (fun e29 =>
    .done false)
  (fun e30 =>
    .done true)
theorem k112 (p0 : (List SAddr)) (p1 : SRouter) : FnD Tryd.prog GG [0, 1, 2, 5, 6, 7, 8, 9, 10, 11, 12, 26] Tryd.f112 [.sl false 2 (List.map tySAddr.c p0), .fn 113 [] [.snap [.snap [.int .i64 p1.fNat.fMapping, .int .i64 p1.fNat.fFilter, .int .i64 p1.fNat.fTimeout, .bool p1.fNat.fHairpin, .str p1.fNat.fHost, .int .i64 p1.fNat.fLow, .int .i64 p1.fNat.fHigh, .int .i64 p1.fNat.fNow, .sl false 7 (List.map tySBinding.c p1.fNat.fTable)]]], .fn 114 [] []] (g112 p0 p1) (fun r => .bool r) := by unfold FnD; kernel_rfl
noncomputable def s112 (p0 : (List SAddr)) (p1 : SRouter) : EV.Spec Tryd.prog GG (Bool) := .ofFn 112 mixed Tryd.func112 (k112 p0 p1)

/-- (*tannoy nat.router).binding -/
noncomputable def g82 (p0 : SRouter) (p1 : SBinding) : TT (Bool) :=
  .cnd 1 [78]
  (.call 1004 (s84 p0 p1.fInside) [] [] fun r13 =>
    .br 1007 (!r13)
    (.done true)
    (.br 1018 (decide (p1.fInside.fHost = p0.fNat.fHost))
      (.done true)
      (.call 1026 (s111 p0 p0.fNat.fMapping p1.fPeer) [] [] fun r17 =>
        .br 1030 (!r17)
        (.done true)
        (.br 1040 (decide (p1.fPort < p0.fNat.fLow))
          (.done true)
          (.br 1050 (decide (p0.fNat.fHigh < p1.fPort))
            (.done true)
            (.br 1060 (decide (p1.fUntil ≤ p0.fNat.fNow))
              (.done true)
              (.done (decide ((wi64 (p0.fNat.fNow + p0.fNat.fTimeout)) < p1.fUntil)))))))))
  (fun (c18 : Bool) => [.bool c18]) fun c18 =>
  .br 0 c18
  (.done false)
  (.br 0 (p0.fNat.fFilter == 1)
    (.done ((mlen tySAddr p1.fOpen) == 0))
    (.cnd 5 [4]
      (.br 5006 (decide ((1 : Int) ≤ (mlen tySAddr p1.fOpen)))
        (.br 5012 (decide ((mlen tySAddr p1.fOpen) ≤ 16))
          (.view 5015 (s112 p1.fOpen p0) [] fun r31 =>
            .done r31)
          (.done false))
        (.done false))
      (fun (c32 : Bool) => [.bool c32]) fun c32 =>
      .done c32))
theorem k82 (p0 : SRouter) (p1 : SBinding) : FnD Tryd.prog GG [0, 1, 2, 3, 4, 78, 84] Tryd.f82 [.snap [.int .i64 p0.fNat.fMapping, .int .i64 p0.fNat.fFilter, .int .i64 p0.fNat.fTimeout, .bool p0.fNat.fHairpin, .str p0.fNat.fHost, .int .i64 p0.fNat.fLow, .int .i64 p0.fNat.fHigh, .int .i64 p0.fNat.fNow, .sl false 7 (List.map tySBinding.c p0.fNat.fTable)], .agg [.str p1.fInside.fHost, .int .i64 p1.fInside.fPort, .str p1.fPeer.fHost, .int .i64 p1.fPeer.fPort, .int .i64 p1.fPort, .int .i64 p1.fUntil, .sl false 2 (List.map tySAddr.c p1.fOpen)]] (g82 p0 p1) (fun r => .bool r) := by unfold FnD; kernel_rfl
noncomputable def s82 (p0 : SRouter) (p1 : SBinding) : EV.Spec Tryd.prog GG (Bool) := .ofFn 82 mixed Tryd.func82 (k82 p0 p1)

/-- (*tannoy nat.router).valid 1 -/
noncomputable def g83 (p0 : SBinding) (p1 : SBinding) : TT (Bool) :=
  .cnd 1 [4]
  (.br 1007 (p0.fPort == p1.fPort)
    (.done true)
    (.br 1013 ((decide (p0.fInside.fHost = p1.fInside.fHost)) && ((p0.fInside.fPort == p1.fInside.fPort) && true))
      (.done ((decide (p0.fPeer.fHost = p1.fPeer.fHost)) && ((p0.fPeer.fPort == p1.fPeer.fPort) && true)))
      (.done false)))
  (fun (c36 : Bool) => [.bool c36]) fun c36 =>
  .done c36
theorem k83 (p0 : SBinding) (p1 : SBinding) : FnD Tryd.prog GG [0, 1, 2, 3, 4] Tryd.f83 [.agg [.str p0.fInside.fHost, .int .i64 p0.fInside.fPort, .str p0.fPeer.fHost, .int .i64 p0.fPeer.fPort, .int .i64 p0.fPort, .int .i64 p0.fUntil, .sl false 2 (List.map tySAddr.c p0.fOpen)], .agg [.str p1.fInside.fHost, .int .i64 p1.fInside.fPort, .str p1.fPeer.fHost, .int .i64 p1.fPeer.fPort, .int .i64 p1.fPort, .int .i64 p1.fUntil, .sl false 2 (List.map tySAddr.c p1.fOpen)]] (g83 p0 p1) (fun r => .bool r) := by unfold FnD; kernel_rfl
noncomputable def s83 (p0 : SBinding) (p1 : SBinding) : EV.Spec Tryd.prog GG (Bool) := .ofFn 83 mixed Tryd.func83 (k83 p0 p1)

/-- tannoy nat.all tannoy api.Binding  1 -/
noncomputable def g110 (p0 : SBinding) (p1 : SBinding) : TT (Bool) :=
  .call 1004 (s83 p1 p0) [] [] fun r37 =>
  .done r37
theorem k110 (p0 : SBinding) (p1 : SBinding) : FnD Tryd.prog GG [0, 1, 2, 3, 4] Tryd.f110 [.agg [.str p0.fInside.fHost, .int .i64 p0.fInside.fPort, .str p0.fPeer.fHost, .int .i64 p0.fPeer.fPort, .int .i64 p0.fPort, .int .i64 p0.fUntil, .sl false 2 (List.map tySAddr.c p0.fOpen)], .snap [.fn 83 [] []], .snap [.str p1.fInside.fHost, .int .i64 p1.fInside.fPort, .str p1.fPeer.fHost, .int .i64 p1.fPeer.fPort, .int .i64 p1.fPort, .int .i64 p1.fUntil, .sl false 2 (List.map tySAddr.c p1.fOpen)]] (g110 p0 p1) (fun r => .bool r) := by unfold FnD; kernel_rfl
noncomputable def s110 (p0 : SBinding) (p1 : SBinding) : EV.Spec Tryd.prog GG (Bool) := .ofFn 110 mixed Tryd.func110 (k110 p0 p1)

/-- slices.IndexFunc   tannoy api.Binding tannoy api.Binding  -/
noncomputable def g115 (p0 : (List SBinding)) (p1 : SBinding) : TT (Int) :=
  .bind2 1
  (.lp (fun (l37 : Int) => Ext.lit .normal [(0, .sl false 7 (List.map tySBinding.c p0)), (1, .fn 110 [] [.snap [.fn 83 [] []], .snap [.str p1.fInside.fHost, .int .i64 p1.fInside.fPort, .str p1.fPeer.fHost, .int .i64 p1.fPeer.fPort, .int .i64 p1.fPort, .int .i64 p1.fUntil, .sl false 2 (List.map tySAddr.c p1.fOpen)]]), (4, .int .i64 0), (7, .int .i64 (mlen tySBinding p0)), (8, .int .i64 l37)] [])
    (fun l37 =>
      .br 0 (decide (l37 < (mlen tySBinding p0)))
      (.row 4004 tySBinding p0 l37.toNat (decide (0 ≤ l37)) fun x38 =>
        .call 4006 (s110 x38 p1) [] [] fun r39 =>
        .br 0 r39
        (.done (.inr (.inl l37)))
        (.done (.inl (wi64 (l37 + 1)))))
      (.done (.inr (.inr ()))))
    0)
  (fun (e40 : Int) => Ext.lit .ret [(4, .int .i64 e40)] [])
  (fun (e41 : Unit) => Ext.lit (.exit 0) [(4, .int .i64 0)] [])
  (fun e40 =>
    .done e40)
  (fun e41 =>
    .done (-1))
theorem k115 (p0 : (List SBinding)) (p1 : SBinding) : FnD Tryd.prog GG [0, 1, 4, 5, 7, 8, 9, 16] Tryd.f115 [.sl false 7 (List.map tySBinding.c p0), .fn 110 [] [.snap [.fn 83 [] []], .snap [.str p1.fInside.fHost, .int .i64 p1.fInside.fPort, .str p1.fPeer.fHost, .int .i64 p1.fPeer.fPort, .int .i64 p1.fPort, .int .i64 p1.fUntil, .sl false 2 (List.map tySAddr.c p1.fOpen)]]] (g115 p0 p1) (fun r => .int .i64 r) := by unfold FnD; kernel_rfl
noncomputable def s115 (p0 : (List SBinding)) (p1 : SBinding) : EV.Spec Tryd.prog GG (Int) := .ofFn 115 mixed Tryd.func115 (k115 p0 p1)

/-- slices.ContainsFunc   tannoy api.Binding tannoy api.Binding  -/
noncomputable def g109 (p0 : (List SBinding)) (p1 : SBinding) : TT (Bool) :=
  .call 1003 (s115 p0 p1) [] [] fun r42 =>
  .done (decide ((0 : Int) ≤ r42))
theorem k109 (p0 : (List SBinding)) (p1 : SBinding) : FnD Tryd.prog GG [0, 1, 4] Tryd.f109 [.sl false 7 (List.map tySBinding.c p0), .fn 110 [] [.snap [.fn 83 [] []], .snap [.str p1.fInside.fHost, .int .i64 p1.fInside.fPort, .str p1.fPeer.fHost, .int .i64 p1.fPeer.fPort, .int .i64 p1.fPort, .int .i64 p1.fUntil, .sl false 2 (List.map tySAddr.c p1.fOpen)]]] (g109 p0 p1) (fun r => .bool r) := by unfold FnD; kernel_rfl
noncomputable def s109 (p0 : (List SBinding)) (p1 : SBinding) : EV.Spec Tryd.prog GG (Bool) := .ofFn 109 mixed Tryd.func109 (k109 p0 p1)

/-- tannoy nat.all tannoy api.Binding  -/
noncomputable def g81 (p0 : (List SBinding)) (p1 : SRouter) : TT (Bool) :=
  .bind2 1
  (.lp (fun (l11 : Int) => Ext.lit .normal [(0, .sl false 7 (List.map tySBinding.c p0)), (1, .fn 82 [.snap [.int .i64 p1.fNat.fMapping, .int .i64 p1.fNat.fFilter, .int .i64 p1.fNat.fTimeout, .bool p1.fNat.fHairpin, .str p1.fNat.fHost, .int .i64 p1.fNat.fLow, .int .i64 p1.fNat.fHigh, .int .i64 p1.fNat.fNow, .sl false 7 (List.map tySBinding.c p1.fNat.fTable)]] []), (5, .ptr 5 0 0), (6, .bool false), (9, .sl false 7 (List.map tySBinding.c p0)), (10, .int .i64 (mlen tySBinding p0)), (11, .int .i64 l11)] [(5, ⟨1, true, [[.fn 83 [] []]]⟩)])
    (fun l11 =>
      .br 0 (decide (l11 < (mlen tySBinding p0)))
      (.row 3002 tySBinding p0 l11.toNat (decide (0 ≤ l11)) fun x12 =>
        .cnd 4 [26]
        (.call 4003 (s82 p1 x12) [] [] fun r13 =>
          .br 4006 (!r13)
          (.done true)
          (.chk 4008 (decide (0 ≤ l11) && decide (l11 ≤ ((mlenn tySBinding p0) : Int))) (.re 4008 (ReW.cutHi 23 7 tySBinding p0 l11.toNat) (.view 4010 (s109 (p0.take l11.toNat) x12) [] fun r14 =>
            .done r14))))
        (fun (c15 : Bool) => [.bool c15]) fun c15 =>
        .br 0 c15
        (.done (.inr (.inl ())))
        (.done (.inl (wi64 (l11 + 1)))))
      (.done (.inr (.inr ()))))
    0)
  (fun (e16 : Unit) => Ext.lit .ret [(6, .bool false)] [])
  (fun (e17 : Unit) => Ext.lit (.exit 0) [(6, .bool false)] [])
  (fun e16 =>
    .done false)
  (fun e17 =>
    .done true)
theorem k81 (p0 : (List SBinding)) (p1 : SRouter) : FnD Tryd.prog GG [0, 1, 2, 5, 6, 7, 8, 9, 10, 11, 12, 26] Tryd.f81 [.sl false 7 (List.map tySBinding.c p0), .fn 82 [.snap [.int .i64 p1.fNat.fMapping, .int .i64 p1.fNat.fFilter, .int .i64 p1.fNat.fTimeout, .bool p1.fNat.fHairpin, .str p1.fNat.fHost, .int .i64 p1.fNat.fLow, .int .i64 p1.fNat.fHigh, .int .i64 p1.fNat.fNow, .sl false 7 (List.map tySBinding.c p1.fNat.fTable)]] [], .fn 83 [] []] (g81 p0 p1) (fun r => .bool r) := by unfold FnD; kernel_rfl
noncomputable def s81 (p0 : (List SBinding)) (p1 : SRouter) : EV.Spec Tryd.prog GG (Bool) := .ofFn 81 mixed Tryd.func81 (k81 p0 p1)

/-- (*tannoy nat.router).valid -/
noncomputable def g55 (p0 : SRouter) : TT (Bool) :=
  .cnd 1 [52]
  (.call 1006 (s80 p0.fNat.fMapping) [] [] fun r2 =>
    .br 1009 (!r2)
    (.done true)
    (.call 1014 (s80 p0.fNat.fFilter) [] [] fun r3 =>
      .br 1018 (!r3)
      (.done true)
      (.br 1026 (decide (p0.fNat.fTimeout < 1))
        (.done true)
        (.br 1034 (decide ((3600000 : Int) < p0.fNat.fTimeout))
          (.done true)
          (.br 1042 ((p0.fNat.fHost.size : Int) != 4)
            (.done ((p0.fNat.fHost.size : Int) != 16))
            (.done false))))))
  (fun (c4 : Bool) => [.bool c4]) fun c4 =>
  .br 0 c4
  (.done false)
  (.cnd 3 [109]
    (.br 3008 (decide (p0.fNat.fLow < 1))
      (.done true)
      (.br 3016 (decide ((65535 : Int) < p0.fNat.fHigh))
        (.done true)
        (.br 3029 (decide (p0.fNat.fHigh < p0.fNat.fLow))
          (.done true)
          (.br 3043 (decide ((wi64 (p0.fNat.fLow + 64)) ≤ p0.fNat.fHigh))
            (.done true)
            (.br 3051 (decide (p0.fNat.fNow < 0))
              (.done true)
              (.done (decide ((1099511627776 : Int) < p0.fNat.fNow))))))))
    (fun (c5 : Bool) => [.bool c5]) fun c5 =>
    .br 0 c5
    (.done false)
    (.call 5008 (s81 p0.fNat.fTable p0) [] [] fun r18 =>
      .done r18))
theorem k55 (p0 : SRouter) : FnD Tryd.prog GG [0, 2, 52, 109] Tryd.f55 [.snap [.int .i64 p0.fNat.fMapping, .int .i64 p0.fNat.fFilter, .int .i64 p0.fNat.fTimeout, .bool p0.fNat.fHairpin, .str p0.fNat.fHost, .int .i64 p0.fNat.fLow, .int .i64 p0.fNat.fHigh, .int .i64 p0.fNat.fNow, .sl false 7 (List.map tySBinding.c p0.fNat.fTable)]] (g55 p0) (fun r => .bool r) := by unfold FnD; kernel_rfl
noncomputable def s55 (p0 : SRouter) : EV.Spec Tryd.prog GG (Bool) := .ofFn 55 mixed Tryd.func55 (k55 p0)

end Go.Proofs.YtdiagiflihpidaaDoor

namespace Go.Proofs.YtdiagiflihpidaaDoor
open Go Go.EV
set_option maxRecDepth 100000

/-- slices.Clone -/
noncomputable def g64 (p0 : (List SAddr)) : TT Unit := .app 3003 tySAddr [] p0 24 true (by intros; rfl) (.done ())
theorem k64y : Piece Tryd.prog GG [2] 8 (cloneYes Tryd.f64.body) (Ext.lit .normal [(2, .nilsl)] []) (.done () : TT Unit) (fun _ => Ext.lit .ret [(2, .nilsl)] []) := by unfold Piece; kernel_rfl
theorem k64r (p0 : (List SAddr)) : Piece Tryd.prog GG [0, 2, 5, 6, 7] 8 (cloneRest Tryd.f64.body) (Ext.lit .normal [(0, .sl false 2 (List.map tySAddr.c p0)), (2, .nilsl)] []) (g64 p0) (fun _ => Ext.of .ret [(2, .ref 7 0 ([] ++ p0).length)] [] [BT.of 7 tySAddr 2 ([] ++ p0)] (by rfl)) := by unfold Piece; kernel_rfl
theorem k64 (p0 : (List SAddr)) {r : Unit} (h : (g64 p0).run = some r) : CallC Tryd.prog GG 64 [.sl false 2 (List.map tySAddr.c p0)] (ofL []) (.ref 7 0 p0.length) (ofL [(7, ⟨2, true, List.map tySAddr.c p0⟩)]) :=
  clone_ok (ty := tySAddr) (ops0 := cloneOps0 Tryd.f64.body) (ops1 := cloneOps1 Tryd.f64.body) (yes := cloneYes Tryd.f64.body) (rest := cloneRest Tryd.f64.body) (t := 59) mixed Tryd.func64 (by kernel_rfl) (by kernel_rfl) (by kernel_rfl) (by kernel_rfl) (by kernel_rfl) (by kernel_rfl) (by kernel_rfl) (by kernel_rfl) (by kernel_rfl) k64y (k64r p0) (by rfl) h
noncomputable def s64 (p0 : (List SAddr)) : EV.Spec Tryd.prog GG Unit := ⟨64, [.sl false 2 (List.map tySAddr.c p0)], [], (g64 p0).run, fun _ => .ref 7 0 p0.length, fun _ => [(7, ⟨2, true, List.map tySAddr.c p0⟩)], [7], fun _ p hp _ => by
  rw [List.mem_singleton.1 hp]; exact tySAddr.data _, fun _ h => k64 p0 h⟩

/-- tannoy nat.start -/
noncomputable def g56 (p0 : SNat) (p1 : Int) (p2 : (List SAddr)) : TT ((Int) ⊕ ((List SBinding))) :=
  .view 2002 (s55 (SRouter.mk p0)) [] fun r19 =>
  .br 0 (!r19)
  (.done (.inl 130))
  (.cnd 4 [26]
    (.br 4006 (decide (p1 < p0.fNow))
      (.done true)
      (.done (decide ((1099511627776 : Int) < p1))))
    (fun (c20 : Bool) => [.bool c20]) fun c20 =>
    .br 0 c20
    (.done (.inl 2))
    (.bind2 1
      (.lp (fun (l24 : Int) => Ext.lit .normal [(1, .int .i64 p1), (3, .ptr 3 0 0), (6, .nilp), (7, .int .i64 0), (8, .ptr 15 0 0), (27, .sl false 2 (List.map tySAddr.c p2)), (28, .int .i64 (mlen tySAddr p2)), (29, .int .i64 l24)] [(3, ⟨9, true, [[.int .i64 p0.fMapping, .int .i64 p0.fFilter, .int .i64 p0.fTimeout, .bool p0.fHairpin, .str p0.fHost, .int .i64 p0.fLow, .int .i64 p0.fHigh, .int .i64 p0.fNow, .sl false 7 (List.map tySBinding.c p0.fTable)]]⟩), (15, ⟨9, true, [[.int .i64 p0.fMapping, .int .i64 p0.fFilter, .int .i64 p0.fTimeout, .bool p0.fHairpin, .str p0.fHost, .int .i64 p0.fLow, .int .i64 p0.fHigh, .int .i64 p0.fNow, .sl false 7 (List.map tySBinding.c p0.fTable)]]⟩)])
        (fun l24 =>
          .br 0 (decide (l24 < (mlen tySAddr p2)))
          (.row 8001 tySAddr p2 l24.toNat (decide (0 ≤ l24)) fun x25 =>
            .view 9003 (s84 (SRouter.mk p0) x25) [] fun r26 =>
            .br 0 (!r26)
            (.done (.inr (.inl ())))
            (.done (.inl (wi64 (l24 + 1)))))
          (.done (.inr (.inr ()))))
        0)
      (fun (e27 : Unit) => Ext.lit .ret [(1, .int .i64 p1), (3, .ptr 3 0 0), (6, .nilp), (7, .int .i64 2), (8, .ptr 15 0 0)] [(3, ⟨9, true, [[.int .i64 p0.fMapping, .int .i64 p0.fFilter, .int .i64 p0.fTimeout, .bool p0.fHairpin, .str p0.fHost, .int .i64 p0.fLow, .int .i64 p0.fHigh, .int .i64 p0.fNow, .sl false 7 (List.map tySBinding.c p0.fTable)]]⟩), (15, ⟨9, true, [[.int .i64 p0.fMapping, .int .i64 p0.fFilter, .int .i64 p0.fTimeout, .bool p0.fHairpin, .str p0.fHost, .int .i64 p0.fLow, .int .i64 p0.fHigh, .int .i64 p0.fNow, .sl false 7 (List.map tySBinding.c p0.fTable)]]⟩)])
      (fun (e28 : Unit) => Ext.lit (.exit 0) [(1, .int .i64 p1), (3, .ptr 3 0 0), (6, .nilp), (7, .int .i64 0), (8, .ptr 15 0 0)] [(3, ⟨9, true, [[.int .i64 p0.fMapping, .int .i64 p0.fFilter, .int .i64 p0.fTimeout, .bool p0.fHairpin, .str p0.fHost, .int .i64 p0.fLow, .int .i64 p0.fHigh, .int .i64 p0.fNow, .sl false 7 (List.map tySBinding.c p0.fTable)]]⟩), (15, ⟨9, true, [[.int .i64 p0.fMapping, .int .i64 p0.fFilter, .int .i64 p0.fTimeout, .bool p0.fHairpin, .str p0.fHost, .int .i64 p0.fLow, .int .i64 p0.fHigh, .int .i64 p0.fNow, .sl false 7 (List.map tySBinding.c p0.fTable)]]⟩)])
      (fun e27 =>
        .done (.inl 2))
      (fun e28 =>
        .gh 1 (.virtC 600014 15 8 7) (.bind 0
        (.lp (fun (l32 : (List SBinding) × Int) => Ext.of .normal [(1, .int .i64 p1), (6, .nilp), (7, .int .i64 0), (8, .ptr 15 0 0), (48, .sl false 7 (List.map tySBinding.c p0.fTable)), (49, .int .i64 (mlen tySBinding p0.fTable)), (50, .int .i64 l32.2)] [(15, ⟨9, true, [[.int .i64 p0.fMapping, .int .i64 p0.fFilter, .int .i64 p0.fTimeout, .bool p0.fHairpin, .str p0.fHost, .int .i64 p0.fLow, .int .i64 p0.fHigh, .int .i64 p1, .ref 600014 0 l32.1.length]]⟩)] [BT.of 600014 tySBindingO6 7 l32.1 true] (by rfl))
          (fun l32 =>
            .br 0 (decide (l32.2 < (mlen tySBinding p0.fTable)))
            (.row 15001 tySBinding p0.fTable l32.2.toNat (decide (0 ≤ l32.2)) fun x33 =>
              .br 0 (decide (p1 < x33.fUntil))
              (.call 17003 (s64 x33.fOpen) [] [(7, 500018)] fun r34 =>
                .appn 18009 tySBindingO6 l32.1 x33 6 500018 tySAddr x33.fOpen 88 (.gh 0 (.drop [600014]) (.gh 0 (.ren 70 600014) (.done (.inl ((l32.1 ++ [x33]), (wi64 (l32.2 + 1))))))))
              (.done (.inl (l32.1, (wi64 (l32.2 + 1))))))
            (.done (.inr l32.1)))
          ([], 0))
        (fun (e35 : (List SBinding)) => Ext.of (.exit 2) [(6, .nilp), (7, .int .i64 0), (8, .ptr 15 0 0)] [(15, ⟨9, true, [[.int .i64 p0.fMapping, .int .i64 p0.fFilter, .int .i64 p0.fTimeout, .bool p0.fHairpin, .str p0.fHost, .int .i64 p0.fLow, .int .i64 p0.fHigh, .int .i64 p1, .ref 600014 0 e35.length]]⟩)] [BT.of 600014 tySBindingO6 7 e35 true] (by rfl))
        (fun e35 =>
          .done (.inr e35))))))
theorem k56 (p0 : SNat) (p1 : Int) (p2 : (List SAddr)) : FnB Tryd.prog GG [0, 1, 2, 3, 6, 7, 8, 10, 12, 18, 26, 27, 28, 29, 30, 36, 48, 49, 50, 51, 57] Tryd.f56 [.agg [.int .i64 p0.fMapping, .int .i64 p0.fFilter, .int .i64 p0.fTimeout, .bool p0.fHairpin, .str p0.fHost, .int .i64 p0.fLow, .int .i64 p0.fHigh, .int .i64 p0.fNow, .sl false 7 (List.map tySBinding.c p0.fTable)], .int .i64 p1, .sl false 2 (List.map tySAddr.c p2)] (Ext.of .normal (argTs [.agg [.int .i64 p0.fMapping, .int .i64 p0.fFilter, .int .i64 p0.fTimeout, .bool p0.fHairpin, .str p0.fHost, .int .i64 p0.fLow, .int .i64 p0.fHigh, .int .i64 p0.fNow, .sl false 7 (List.map tySBinding.c p0.fTable)], .int .i64 p1, .sl false 2 (List.map tySAddr.c p2)]) [] [] (by rfl)) (g56 p0 p1 p2) (Sum.elim (fun (r : Int) => .tup [.nilp, .int .i64 r]) (fun (r : (List SBinding)) => .tup [.ptr 15 0 0, .int .i64 0])) (Sum.elim (fun (r : Int) => Ext.of .normal [] [] [] (by rfl)) (fun (r : (List SBinding)) => Ext.of .normal [] [(15, ⟨9, true, [[.int .i64 p0.fMapping, .int .i64 p0.fFilter, .int .i64 p0.fTimeout, .bool p0.fHairpin, .str p0.fHost, .int .i64 p0.fLow, .int .i64 p0.fHigh, .int .i64 p1, .ref 600014 0 r.length]]⟩)] [BT.of 600014 tySBindingO6 7 r true] (by rfl))) := by unfold FnB; kernel_rfl
noncomputable def s56 (p0 : SNat) (p1 : Int) (p2 : (List SAddr)) : EV.Spec Tryd.prog GG ((Int) ⊕ ((List SBinding))) := .ofFnB 56 [600014] mixed Tryd.func56 rfl (fun r => by cases r <;> rfl) (k56 p0 p1 p2)

/-- tannoy nat.start -/
noncomputable def g56_1 (p0 : SNat) (p1 : Int) (p2 : (List SAddr)) : TT ((Int) ⊕ ((List SBinding))) :=
  .view 2002 (s55 (SRouter.mk p0)) [] fun r36 =>
  .br 0 (!r36)
  (.done (.inl 130))
  (.cnd 4 [26]
    (.br 4006 (decide (p1 < p0.fNow))
      (.done true)
      (.done (decide ((1099511627776 : Int) < p1))))
    (fun (c37 : Bool) => [.bool c37]) fun c37 =>
    .br 0 c37
    (.done (.inl 2))
    (.bind2 1
      (.lp (fun (l41 : Int) => Ext.of .normal [(1, .int .i64 p1), (3, .ptr 3 0 0), (6, .nilp), (7, .int .i64 0), (8, .ptr 15 0 0), (27, .ref 1000000 0 p2.length), (28, .int .i64 (p2.length : Int)), (29, .int .i64 l41)] [(3, ⟨9, true, [[.int .i64 p0.fMapping, .int .i64 p0.fFilter, .int .i64 p0.fTimeout, .bool p0.fHairpin, .str p0.fHost, .int .i64 p0.fLow, .int .i64 p0.fHigh, .int .i64 p0.fNow, .sl false 7 (List.map tySBinding.c p0.fTable)]]⟩), (15, ⟨9, true, [[.int .i64 p0.fMapping, .int .i64 p0.fFilter, .int .i64 p0.fTimeout, .bool p0.fHairpin, .str p0.fHost, .int .i64 p0.fLow, .int .i64 p0.fHigh, .int .i64 p0.fNow, .sl false 7 (List.map tySBinding.c p0.fTable)]]⟩)] [BT.of 1000000 tySAddr 2 p2 true] (by rfl))
        (fun l41 =>
          .br 0 (decide (l41 < (p2.length : Int)))
          (.chk 8001 (decide (0 ≤ l41) && decide (l41 < (p2.length : Int))) (.row 8002 tySAddr p2 (0 + l41.toNat) true fun x42 =>
            .view 9003 (s84 (SRouter.mk p0) x42) [] fun r43 =>
            .br 0 (!r43)
            (.done (.inr (.inl ())))
            (.done (.inl (wi64 (l41 + 1))))))
          (.done (.inr (.inr ()))))
        0)
      (fun (e44 : Unit) => Ext.lit .ret [(1, .int .i64 p1), (3, .ptr 3 0 0), (6, .nilp), (7, .int .i64 2), (8, .ptr 15 0 0)] [(3, ⟨9, true, [[.int .i64 p0.fMapping, .int .i64 p0.fFilter, .int .i64 p0.fTimeout, .bool p0.fHairpin, .str p0.fHost, .int .i64 p0.fLow, .int .i64 p0.fHigh, .int .i64 p0.fNow, .sl false 7 (List.map tySBinding.c p0.fTable)]]⟩), (15, ⟨9, true, [[.int .i64 p0.fMapping, .int .i64 p0.fFilter, .int .i64 p0.fTimeout, .bool p0.fHairpin, .str p0.fHost, .int .i64 p0.fLow, .int .i64 p0.fHigh, .int .i64 p0.fNow, .sl false 7 (List.map tySBinding.c p0.fTable)]]⟩)])
      (fun (e45 : Unit) => Ext.lit (.exit 0) [(1, .int .i64 p1), (3, .ptr 3 0 0), (6, .nilp), (7, .int .i64 0), (8, .ptr 15 0 0)] [(3, ⟨9, true, [[.int .i64 p0.fMapping, .int .i64 p0.fFilter, .int .i64 p0.fTimeout, .bool p0.fHairpin, .str p0.fHost, .int .i64 p0.fLow, .int .i64 p0.fHigh, .int .i64 p0.fNow, .sl false 7 (List.map tySBinding.c p0.fTable)]]⟩), (15, ⟨9, true, [[.int .i64 p0.fMapping, .int .i64 p0.fFilter, .int .i64 p0.fTimeout, .bool p0.fHairpin, .str p0.fHost, .int .i64 p0.fLow, .int .i64 p0.fHigh, .int .i64 p0.fNow, .sl false 7 (List.map tySBinding.c p0.fTable)]]⟩)])
      (fun e44 =>
        .done (.inl 2))
      (fun e45 =>
        .gh 1 (.virtC 600032 15 8 7) (.bind 0
        (.lp (fun (l49 : (List SBinding) × Int) => Ext.of .normal [(1, .int .i64 p1), (6, .nilp), (7, .int .i64 0), (8, .ptr 15 0 0), (48, .sl false 7 (List.map tySBinding.c p0.fTable)), (49, .int .i64 (mlen tySBinding p0.fTable)), (50, .int .i64 l49.2)] [(15, ⟨9, true, [[.int .i64 p0.fMapping, .int .i64 p0.fFilter, .int .i64 p0.fTimeout, .bool p0.fHairpin, .str p0.fHost, .int .i64 p0.fLow, .int .i64 p0.fHigh, .int .i64 p1, .ref 600032 0 l49.1.length]]⟩)] [BT.of 600032 tySBindingO6 7 l49.1 true] (by rfl))
          (fun l49 =>
            .br 0 (decide (l49.2 < (mlen tySBinding p0.fTable)))
            (.row 15001 tySBinding p0.fTable l49.2.toNat (decide (0 ≤ l49.2)) fun x50 =>
              .br 0 (decide (p1 < x50.fUntil))
              (.call 17003 (s64 x50.fOpen) [] [(7, 500036)] fun r51 =>
                .appn 18009 tySBindingO6 l49.1 x50 6 500036 tySAddr x50.fOpen 88 (.gh 0 (.drop [600032]) (.gh 0 (.ren 70 600032) (.done (.inl ((l49.1 ++ [x50]), (wi64 (l49.2 + 1))))))))
              (.done (.inl (l49.1, (wi64 (l49.2 + 1))))))
            (.done (.inr l49.1)))
          ([], 0))
        (fun (e52 : (List SBinding)) => Ext.of (.exit 2) [(6, .nilp), (7, .int .i64 0), (8, .ptr 15 0 0)] [(15, ⟨9, true, [[.int .i64 p0.fMapping, .int .i64 p0.fFilter, .int .i64 p0.fTimeout, .bool p0.fHairpin, .str p0.fHost, .int .i64 p0.fLow, .int .i64 p0.fHigh, .int .i64 p1, .ref 600032 0 e52.length]]⟩)] [BT.of 600032 tySBindingO6 7 e52 true] (by rfl))
        (fun e52 =>
          .done (.inr e52))))))
theorem k56_1 (p0 : SNat) (p1 : Int) (p2 : (List SAddr)) : FnB Tryd.prog GG [0, 1, 2, 3, 6, 7, 8, 10, 12, 18, 26, 27, 28, 29, 30, 36, 48, 49, 50, 51, 57] Tryd.f56 [.agg [.int .i64 p0.fMapping, .int .i64 p0.fFilter, .int .i64 p0.fTimeout, .bool p0.fHairpin, .str p0.fHost, .int .i64 p0.fLow, .int .i64 p0.fHigh, .int .i64 p0.fNow, .sl false 7 (List.map tySBinding.c p0.fTable)], .int .i64 p1, .ref 1000000 0 p2.length] (Ext.of .normal (argTs [.agg [.int .i64 p0.fMapping, .int .i64 p0.fFilter, .int .i64 p0.fTimeout, .bool p0.fHairpin, .str p0.fHost, .int .i64 p0.fLow, .int .i64 p0.fHigh, .int .i64 p0.fNow, .sl false 7 (List.map tySBinding.c p0.fTable)], .int .i64 p1, .ref 1000000 0 p2.length]) [] [BT.of 1000000 tySAddr 2 p2 true] (by rfl)) (g56_1 p0 p1 p2) (Sum.elim (fun (r : Int) => .tup [.nilp, .int .i64 r]) (fun (r : (List SBinding)) => .tup [.ptr 15 0 0, .int .i64 0])) (Sum.elim (fun (r : Int) => Ext.of .normal [] [] [] (by rfl)) (fun (r : (List SBinding)) => Ext.of .normal [] [(15, ⟨9, true, [[.int .i64 p0.fMapping, .int .i64 p0.fFilter, .int .i64 p0.fTimeout, .bool p0.fHairpin, .str p0.fHost, .int .i64 p0.fLow, .int .i64 p0.fHigh, .int .i64 p1, .ref 600032 0 r.length]]⟩)] [BT.of 600032 tySBindingO6 7 r true] (by rfl))) := by unfold FnB; kernel_rfl
noncomputable def s56_1 (p0 : SNat) (p1 : Int) (p2 : (List SAddr)) : EV.Spec Tryd.prog GG ((Int) ⊕ ((List SBinding))) := .ofFnB 56 [600032] mixed Tryd.func56 rfl (fun r => by cases r <;> rfl) (k56_1 p0 p1 p2)

/-- (*tannoy nat.router).out -/
noncomputable def g58 (p0 : SAddr) (p1 : SAddr) : TT (SAddr × Int) :=
  .fail
theorem k58 (p0 : SAddr) (p1 : SAddr) : FnD Tryd.prog GG [0, 1, 2, 4, 5, 6, 7, 8, 9, 10, 11, 12, 13, 27, 36, 103] Tryd.f58 [.nilp, .agg [.str p0.fHost, .int .i64 p0.fPort], .agg [.str p1.fHost, .int .i64 p1.fPort]] (g58 p0 p1) (fun r => .tup [.agg [.str r.1.fHost, .int .i64 r.1.fPort], .int .i64 r.2]) := by unfold FnD; kernel_rfl
noncomputable def s58 (p0 : SAddr) (p1 : SAddr) : EV.Spec Tryd.prog GG (SAddr × Int) := .ofFn 58 mixed Tryd.func58 (k58 p0 p1)

/-- tannoy nat.keys 1 -/
noncomputable def g146 (p0 : SAddr) : TT (SAddr) :=
  .done (SAddr.mk ByteArray.empty 0)
theorem k146 (p0 : SAddr) : FnD Tryd.prog GG [0, 2] Tryd.f146 [.agg [.str p0.fHost, .int .i64 p0.fPort]] (g146 p0) (fun r => .agg [.str r.fHost, .int .i64 r.fPort]) := by unfold FnD; kernel_rfl
noncomputable def s146 (p0 : SAddr) : EV.Spec Tryd.prog GG (SAddr) := .ofFn 146 mixed Tryd.func146 (k146 p0)

/-- (*tannoy nat.router).out 1 -/
noncomputable def g86 (p0 : SBinding) (p1 : SAddr) (p2 : SAddr) : TT (Bool) :=
  .cnd 1 [4]
  (.br 1006 ((decide (p0.fInside.fHost = p1.fHost)) && ((p0.fInside.fPort == p1.fPort) && true))
    (.done ((decide (p0.fPeer.fHost = p2.fHost)) && ((p0.fPeer.fPort == p2.fPort) && true)))
    (.done false))
  (fun (c62 : Bool) => [.bool c62]) fun c62 =>
  .done c62
theorem k86 (p0 : SBinding) (p1 : SAddr) (p2 : SAddr) : FnD Tryd.prog GG [0, 1, 2, 3, 4] Tryd.f86 [.agg [.str p0.fInside.fHost, .int .i64 p0.fInside.fPort, .str p0.fPeer.fHost, .int .i64 p0.fPeer.fPort, .int .i64 p0.fPort, .int .i64 p0.fUntil, .sl false 2 (List.map tySAddr.c p0.fOpen)], .snap [.str p1.fHost, .int .i64 p1.fPort], .snap [.str p2.fHost, .int .i64 p2.fPort]] (g86 p0 p1 p2) (fun r => .bool r) := by unfold FnD; kernel_rfl
noncomputable def s86 (p0 : SBinding) (p1 : SAddr) (p2 : SAddr) : EV.Spec Tryd.prog GG (Bool) := .ofFn 86 mixed Tryd.func86 (k86 p0 p1 p2)

/-- slices.IndexFunc   tannoy api.Binding tannoy api.Binding  -/
noncomputable def g115_1 (p0 : (List SBinding)) (p1 : SAddr) (p2 : SAddr) : TT (Int) :=
  .bind2 1
  (.lp (fun (l63 : Int) => Ext.lit .normal [(0, .sl false 7 (List.map tySBinding.c p0)), (1, .fn 86 [] [.snap [.str p1.fHost, .int .i64 p1.fPort], .snap [.str p2.fHost, .int .i64 p2.fPort]]), (4, .int .i64 0), (7, .int .i64 (mlen tySBinding p0)), (8, .int .i64 l63)] [])
    (fun l63 =>
      .br 0 (decide (l63 < (mlen tySBinding p0)))
      (.row 4004 tySBinding p0 l63.toNat (decide (0 ≤ l63)) fun x64 =>
        .call 4006 (s86 x64 p1 p2) [] [] fun r65 =>
        .br 0 r65
        (.done (.inr (.inl l63)))
        (.done (.inl (wi64 (l63 + 1)))))
      (.done (.inr (.inr ()))))
    0)
  (fun (e66 : Int) => Ext.lit .ret [(4, .int .i64 e66)] [])
  (fun (e67 : Unit) => Ext.lit (.exit 0) [(4, .int .i64 0)] [])
  (fun e66 =>
    .done e66)
  (fun e67 =>
    .done (-1))
theorem k115_1 (p0 : (List SBinding)) (p1 : SAddr) (p2 : SAddr) : FnD Tryd.prog GG [0, 1, 4, 5, 7, 8, 9, 16] Tryd.f115 [.sl false 7 (List.map tySBinding.c p0), .fn 86 [] [.snap [.str p1.fHost, .int .i64 p1.fPort], .snap [.str p2.fHost, .int .i64 p2.fPort]]] (g115_1 p0 p1 p2) (fun r => .int .i64 r) := by unfold FnD; kernel_rfl
noncomputable def s115_1 (p0 : (List SBinding)) (p1 : SAddr) (p2 : SAddr) : EV.Spec Tryd.prog GG (Int) := .ofFn 115 mixed Tryd.func115 (k115_1 p0 p1 p2)

/-- (*tannoy nat.router).find -/
noncomputable def g85 (p0 : SRouter) (p1 : SAddr) (p2 : SAddr) : TT (Int) :=
  .call 1007 (s115_1 p0.fNat.fTable p1 p2) [] [] fun r68 =>
  .done r68
theorem k85 (p0 : SRouter) (p1 : SAddr) (p2 : SAddr) : FnD Tryd.prog GG [0, 1, 4] Tryd.f85 [.snap [.int .i64 p0.fNat.fMapping, .int .i64 p0.fNat.fFilter, .int .i64 p0.fNat.fTimeout, .bool p0.fNat.fHairpin, .str p0.fNat.fHost, .int .i64 p0.fNat.fLow, .int .i64 p0.fNat.fHigh, .int .i64 p0.fNat.fNow, .sl false 7 (List.map tySBinding.c p0.fNat.fTable)], .fn 86 [] [.snap [.str p1.fHost, .int .i64 p1.fPort], .snap [.str p2.fHost, .int .i64 p2.fPort]]] (g85 p0 p1 p2) (fun r => .int .i64 r) := by unfold FnD; kernel_rfl
noncomputable def s85 (p0 : SRouter) (p1 : SAddr) (p2 : SAddr) : EV.Spec Tryd.prog GG (Int) := .ofFn 85 mixed Tryd.func85 (k85 p0 p1 p2)


/-- slices.Index   tannoy api.Addr tannoy api.Addr  -/
noncomputable def g117 (p0 : (List SAddr)) (p1 : SAddr) : TT (Int) :=
  .bind2 1
  (.lp (fun (l81 : Int) => Ext.lit .normal [(0, .sl false 2 (List.map tySAddr.c p0)), (3, .ptr 3 0 0), (4, .int .i64 0), (7, .int .i64 (mlen tySAddr p0)), (8, .int .i64 l81)] [(3, ⟨2, true, [[.str p1.fHost, .int .i64 p1.fPort]]⟩)])
    (fun l81 =>
      .br 0 (decide (l81 < (mlen tySAddr p0)))
      (.row 4004 tySAddr p0 l81.toNat (decide (0 ≤ l81)) fun x82 =>
        .br 0 ((decide (p1.fHost = x82.fHost)) && ((p1.fPort == x82.fPort) && true))
        (.done (.inr (.inl l81)))
        (.done (.inl (wi64 (l81 + 1)))))
      (.done (.inr (.inr ()))))
    0)
  (fun (e83 : Int) => Ext.lit .ret [(4, .int .i64 e83)] [])
  (fun (e84 : Unit) => Ext.lit (.exit 0) [(4, .int .i64 0)] [])
  (fun e83 =>
    .done e83)
  (fun e84 =>
    .done (-1))
theorem k117 (p0 : (List SAddr)) (p1 : SAddr) : FnD Tryd.prog GG [0, 1, 3, 4, 5, 7, 8, 9, 16] Tryd.f117 [.sl false 2 (List.map tySAddr.c p0), .agg [.str p1.fHost, .int .i64 p1.fPort]] (g117 p0 p1) (fun r => .int .i64 r) := by unfold FnD; kernel_rfl
noncomputable def s117 (p0 : (List SAddr)) (p1 : SAddr) : EV.Spec Tryd.prog GG (Int) := .ofFn 117 mixed Tryd.func117 (k117 p0 p1)

/-- slices.Contains   tannoy api.Addr tannoy api.Addr  -/
noncomputable def g88 (p0 : (List SAddr)) (p1 : SAddr) : TT (Bool) :=
  .call 1003 (s117 p0 p1) [] [] fun r85 =>
  .done (decide ((0 : Int) ≤ r85))
theorem k88 (p0 : (List SAddr)) (p1 : SAddr) : FnD Tryd.prog GG [0, 1, 3, 4] Tryd.f88 [.sl false 2 (List.map tySAddr.c p0), .agg [.str p1.fHost, .int .i64 p1.fPort]] (g88 p0 p1) (fun r => .bool r) := by unfold FnD; kernel_rfl
noncomputable def s88 (p0 : (List SAddr)) (p1 : SAddr) : EV.Spec Tryd.prog GG (Bool) := .ofFn 88 mixed Tryd.func88 (k88 p0 p1)

/-- tannoy nat.keys 2 -/
noncomputable def g147 (p0 : SAddr) : TT (SAddr) :=
  .done (SAddr.mk p0.fHost 0)
theorem k147 (p0 : SAddr) : FnD Tryd.prog GG [0, 1, 2] Tryd.f147 [.agg [.str p0.fHost, .int .i64 p0.fPort]] (g147 p0) (fun r => .agg [.str r.fHost, .int .i64 r.fPort]) := by unfold FnD; kernel_rfl
noncomputable def s147 (p0 : SAddr) : EV.Spec Tryd.prog GG (SAddr) := .ofFn 147 mixed Tryd.func147 (k147 p0)

/-- tannoy nat.keys 3 -/
noncomputable def g148 (p0 : SAddr) : TT (SAddr) :=
  .done p0
theorem k148 (p0 : SAddr) : FnD Tryd.prog GG [0, 1, 2] Tryd.f148 [.agg [.str p0.fHost, .int .i64 p0.fPort]] (g148 p0) (fun r => .agg [.str r.fHost, .int .i64 r.fPort]) := by unfold FnD; kernel_rfl
noncomputable def s148 (p0 : SAddr) : EV.Spec Tryd.prog GG (SAddr) := .ofFn 148 mixed Tryd.func148 (k148 p0)

/-- (*tannoy nat.router).out -/
noncomputable def g58_1 (p0 : SAddr) (p1 : SAddr) (p2 : Int) (p3 : Int) (p4 : Int) (p5 : Bool) (p6 : ByteArray) (p7 : Int) (p8 : Int) (p9 : Int) (p10 : (List SBinding)) : TT ((List SBinding) × Int × ByteArray × Int) :=
  .ceq 1006 p2 [0, 1, 2, 3] (fun v => bif v == 0 then .fail else bif v == 1 then .call 1009 (s146 p1) [] [] fun r103 =>
    .view 2003 (s85 (SRouter.mk (SNat.mk p2 p3 p4 p5 p6 p7 p8 p9 p10)) p0 r103) [⟨1000001, _, tySBindingO6, p10⟩] fun r104 =>
    .bind2 0
    (.br 0 (decide (r104 < 0))
      (.view 4004 (s87 (SRouter.mk (SNat.mk p2 p3 p4 p5 p6 p7 p8 p9 p10)) p0.fPort) [⟨1000001, _, tySBindingO6, p10⟩] fun r105 =>
        .br 0 (!r105.isSome)
        (.done (.inl ()))
        (.app 8012 tySBindingO6 p10 [(SBinding.mk p0 r103 (r105.getD 0) 0 [])] 88 false (by intro h; cases h) (.gh 0 (.ren 55 600041) (.done (.inr ((p10 ++ [(SBinding.mk p0 r103 (r105.getD 0) 0 [])]), (p10.length : Int)))))))
      (.gh 0 (.ren 1000001 600041) (.done (.inr (p10, r104)))))
    (fun (e106 : Unit) => Ext.of .ret [(0, .ptr 1000000 0 0), (5, .ptr 5 0 0), (6, .ptr 6 0 0), (7, .int .i64 4), (9, .int .i64 r104)] [(5, ⟨2, true, [[.str p1.fHost, .int .i64 p1.fPort]]⟩), (6, ⟨2, true, [[.str ByteArray.empty, .int .i64 0]]⟩), (1000000, ⟨9, true, [[.int .i64 p2, .int .i64 p3, .int .i64 p4, .bool p5, .str p6, .int .i64 p7, .int .i64 p8, .int .i64 p9, .ref 1000001 0 p10.length]]⟩)] [BT.of 1000001 tySBindingO6 7 p10 true] (by rfl))
    (fun (e107 : (List SBinding) × Int) => Ext.of .normal [(0, .ptr 1000000 0 0), (5, .ptr 5 0 0), (6, .ptr 6 0 0), (7, .int .i64 0), (9, .int .i64 e107.2)] [(5, ⟨2, true, [[.str p1.fHost, .int .i64 p1.fPort]]⟩), (6, ⟨2, true, [[.str ByteArray.empty, .int .i64 0]]⟩), (1000000, ⟨9, true, [[.int .i64 p2, .int .i64 p3, .int .i64 p4, .bool p5, .str p6, .int .i64 p7, .int .i64 p8, .int .i64 p9, .ref 600041 0 e107.1.length]]⟩)] [BT.of 600041 tySBindingO6 7 e107.1 true] (by rfl))
    (fun e106 =>
      .gh 0 (.ren 1000001 660000) (.done (p10, 4, ByteArray.empty, 0)))
    (fun e107 =>
      .chk 9007 (decide (0 ≤ e107.2) && decide (e107.2 < (e107.1.length : Int))) (.row 10015 tySBindingO6 e107.1 (0 + e107.2.toNat) true fun x108 =>
      .re 10015 (ReW.put 600041 7 tySBindingO6 e107.1 (0 + e107.2.toNat) (SBinding.mk x108.fInside x108.fPeer x108.fPort (wi64 (p9 + p4)) x108.fOpen)) (.gh 13 (.len 600041 ((e107.1.set (0 + e107.2.toNat) (SBinding.mk x108.fInside x108.fPeer x108.fPort (wi64 (p9 + p4)) x108.fOpen)).length) [e107.1.length] (by simp)) (.ceq 11006 p3 [0, 1, 2, 3] (fun v => bif v == 0 then .fail else bif v == 1 then .call 11009 (s146 p1) [] [] fun r109 =>
        .cnd 12 [103]
        (.br 12008 (p3 != 1)
          (.row 12011 tySBindingO6 (e107.1.set (0 + e107.2.toNat) (SBinding.mk x108.fInside x108.fPeer x108.fPort (wi64 (p9 + p4)) x108.fOpen)) (0 + e107.2.toNat) true fun x110 =>
            .call 12013 (s88 x110.fOpen r109) [] [] fun r111 =>
            .done (!r111))
          (.done false))
        (fun (c112 : Bool) => [.bool c112]) fun c112 =>
        .bind 0
        (.br 0 c112
          (.rowt 13005 tySBindingO6 (e107.1.set (0 + e107.2.toNat) (SBinding.mk x108.fInside x108.fPeer x108.fPort (wi64 (p9 + p4)) x108.fOpen)) (0 + e107.2.toNat) 6 fun x113 =>
            .re 13005 (ReW.take 600041 7 true tySBindingO6 (e107.1.set (0 + e107.2.toNat) (SBinding.mk x108.fInside x108.fPeer x108.fPort (wi64 (p9 + p4)) x108.fOpen)) (0 + e107.2.toNat) [.str x113.fInside.fHost, .int .i64 x113.fInside.fPort, .str x113.fPeer.fHost, .int .i64 x113.fPeer.fPort, .int .i64 x113.fPort, .int .i64 x113.fUntil, .sl false 2 (List.map tySAddr.c x113.fOpen)] rfl 108 2 tySAddr x113.fOpen (fun _ => rfl) (fun n => .ref 108 0 n)) (.app 13008 tySAddr x113.fOpen [r109] 24 false (by intro h; cases h) (.nst 13011 tySBindingO6 (e107.1.set (0 + e107.2.toNat) (SBinding.mk x108.fInside x108.fPeer x108.fPort (wi64 (p9 + p4)) x108.fOpen)) [.str x113.fInside.fHost, .int .i64 x113.fInside.fPort, .str x113.fPeer.fHost, .int .i64 x113.fPeer.fPort, .int .i64 x113.fPort, .int .i64 x113.fUntil, .sl false 2 (List.map tySAddr.c x113.fOpen)] (0 + e107.2.toNat) 6 (SBinding.mk x113.fInside x113.fPeer x113.fPort x113.fUntil (x113.fOpen ++ [r109])) tySAddr (x113.fOpen ++ [r109]) none (.gh 16 (.len 600041 (((e107.1.set (0 + e107.2.toNat) (SBinding.mk x108.fInside x108.fPeer x108.fPort (wi64 (p9 + p4)) x108.fOpen)).set (0 + e107.2.toNat) (SBinding.mk x113.fInside x113.fPeer x113.fPort x113.fUntil (x113.fOpen ++ [r109]))).length) [(e107.1.set (0 + e107.2.toNat) (SBinding.mk x108.fInside x108.fPeer x108.fPort (wi64 (p9 + p4)) x108.fOpen)).length] (by simp)) (.rowg 16 600041 500042 tySBindingO6 ((e107.1.set (0 + e107.2.toNat) (SBinding.mk x108.fInside x108.fPeer x108.fPort (wi64 (p9 + p4)) x108.fOpen)).set (0 + e107.2.toNat) (SBinding.mk x113.fInside x113.fPeer x113.fPort x113.fUntil (x113.fOpen ++ [r109]))) (0 + e107.2.toNat) 6 2 tySAddr (fun x114 => x114.fOpen) (fun _ => rfl) (fun _ => rfl) fun x114 =>
            .hrow 14005 tySBindingO6 ((e107.1.set (0 + e107.2.toNat) (SBinding.mk x108.fInside x108.fPeer x108.fPort (wi64 (p9 + p4)) x108.fOpen)).set (0 + e107.2.toNat) (SBinding.mk x113.fInside x113.fPeer x113.fPort x113.fUntil (x113.fOpen ++ [r109]))) [.str x114.fInside.fHost, .int .i64 x114.fInside.fPort, .str x114.fPeer.fHost, .int .i64 x114.fPeer.fPort, .int .i64 x114.fPort, .int .i64 x114.fUntil, .ref 500042 0 x114.fOpen.length] (0 + e107.2.toNat) (.hrow 14009 tySBindingO6 ((e107.1.set (0 + e107.2.toNat) (SBinding.mk x108.fInside x108.fPeer x108.fPort (wi64 (p9 + p4)) x108.fOpen)).set (0 + e107.2.toNat) (SBinding.mk x113.fInside x113.fPeer x113.fPort x113.fUntil (x113.fOpen ++ [r109]))) [.str x114.fInside.fHost, .int .i64 x114.fInside.fPort, .str x114.fPeer.fHost, .int .i64 x114.fPeer.fPort, .int .i64 x114.fPort, .int .i64 x114.fUntil, .ref 500042 0 x114.fOpen.length] (0 + e107.2.toNat) (.chk 14013 (decide (0 ≤ (if (wi64 ((x114.fOpen.length : Int) - 16)) > (0 : Int) then (wi64 ((x114.fOpen.length : Int) - 16)) else (0 : Int))) && decide ((if (wi64 ((x114.fOpen.length : Int) - 16)) > (0 : Int) then (wi64 ((x114.fOpen.length : Int) - 16)) else (0 : Int)) ≤ (x114.fOpen.length : Int))) (.nst 14016 tySBindingO6 ((e107.1.set (0 + e107.2.toNat) (SBinding.mk x108.fInside x108.fPeer x108.fPort (wi64 (p9 + p4)) x108.fOpen)).set (0 + e107.2.toNat) (SBinding.mk x113.fInside x113.fPeer x113.fPort x113.fUntil (x113.fOpen ++ [r109]))) [.str x114.fInside.fHost, .int .i64 x114.fInside.fPort, .str x114.fPeer.fHost, .int .i64 x114.fPeer.fPort, .int .i64 x114.fPort, .int .i64 x114.fUntil, .ref 500042 0 x114.fOpen.length] (0 + e107.2.toNat) 6 (SBinding.mk x114.fInside x114.fPeer x114.fPort x114.fUntil (x114.fOpen.drop ((if (wi64 ((x114.fOpen.length : Int) - 16)) > (0 : Int) then (wi64 ((x114.fOpen.length : Int) - 16)) else (0 : Int)).toNat))) tySAddr x114.fOpen (some ((if (wi64 ((x114.fOpen.length : Int) - 16)) > (0 : Int) then (wi64 ((x114.fOpen.length : Int) - 16)) else (0 : Int)).toNat)) (.gh 0 (.len 600041 ((((e107.1.set (0 + e107.2.toNat) (SBinding.mk x108.fInside x108.fPeer x108.fPort (wi64 (p9 + p4)) x108.fOpen)).set (0 + e107.2.toNat) (SBinding.mk x113.fInside x113.fPeer x113.fPort x113.fUntil (x113.fOpen ++ [r109]))).set (0 + e107.2.toNat) (SBinding.mk x114.fInside x114.fPeer x114.fPort x114.fUntil (x114.fOpen.drop ((if (wi64 ((x114.fOpen.length : Int) - 16)) > (0 : Int) then (wi64 ((x114.fOpen.length : Int) - 16)) else (0 : Int)).toNat)))).length) [((e107.1.set (0 + e107.2.toNat) (SBinding.mk x108.fInside x108.fPeer x108.fPort (wi64 (p9 + p4)) x108.fOpen)).set (0 + e107.2.toNat) (SBinding.mk x113.fInside x113.fPeer x113.fPort x113.fUntil (x113.fOpen ++ [r109]))).length] (by simp)) (.done (((e107.1.set (0 + e107.2.toNat) (SBinding.mk x108.fInside x108.fPeer x108.fPort (wi64 (p9 + p4)) x108.fOpen)).set (0 + e107.2.toNat) (SBinding.mk x113.fInside x113.fPeer x113.fPort x113.fUntil (x113.fOpen ++ [r109]))).set (0 + e107.2.toNat) (SBinding.mk x114.fInside x114.fPeer x114.fPort x114.fUntil (x114.fOpen.drop ((if (wi64 ((x114.fOpen.length : Int) - 16)) > (0 : Int) then (wi64 ((x114.fOpen.length : Int) - 16)) else (0 : Int)).toNat))))))))))))))
          (.done (e107.1.set (0 + e107.2.toNat) (SBinding.mk x108.fInside x108.fPeer x108.fPort (wi64 (p9 + p4)) x108.fOpen))))
        (fun (e115 : (List SBinding)) => Ext.of .normal [(0, .ptr 1000000 0 0), (6, .ptr 6 0 0), (7, .int .i64 0), (12, .ptr 600041 (0 + e107.2.toNat) 0)] [(6, ⟨2, true, [[.str ByteArray.empty, .int .i64 0]]⟩), (1000000, ⟨9, true, [[.int .i64 p2, .int .i64 p3, .int .i64 p4, .bool p5, .str p6, .int .i64 p7, .int .i64 p8, .int .i64 p9, .ref 600041 0 e115.length]]⟩)] [BT.of 600041 tySBindingO6 7 e115 true] (by rfl))
        (fun e115 =>
          .row 15009 tySBindingO6 e115 (0 + e107.2.toNat) true fun x116 =>
          .gh 0 (.ren 600041 660000) (.done (e115, 0, p6, x116.fPort))) else bif v == 2 then .call 11009 (s147 p1) [] [] fun r117 =>
        .cnd 12 [103]
        (.br 12008 (p3 != 1)
          (.row 12011 tySBindingO6 (e107.1.set (0 + e107.2.toNat) (SBinding.mk x108.fInside x108.fPeer x108.fPort (wi64 (p9 + p4)) x108.fOpen)) (0 + e107.2.toNat) true fun x118 =>
            .call 12013 (s88 x118.fOpen r117) [] [] fun r119 =>
            .done (!r119))
          (.done false))
        (fun (c120 : Bool) => [.bool c120]) fun c120 =>
        .bind 0
        (.br 0 c120
          (.rowt 13005 tySBindingO6 (e107.1.set (0 + e107.2.toNat) (SBinding.mk x108.fInside x108.fPeer x108.fPort (wi64 (p9 + p4)) x108.fOpen)) (0 + e107.2.toNat) 6 fun x121 =>
            .re 13005 (ReW.take 600041 7 true tySBindingO6 (e107.1.set (0 + e107.2.toNat) (SBinding.mk x108.fInside x108.fPeer x108.fPort (wi64 (p9 + p4)) x108.fOpen)) (0 + e107.2.toNat) [.str x121.fInside.fHost, .int .i64 x121.fInside.fPort, .str x121.fPeer.fHost, .int .i64 x121.fPeer.fPort, .int .i64 x121.fPort, .int .i64 x121.fUntil, .sl false 2 (List.map tySAddr.c x121.fOpen)] rfl 108 2 tySAddr x121.fOpen (fun _ => rfl) (fun n => .ref 108 0 n)) (.app 13008 tySAddr x121.fOpen [r117] 24 false (by intro h; cases h) (.nst 13011 tySBindingO6 (e107.1.set (0 + e107.2.toNat) (SBinding.mk x108.fInside x108.fPeer x108.fPort (wi64 (p9 + p4)) x108.fOpen)) [.str x121.fInside.fHost, .int .i64 x121.fInside.fPort, .str x121.fPeer.fHost, .int .i64 x121.fPeer.fPort, .int .i64 x121.fPort, .int .i64 x121.fUntil, .sl false 2 (List.map tySAddr.c x121.fOpen)] (0 + e107.2.toNat) 6 (SBinding.mk x121.fInside x121.fPeer x121.fPort x121.fUntil (x121.fOpen ++ [r117])) tySAddr (x121.fOpen ++ [r117]) none (.gh 16 (.len 600041 (((e107.1.set (0 + e107.2.toNat) (SBinding.mk x108.fInside x108.fPeer x108.fPort (wi64 (p9 + p4)) x108.fOpen)).set (0 + e107.2.toNat) (SBinding.mk x121.fInside x121.fPeer x121.fPort x121.fUntil (x121.fOpen ++ [r117]))).length) [(e107.1.set (0 + e107.2.toNat) (SBinding.mk x108.fInside x108.fPeer x108.fPort (wi64 (p9 + p4)) x108.fOpen)).length] (by simp)) (.rowg 16 600041 500043 tySBindingO6 ((e107.1.set (0 + e107.2.toNat) (SBinding.mk x108.fInside x108.fPeer x108.fPort (wi64 (p9 + p4)) x108.fOpen)).set (0 + e107.2.toNat) (SBinding.mk x121.fInside x121.fPeer x121.fPort x121.fUntil (x121.fOpen ++ [r117]))) (0 + e107.2.toNat) 6 2 tySAddr (fun x122 => x122.fOpen) (fun _ => rfl) (fun _ => rfl) fun x122 =>
            .hrow 14005 tySBindingO6 ((e107.1.set (0 + e107.2.toNat) (SBinding.mk x108.fInside x108.fPeer x108.fPort (wi64 (p9 + p4)) x108.fOpen)).set (0 + e107.2.toNat) (SBinding.mk x121.fInside x121.fPeer x121.fPort x121.fUntil (x121.fOpen ++ [r117]))) [.str x122.fInside.fHost, .int .i64 x122.fInside.fPort, .str x122.fPeer.fHost, .int .i64 x122.fPeer.fPort, .int .i64 x122.fPort, .int .i64 x122.fUntil, .ref 500043 0 x122.fOpen.length] (0 + e107.2.toNat) (.hrow 14009 tySBindingO6 ((e107.1.set (0 + e107.2.toNat) (SBinding.mk x108.fInside x108.fPeer x108.fPort (wi64 (p9 + p4)) x108.fOpen)).set (0 + e107.2.toNat) (SBinding.mk x121.fInside x121.fPeer x121.fPort x121.fUntil (x121.fOpen ++ [r117]))) [.str x122.fInside.fHost, .int .i64 x122.fInside.fPort, .str x122.fPeer.fHost, .int .i64 x122.fPeer.fPort, .int .i64 x122.fPort, .int .i64 x122.fUntil, .ref 500043 0 x122.fOpen.length] (0 + e107.2.toNat) (.chk 14013 (decide (0 ≤ (if (wi64 ((x122.fOpen.length : Int) - 16)) > (0 : Int) then (wi64 ((x122.fOpen.length : Int) - 16)) else (0 : Int))) && decide ((if (wi64 ((x122.fOpen.length : Int) - 16)) > (0 : Int) then (wi64 ((x122.fOpen.length : Int) - 16)) else (0 : Int)) ≤ (x122.fOpen.length : Int))) (.nst 14016 tySBindingO6 ((e107.1.set (0 + e107.2.toNat) (SBinding.mk x108.fInside x108.fPeer x108.fPort (wi64 (p9 + p4)) x108.fOpen)).set (0 + e107.2.toNat) (SBinding.mk x121.fInside x121.fPeer x121.fPort x121.fUntil (x121.fOpen ++ [r117]))) [.str x122.fInside.fHost, .int .i64 x122.fInside.fPort, .str x122.fPeer.fHost, .int .i64 x122.fPeer.fPort, .int .i64 x122.fPort, .int .i64 x122.fUntil, .ref 500043 0 x122.fOpen.length] (0 + e107.2.toNat) 6 (SBinding.mk x122.fInside x122.fPeer x122.fPort x122.fUntil (x122.fOpen.drop ((if (wi64 ((x122.fOpen.length : Int) - 16)) > (0 : Int) then (wi64 ((x122.fOpen.length : Int) - 16)) else (0 : Int)).toNat))) tySAddr x122.fOpen (some ((if (wi64 ((x122.fOpen.length : Int) - 16)) > (0 : Int) then (wi64 ((x122.fOpen.length : Int) - 16)) else (0 : Int)).toNat)) (.gh 0 (.len 600041 ((((e107.1.set (0 + e107.2.toNat) (SBinding.mk x108.fInside x108.fPeer x108.fPort (wi64 (p9 + p4)) x108.fOpen)).set (0 + e107.2.toNat) (SBinding.mk x121.fInside x121.fPeer x121.fPort x121.fUntil (x121.fOpen ++ [r117]))).set (0 + e107.2.toNat) (SBinding.mk x122.fInside x122.fPeer x122.fPort x122.fUntil (x122.fOpen.drop ((if (wi64 ((x122.fOpen.length : Int) - 16)) > (0 : Int) then (wi64 ((x122.fOpen.length : Int) - 16)) else (0 : Int)).toNat)))).length) [((e107.1.set (0 + e107.2.toNat) (SBinding.mk x108.fInside x108.fPeer x108.fPort (wi64 (p9 + p4)) x108.fOpen)).set (0 + e107.2.toNat) (SBinding.mk x121.fInside x121.fPeer x121.fPort x121.fUntil (x121.fOpen ++ [r117]))).length] (by simp)) (.done (((e107.1.set (0 + e107.2.toNat) (SBinding.mk x108.fInside x108.fPeer x108.fPort (wi64 (p9 + p4)) x108.fOpen)).set (0 + e107.2.toNat) (SBinding.mk x121.fInside x121.fPeer x121.fPort x121.fUntil (x121.fOpen ++ [r117]))).set (0 + e107.2.toNat) (SBinding.mk x122.fInside x122.fPeer x122.fPort x122.fUntil (x122.fOpen.drop ((if (wi64 ((x122.fOpen.length : Int) - 16)) > (0 : Int) then (wi64 ((x122.fOpen.length : Int) - 16)) else (0 : Int)).toNat))))))))))))))
          (.done (e107.1.set (0 + e107.2.toNat) (SBinding.mk x108.fInside x108.fPeer x108.fPort (wi64 (p9 + p4)) x108.fOpen))))
        (fun (e123 : (List SBinding)) => Ext.of .normal [(0, .ptr 1000000 0 0), (6, .ptr 6 0 0), (7, .int .i64 0), (12, .ptr 600041 (0 + e107.2.toNat) 0)] [(6, ⟨2, true, [[.str ByteArray.empty, .int .i64 0]]⟩), (1000000, ⟨9, true, [[.int .i64 p2, .int .i64 p3, .int .i64 p4, .bool p5, .str p6, .int .i64 p7, .int .i64 p8, .int .i64 p9, .ref 600041 0 e123.length]]⟩)] [BT.of 600041 tySBindingO6 7 e123 true] (by rfl))
        (fun e123 =>
          .row 15009 tySBindingO6 e123 (0 + e107.2.toNat) true fun x124 =>
          .gh 0 (.ren 600041 660000) (.done (e123, 0, p6, x124.fPort))) else bif v == 3 then .call 11009 (s148 p1) [] [] fun r125 =>
        .cnd 12 [103]
        (.br 12008 (p3 != 1)
          (.row 12011 tySBindingO6 (e107.1.set (0 + e107.2.toNat) (SBinding.mk x108.fInside x108.fPeer x108.fPort (wi64 (p9 + p4)) x108.fOpen)) (0 + e107.2.toNat) true fun x126 =>
            .call 12013 (s88 x126.fOpen r125) [] [] fun r127 =>
            .done (!r127))
          (.done false))
        (fun (c128 : Bool) => [.bool c128]) fun c128 =>
        .bind 0
        (.br 0 c128
          (.rowt 13005 tySBindingO6 (e107.1.set (0 + e107.2.toNat) (SBinding.mk x108.fInside x108.fPeer x108.fPort (wi64 (p9 + p4)) x108.fOpen)) (0 + e107.2.toNat) 6 fun x129 =>
            .re 13005 (ReW.take 600041 7 true tySBindingO6 (e107.1.set (0 + e107.2.toNat) (SBinding.mk x108.fInside x108.fPeer x108.fPort (wi64 (p9 + p4)) x108.fOpen)) (0 + e107.2.toNat) [.str x129.fInside.fHost, .int .i64 x129.fInside.fPort, .str x129.fPeer.fHost, .int .i64 x129.fPeer.fPort, .int .i64 x129.fPort, .int .i64 x129.fUntil, .sl false 2 (List.map tySAddr.c x129.fOpen)] rfl 108 2 tySAddr x129.fOpen (fun _ => rfl) (fun n => .ref 108 0 n)) (.app 13008 tySAddr x129.fOpen [r125] 24 false (by intro h; cases h) (.nst 13011 tySBindingO6 (e107.1.set (0 + e107.2.toNat) (SBinding.mk x108.fInside x108.fPeer x108.fPort (wi64 (p9 + p4)) x108.fOpen)) [.str x129.fInside.fHost, .int .i64 x129.fInside.fPort, .str x129.fPeer.fHost, .int .i64 x129.fPeer.fPort, .int .i64 x129.fPort, .int .i64 x129.fUntil, .sl false 2 (List.map tySAddr.c x129.fOpen)] (0 + e107.2.toNat) 6 (SBinding.mk x129.fInside x129.fPeer x129.fPort x129.fUntil (x129.fOpen ++ [r125])) tySAddr (x129.fOpen ++ [r125]) none (.gh 16 (.len 600041 (((e107.1.set (0 + e107.2.toNat) (SBinding.mk x108.fInside x108.fPeer x108.fPort (wi64 (p9 + p4)) x108.fOpen)).set (0 + e107.2.toNat) (SBinding.mk x129.fInside x129.fPeer x129.fPort x129.fUntil (x129.fOpen ++ [r125]))).length) [(e107.1.set (0 + e107.2.toNat) (SBinding.mk x108.fInside x108.fPeer x108.fPort (wi64 (p9 + p4)) x108.fOpen)).length] (by simp)) (.rowg 16 600041 500044 tySBindingO6 ((e107.1.set (0 + e107.2.toNat) (SBinding.mk x108.fInside x108.fPeer x108.fPort (wi64 (p9 + p4)) x108.fOpen)).set (0 + e107.2.toNat) (SBinding.mk x129.fInside x129.fPeer x129.fPort x129.fUntil (x129.fOpen ++ [r125]))) (0 + e107.2.toNat) 6 2 tySAddr (fun x130 => x130.fOpen) (fun _ => rfl) (fun _ => rfl) fun x130 =>
            .hrow 14005 tySBindingO6 ((e107.1.set (0 + e107.2.toNat) (SBinding.mk x108.fInside x108.fPeer x108.fPort (wi64 (p9 + p4)) x108.fOpen)).set (0 + e107.2.toNat) (SBinding.mk x129.fInside x129.fPeer x129.fPort x129.fUntil (x129.fOpen ++ [r125]))) [.str x130.fInside.fHost, .int .i64 x130.fInside.fPort, .str x130.fPeer.fHost, .int .i64 x130.fPeer.fPort, .int .i64 x130.fPort, .int .i64 x130.fUntil, .ref 500044 0 x130.fOpen.length] (0 + e107.2.toNat) (.hrow 14009 tySBindingO6 ((e107.1.set (0 + e107.2.toNat) (SBinding.mk x108.fInside x108.fPeer x108.fPort (wi64 (p9 + p4)) x108.fOpen)).set (0 + e107.2.toNat) (SBinding.mk x129.fInside x129.fPeer x129.fPort x129.fUntil (x129.fOpen ++ [r125]))) [.str x130.fInside.fHost, .int .i64 x130.fInside.fPort, .str x130.fPeer.fHost, .int .i64 x130.fPeer.fPort, .int .i64 x130.fPort, .int .i64 x130.fUntil, .ref 500044 0 x130.fOpen.length] (0 + e107.2.toNat) (.chk 14013 (decide (0 ≤ (if (wi64 ((x130.fOpen.length : Int) - 16)) > (0 : Int) then (wi64 ((x130.fOpen.length : Int) - 16)) else (0 : Int))) && decide ((if (wi64 ((x130.fOpen.length : Int) - 16)) > (0 : Int) then (wi64 ((x130.fOpen.length : Int) - 16)) else (0 : Int)) ≤ (x130.fOpen.length : Int))) (.nst 14016 tySBindingO6 ((e107.1.set (0 + e107.2.toNat) (SBinding.mk x108.fInside x108.fPeer x108.fPort (wi64 (p9 + p4)) x108.fOpen)).set (0 + e107.2.toNat) (SBinding.mk x129.fInside x129.fPeer x129.fPort x129.fUntil (x129.fOpen ++ [r125]))) [.str x130.fInside.fHost, .int .i64 x130.fInside.fPort, .str x130.fPeer.fHost, .int .i64 x130.fPeer.fPort, .int .i64 x130.fPort, .int .i64 x130.fUntil, .ref 500044 0 x130.fOpen.length] (0 + e107.2.toNat) 6 (SBinding.mk x130.fInside x130.fPeer x130.fPort x130.fUntil (x130.fOpen.drop ((if (wi64 ((x130.fOpen.length : Int) - 16)) > (0 : Int) then (wi64 ((x130.fOpen.length : Int) - 16)) else (0 : Int)).toNat))) tySAddr x130.fOpen (some ((if (wi64 ((x130.fOpen.length : Int) - 16)) > (0 : Int) then (wi64 ((x130.fOpen.length : Int) - 16)) else (0 : Int)).toNat)) (.gh 0 (.len 600041 ((((e107.1.set (0 + e107.2.toNat) (SBinding.mk x108.fInside x108.fPeer x108.fPort (wi64 (p9 + p4)) x108.fOpen)).set (0 + e107.2.toNat) (SBinding.mk x129.fInside x129.fPeer x129.fPort x129.fUntil (x129.fOpen ++ [r125]))).set (0 + e107.2.toNat) (SBinding.mk x130.fInside x130.fPeer x130.fPort x130.fUntil (x130.fOpen.drop ((if (wi64 ((x130.fOpen.length : Int) - 16)) > (0 : Int) then (wi64 ((x130.fOpen.length : Int) - 16)) else (0 : Int)).toNat)))).length) [((e107.1.set (0 + e107.2.toNat) (SBinding.mk x108.fInside x108.fPeer x108.fPort (wi64 (p9 + p4)) x108.fOpen)).set (0 + e107.2.toNat) (SBinding.mk x129.fInside x129.fPeer x129.fPort x129.fUntil (x129.fOpen ++ [r125]))).length] (by simp)) (.done (((e107.1.set (0 + e107.2.toNat) (SBinding.mk x108.fInside x108.fPeer x108.fPort (wi64 (p9 + p4)) x108.fOpen)).set (0 + e107.2.toNat) (SBinding.mk x129.fInside x129.fPeer x129.fPort x129.fUntil (x129.fOpen ++ [r125]))).set (0 + e107.2.toNat) (SBinding.mk x130.fInside x130.fPeer x130.fPort x130.fUntil (x130.fOpen.drop ((if (wi64 ((x130.fOpen.length : Int) - 16)) > (0 : Int) then (wi64 ((x130.fOpen.length : Int) - 16)) else (0 : Int)).toNat))))))))))))))
          (.done (e107.1.set (0 + e107.2.toNat) (SBinding.mk x108.fInside x108.fPeer x108.fPort (wi64 (p9 + p4)) x108.fOpen))))
        (fun (e131 : (List SBinding)) => Ext.of .normal [(0, .ptr 1000000 0 0), (6, .ptr 6 0 0), (7, .int .i64 0), (12, .ptr 600041 (0 + e107.2.toNat) 0)] [(6, ⟨2, true, [[.str ByteArray.empty, .int .i64 0]]⟩), (1000000, ⟨9, true, [[.int .i64 p2, .int .i64 p3, .int .i64 p4, .bool p5, .str p6, .int .i64 p7, .int .i64 p8, .int .i64 p9, .ref 600041 0 e131.length]]⟩)] [BT.of 600041 tySBindingO6 7 e131 true] (by rfl))
        (fun e131 =>
          .row 15009 tySBindingO6 e131 (0 + e107.2.toNat) true fun x132 =>
          .gh 0 (.ren 600041 660000) (.done (e131, 0, p6, x132.fPort))) else .fail))))) else bif v == 2 then .call 1009 (s147 p1) [] [] fun r133 =>
    .view 2003 (s85 (SRouter.mk (SNat.mk p2 p3 p4 p5 p6 p7 p8 p9 p10)) p0 r133) [⟨1000001, _, tySBindingO6, p10⟩] fun r134 =>
    .bind2 0
    (.br 0 (decide (r134 < 0))
      (.view 4004 (s87 (SRouter.mk (SNat.mk p2 p3 p4 p5 p6 p7 p8 p9 p10)) p0.fPort) [⟨1000001, _, tySBindingO6, p10⟩] fun r135 =>
        .br 0 (!r135.isSome)
        (.done (.inl ()))
        (.app 8012 tySBindingO6 p10 [(SBinding.mk p0 r133 (r135.getD 0) 0 [])] 88 false (by intro h; cases h) (.gh 0 (.ren 55 600045) (.done (.inr ((p10 ++ [(SBinding.mk p0 r133 (r135.getD 0) 0 [])]), (p10.length : Int)))))))
      (.gh 0 (.ren 1000001 600045) (.done (.inr (p10, r134)))))
    (fun (e136 : Unit) => Ext.of .ret [(0, .ptr 1000000 0 0), (5, .ptr 5 0 0), (6, .ptr 6 0 0), (7, .int .i64 4), (9, .int .i64 r134)] [(5, ⟨2, true, [[.str p1.fHost, .int .i64 p1.fPort]]⟩), (6, ⟨2, true, [[.str ByteArray.empty, .int .i64 0]]⟩), (1000000, ⟨9, true, [[.int .i64 p2, .int .i64 p3, .int .i64 p4, .bool p5, .str p6, .int .i64 p7, .int .i64 p8, .int .i64 p9, .ref 1000001 0 p10.length]]⟩)] [BT.of 1000001 tySBindingO6 7 p10 true] (by rfl))
    (fun (e137 : (List SBinding) × Int) => Ext.of .normal [(0, .ptr 1000000 0 0), (5, .ptr 5 0 0), (6, .ptr 6 0 0), (7, .int .i64 0), (9, .int .i64 e137.2)] [(5, ⟨2, true, [[.str p1.fHost, .int .i64 p1.fPort]]⟩), (6, ⟨2, true, [[.str ByteArray.empty, .int .i64 0]]⟩), (1000000, ⟨9, true, [[.int .i64 p2, .int .i64 p3, .int .i64 p4, .bool p5, .str p6, .int .i64 p7, .int .i64 p8, .int .i64 p9, .ref 600045 0 e137.1.length]]⟩)] [BT.of 600045 tySBindingO6 7 e137.1 true] (by rfl))
    (fun e136 =>
      .gh 0 (.ren 1000001 660000) (.done (p10, 4, ByteArray.empty, 0)))
    (fun e137 =>
      .chk 9007 (decide (0 ≤ e137.2) && decide (e137.2 < (e137.1.length : Int))) (.row 10015 tySBindingO6 e137.1 (0 + e137.2.toNat) true fun x138 =>
      .re 10015 (ReW.put 600045 7 tySBindingO6 e137.1 (0 + e137.2.toNat) (SBinding.mk x138.fInside x138.fPeer x138.fPort (wi64 (p9 + p4)) x138.fOpen)) (.gh 13 (.len 600045 ((e137.1.set (0 + e137.2.toNat) (SBinding.mk x138.fInside x138.fPeer x138.fPort (wi64 (p9 + p4)) x138.fOpen)).length) [e137.1.length] (by simp)) (.ceq 11006 p3 [0, 1, 2, 3] (fun v => bif v == 0 then .fail else bif v == 1 then .call 11009 (s146 p1) [] [] fun r139 =>
        .cnd 12 [103]
        (.br 12008 (p3 != 1)
          (.row 12011 tySBindingO6 (e137.1.set (0 + e137.2.toNat) (SBinding.mk x138.fInside x138.fPeer x138.fPort (wi64 (p9 + p4)) x138.fOpen)) (0 + e137.2.toNat) true fun x140 =>
            .call 12013 (s88 x140.fOpen r139) [] [] fun r141 =>
            .done (!r141))
          (.done false))
        (fun (c142 : Bool) => [.bool c142]) fun c142 =>
        .bind 0
        (.br 0 c142
          (.rowt 13005 tySBindingO6 (e137.1.set (0 + e137.2.toNat) (SBinding.mk x138.fInside x138.fPeer x138.fPort (wi64 (p9 + p4)) x138.fOpen)) (0 + e137.2.toNat) 6 fun x143 =>
            .re 13005 (ReW.take 600045 7 true tySBindingO6 (e137.1.set (0 + e137.2.toNat) (SBinding.mk x138.fInside x138.fPeer x138.fPort (wi64 (p9 + p4)) x138.fOpen)) (0 + e137.2.toNat) [.str x143.fInside.fHost, .int .i64 x143.fInside.fPort, .str x143.fPeer.fHost, .int .i64 x143.fPeer.fPort, .int .i64 x143.fPort, .int .i64 x143.fUntil, .sl false 2 (List.map tySAddr.c x143.fOpen)] rfl 108 2 tySAddr x143.fOpen (fun _ => rfl) (fun n => .ref 108 0 n)) (.app 13008 tySAddr x143.fOpen [r139] 24 false (by intro h; cases h) (.nst 13011 tySBindingO6 (e137.1.set (0 + e137.2.toNat) (SBinding.mk x138.fInside x138.fPeer x138.fPort (wi64 (p9 + p4)) x138.fOpen)) [.str x143.fInside.fHost, .int .i64 x143.fInside.fPort, .str x143.fPeer.fHost, .int .i64 x143.fPeer.fPort, .int .i64 x143.fPort, .int .i64 x143.fUntil, .sl false 2 (List.map tySAddr.c x143.fOpen)] (0 + e137.2.toNat) 6 (SBinding.mk x143.fInside x143.fPeer x143.fPort x143.fUntil (x143.fOpen ++ [r139])) tySAddr (x143.fOpen ++ [r139]) none (.gh 16 (.len 600045 (((e137.1.set (0 + e137.2.toNat) (SBinding.mk x138.fInside x138.fPeer x138.fPort (wi64 (p9 + p4)) x138.fOpen)).set (0 + e137.2.toNat) (SBinding.mk x143.fInside x143.fPeer x143.fPort x143.fUntil (x143.fOpen ++ [r139]))).length) [(e137.1.set (0 + e137.2.toNat) (SBinding.mk x138.fInside x138.fPeer x138.fPort (wi64 (p9 + p4)) x138.fOpen)).length] (by simp)) (.rowg 16 600045 500046 tySBindingO6 ((e137.1.set (0 + e137.2.toNat) (SBinding.mk x138.fInside x138.fPeer x138.fPort (wi64 (p9 + p4)) x138.fOpen)).set (0 + e137.2.toNat) (SBinding.mk x143.fInside x143.fPeer x143.fPort x143.fUntil (x143.fOpen ++ [r139]))) (0 + e137.2.toNat) 6 2 tySAddr (fun x144 => x144.fOpen) (fun _ => rfl) (fun _ => rfl) fun x144 =>
            .hrow 14005 tySBindingO6 ((e137.1.set (0 + e137.2.toNat) (SBinding.mk x138.fInside x138.fPeer x138.fPort (wi64 (p9 + p4)) x138.fOpen)).set (0 + e137.2.toNat) (SBinding.mk x143.fInside x143.fPeer x143.fPort x143.fUntil (x143.fOpen ++ [r139]))) [.str x144.fInside.fHost, .int .i64 x144.fInside.fPort, .str x144.fPeer.fHost, .int .i64 x144.fPeer.fPort, .int .i64 x144.fPort, .int .i64 x144.fUntil, .ref 500046 0 x144.fOpen.length] (0 + e137.2.toNat) (.hrow 14009 tySBindingO6 ((e137.1.set (0 + e137.2.toNat) (SBinding.mk x138.fInside x138.fPeer x138.fPort (wi64 (p9 + p4)) x138.fOpen)).set (0 + e137.2.toNat) (SBinding.mk x143.fInside x143.fPeer x143.fPort x143.fUntil (x143.fOpen ++ [r139]))) [.str x144.fInside.fHost, .int .i64 x144.fInside.fPort, .str x144.fPeer.fHost, .int .i64 x144.fPeer.fPort, .int .i64 x144.fPort, .int .i64 x144.fUntil, .ref 500046 0 x144.fOpen.length] (0 + e137.2.toNat) (.chk 14013 (decide (0 ≤ (if (wi64 ((x144.fOpen.length : Int) - 16)) > (0 : Int) then (wi64 ((x144.fOpen.length : Int) - 16)) else (0 : Int))) && decide ((if (wi64 ((x144.fOpen.length : Int) - 16)) > (0 : Int) then (wi64 ((x144.fOpen.length : Int) - 16)) else (0 : Int)) ≤ (x144.fOpen.length : Int))) (.nst 14016 tySBindingO6 ((e137.1.set (0 + e137.2.toNat) (SBinding.mk x138.fInside x138.fPeer x138.fPort (wi64 (p9 + p4)) x138.fOpen)).set (0 + e137.2.toNat) (SBinding.mk x143.fInside x143.fPeer x143.fPort x143.fUntil (x143.fOpen ++ [r139]))) [.str x144.fInside.fHost, .int .i64 x144.fInside.fPort, .str x144.fPeer.fHost, .int .i64 x144.fPeer.fPort, .int .i64 x144.fPort, .int .i64 x144.fUntil, .ref 500046 0 x144.fOpen.length] (0 + e137.2.toNat) 6 (SBinding.mk x144.fInside x144.fPeer x144.fPort x144.fUntil (x144.fOpen.drop ((if (wi64 ((x144.fOpen.length : Int) - 16)) > (0 : Int) then (wi64 ((x144.fOpen.length : Int) - 16)) else (0 : Int)).toNat))) tySAddr x144.fOpen (some ((if (wi64 ((x144.fOpen.length : Int) - 16)) > (0 : Int) then (wi64 ((x144.fOpen.length : Int) - 16)) else (0 : Int)).toNat)) (.gh 0 (.len 600045 ((((e137.1.set (0 + e137.2.toNat) (SBinding.mk x138.fInside x138.fPeer x138.fPort (wi64 (p9 + p4)) x138.fOpen)).set (0 + e137.2.toNat) (SBinding.mk x143.fInside x143.fPeer x143.fPort x143.fUntil (x143.fOpen ++ [r139]))).set (0 + e137.2.toNat) (SBinding.mk x144.fInside x144.fPeer x144.fPort x144.fUntil (x144.fOpen.drop ((if (wi64 ((x144.fOpen.length : Int) - 16)) > (0 : Int) then (wi64 ((x144.fOpen.length : Int) - 16)) else (0 : Int)).toNat)))).length) [((e137.1.set (0 + e137.2.toNat) (SBinding.mk x138.fInside x138.fPeer x138.fPort (wi64 (p9 + p4)) x138.fOpen)).set (0 + e137.2.toNat) (SBinding.mk x143.fInside x143.fPeer x143.fPort x143.fUntil (x143.fOpen ++ [r139]))).length] (by simp)) (.done (((e137.1.set (0 + e137.2.toNat) (SBinding.mk x138.fInside x138.fPeer x138.fPort (wi64 (p9 + p4)) x138.fOpen)).set (0 + e137.2.toNat) (SBinding.mk x143.fInside x143.fPeer x143.fPort x143.fUntil (x143.fOpen ++ [r139]))).set (0 + e137.2.toNat) (SBinding.mk x144.fInside x144.fPeer x144.fPort x144.fUntil (x144.fOpen.drop ((if (wi64 ((x144.fOpen.length : Int) - 16)) > (0 : Int) then (wi64 ((x144.fOpen.length : Int) - 16)) else (0 : Int)).toNat))))))))))))))
          (.done (e137.1.set (0 + e137.2.toNat) (SBinding.mk x138.fInside x138.fPeer x138.fPort (wi64 (p9 + p4)) x138.fOpen))))
        (fun (e145 : (List SBinding)) => Ext.of .normal [(0, .ptr 1000000 0 0), (6, .ptr 6 0 0), (7, .int .i64 0), (12, .ptr 600045 (0 + e137.2.toNat) 0)] [(6, ⟨2, true, [[.str ByteArray.empty, .int .i64 0]]⟩), (1000000, ⟨9, true, [[.int .i64 p2, .int .i64 p3, .int .i64 p4, .bool p5, .str p6, .int .i64 p7, .int .i64 p8, .int .i64 p9, .ref 600045 0 e145.length]]⟩)] [BT.of 600045 tySBindingO6 7 e145 true] (by rfl))
        (fun e145 =>
          .row 15009 tySBindingO6 e145 (0 + e137.2.toNat) true fun x146 =>
          .gh 0 (.ren 600045 660000) (.done (e145, 0, p6, x146.fPort))) else bif v == 2 then .call 11009 (s147 p1) [] [] fun r147 =>
        .cnd 12 [103]
        (.br 12008 (p3 != 1)
          (.row 12011 tySBindingO6 (e137.1.set (0 + e137.2.toNat) (SBinding.mk x138.fInside x138.fPeer x138.fPort (wi64 (p9 + p4)) x138.fOpen)) (0 + e137.2.toNat) true fun x148 =>
            .call 12013 (s88 x148.fOpen r147) [] [] fun r149 =>
            .done (!r149))
          (.done false))
        (fun (c150 : Bool) => [.bool c150]) fun c150 =>
        .bind 0
        (.br 0 c150
          (.rowt 13005 tySBindingO6 (e137.1.set (0 + e137.2.toNat) (SBinding.mk x138.fInside x138.fPeer x138.fPort (wi64 (p9 + p4)) x138.fOpen)) (0 + e137.2.toNat) 6 fun x151 =>
            .re 13005 (ReW.take 600045 7 true tySBindingO6 (e137.1.set (0 + e137.2.toNat) (SBinding.mk x138.fInside x138.fPeer x138.fPort (wi64 (p9 + p4)) x138.fOpen)) (0 + e137.2.toNat) [.str x151.fInside.fHost, .int .i64 x151.fInside.fPort, .str x151.fPeer.fHost, .int .i64 x151.fPeer.fPort, .int .i64 x151.fPort, .int .i64 x151.fUntil, .sl false 2 (List.map tySAddr.c x151.fOpen)] rfl 108 2 tySAddr x151.fOpen (fun _ => rfl) (fun n => .ref 108 0 n)) (.app 13008 tySAddr x151.fOpen [r147] 24 false (by intro h; cases h) (.nst 13011 tySBindingO6 (e137.1.set (0 + e137.2.toNat) (SBinding.mk x138.fInside x138.fPeer x138.fPort (wi64 (p9 + p4)) x138.fOpen)) [.str x151.fInside.fHost, .int .i64 x151.fInside.fPort, .str x151.fPeer.fHost, .int .i64 x151.fPeer.fPort, .int .i64 x151.fPort, .int .i64 x151.fUntil, .sl false 2 (List.map tySAddr.c x151.fOpen)] (0 + e137.2.toNat) 6 (SBinding.mk x151.fInside x151.fPeer x151.fPort x151.fUntil (x151.fOpen ++ [r147])) tySAddr (x151.fOpen ++ [r147]) none (.gh 16 (.len 600045 (((e137.1.set (0 + e137.2.toNat) (SBinding.mk x138.fInside x138.fPeer x138.fPort (wi64 (p9 + p4)) x138.fOpen)).set (0 + e137.2.toNat) (SBinding.mk x151.fInside x151.fPeer x151.fPort x151.fUntil (x151.fOpen ++ [r147]))).length) [(e137.1.set (0 + e137.2.toNat) (SBinding.mk x138.fInside x138.fPeer x138.fPort (wi64 (p9 + p4)) x138.fOpen)).length] (by simp)) (.rowg 16 600045 500047 tySBindingO6 ((e137.1.set (0 + e137.2.toNat) (SBinding.mk x138.fInside x138.fPeer x138.fPort (wi64 (p9 + p4)) x138.fOpen)).set (0 + e137.2.toNat) (SBinding.mk x151.fInside x151.fPeer x151.fPort x151.fUntil (x151.fOpen ++ [r147]))) (0 + e137.2.toNat) 6 2 tySAddr (fun x152 => x152.fOpen) (fun _ => rfl) (fun _ => rfl) fun x152 =>
            .hrow 14005 tySBindingO6 ((e137.1.set (0 + e137.2.toNat) (SBinding.mk x138.fInside x138.fPeer x138.fPort (wi64 (p9 + p4)) x138.fOpen)).set (0 + e137.2.toNat) (SBinding.mk x151.fInside x151.fPeer x151.fPort x151.fUntil (x151.fOpen ++ [r147]))) [.str x152.fInside.fHost, .int .i64 x152.fInside.fPort, .str x152.fPeer.fHost, .int .i64 x152.fPeer.fPort, .int .i64 x152.fPort, .int .i64 x152.fUntil, .ref 500047 0 x152.fOpen.length] (0 + e137.2.toNat) (.hrow 14009 tySBindingO6 ((e137.1.set (0 + e137.2.toNat) (SBinding.mk x138.fInside x138.fPeer x138.fPort (wi64 (p9 + p4)) x138.fOpen)).set (0 + e137.2.toNat) (SBinding.mk x151.fInside x151.fPeer x151.fPort x151.fUntil (x151.fOpen ++ [r147]))) [.str x152.fInside.fHost, .int .i64 x152.fInside.fPort, .str x152.fPeer.fHost, .int .i64 x152.fPeer.fPort, .int .i64 x152.fPort, .int .i64 x152.fUntil, .ref 500047 0 x152.fOpen.length] (0 + e137.2.toNat) (.chk 14013 (decide (0 ≤ (if (wi64 ((x152.fOpen.length : Int) - 16)) > (0 : Int) then (wi64 ((x152.fOpen.length : Int) - 16)) else (0 : Int))) && decide ((if (wi64 ((x152.fOpen.length : Int) - 16)) > (0 : Int) then (wi64 ((x152.fOpen.length : Int) - 16)) else (0 : Int)) ≤ (x152.fOpen.length : Int))) (.nst 14016 tySBindingO6 ((e137.1.set (0 + e137.2.toNat) (SBinding.mk x138.fInside x138.fPeer x138.fPort (wi64 (p9 + p4)) x138.fOpen)).set (0 + e137.2.toNat) (SBinding.mk x151.fInside x151.fPeer x151.fPort x151.fUntil (x151.fOpen ++ [r147]))) [.str x152.fInside.fHost, .int .i64 x152.fInside.fPort, .str x152.fPeer.fHost, .int .i64 x152.fPeer.fPort, .int .i64 x152.fPort, .int .i64 x152.fUntil, .ref 500047 0 x152.fOpen.length] (0 + e137.2.toNat) 6 (SBinding.mk x152.fInside x152.fPeer x152.fPort x152.fUntil (x152.fOpen.drop ((if (wi64 ((x152.fOpen.length : Int) - 16)) > (0 : Int) then (wi64 ((x152.fOpen.length : Int) - 16)) else (0 : Int)).toNat))) tySAddr x152.fOpen (some ((if (wi64 ((x152.fOpen.length : Int) - 16)) > (0 : Int) then (wi64 ((x152.fOpen.length : Int) - 16)) else (0 : Int)).toNat)) (.gh 0 (.len 600045 ((((e137.1.set (0 + e137.2.toNat) (SBinding.mk x138.fInside x138.fPeer x138.fPort (wi64 (p9 + p4)) x138.fOpen)).set (0 + e137.2.toNat) (SBinding.mk x151.fInside x151.fPeer x151.fPort x151.fUntil (x151.fOpen ++ [r147]))).set (0 + e137.2.toNat) (SBinding.mk x152.fInside x152.fPeer x152.fPort x152.fUntil (x152.fOpen.drop ((if (wi64 ((x152.fOpen.length : Int) - 16)) > (0 : Int) then (wi64 ((x152.fOpen.length : Int) - 16)) else (0 : Int)).toNat)))).length) [((e137.1.set (0 + e137.2.toNat) (SBinding.mk x138.fInside x138.fPeer x138.fPort (wi64 (p9 + p4)) x138.fOpen)).set (0 + e137.2.toNat) (SBinding.mk x151.fInside x151.fPeer x151.fPort x151.fUntil (x151.fOpen ++ [r147]))).length] (by simp)) (.done (((e137.1.set (0 + e137.2.toNat) (SBinding.mk x138.fInside x138.fPeer x138.fPort (wi64 (p9 + p4)) x138.fOpen)).set (0 + e137.2.toNat) (SBinding.mk x151.fInside x151.fPeer x151.fPort x151.fUntil (x151.fOpen ++ [r147]))).set (0 + e137.2.toNat) (SBinding.mk x152.fInside x152.fPeer x152.fPort x152.fUntil (x152.fOpen.drop ((if (wi64 ((x152.fOpen.length : Int) - 16)) > (0 : Int) then (wi64 ((x152.fOpen.length : Int) - 16)) else (0 : Int)).toNat))))))))))))))
          (.done (e137.1.set (0 + e137.2.toNat) (SBinding.mk x138.fInside x138.fPeer x138.fPort (wi64 (p9 + p4)) x138.fOpen))))
        (fun (e153 : (List SBinding)) => Ext.of .normal [(0, .ptr 1000000 0 0), (6, .ptr 6 0 0), (7, .int .i64 0), (12, .ptr 600045 (0 + e137.2.toNat) 0)] [(6, ⟨2, true, [[.str ByteArray.empty, .int .i64 0]]⟩), (1000000, ⟨9, true, [[.int .i64 p2, .int .i64 p3, .int .i64 p4, .bool p5, .str p6, .int .i64 p7, .int .i64 p8, .int .i64 p9, .ref 600045 0 e153.length]]⟩)] [BT.of 600045 tySBindingO6 7 e153 true] (by rfl))
        (fun e153 =>
          .row 15009 tySBindingO6 e153 (0 + e137.2.toNat) true fun x154 =>
          .gh 0 (.ren 600045 660000) (.done (e153, 0, p6, x154.fPort))) else bif v == 3 then .call 11009 (s148 p1) [] [] fun r155 =>
        .cnd 12 [103]
        (.br 12008 (p3 != 1)
          (.row 12011 tySBindingO6 (e137.1.set (0 + e137.2.toNat) (SBinding.mk x138.fInside x138.fPeer x138.fPort (wi64 (p9 + p4)) x138.fOpen)) (0 + e137.2.toNat) true fun x156 =>
            .call 12013 (s88 x156.fOpen r155) [] [] fun r157 =>
            .done (!r157))
          (.done false))
        (fun (c158 : Bool) => [.bool c158]) fun c158 =>
        .bind 0
        (.br 0 c158
          (.rowt 13005 tySBindingO6 (e137.1.set (0 + e137.2.toNat) (SBinding.mk x138.fInside x138.fPeer x138.fPort (wi64 (p9 + p4)) x138.fOpen)) (0 + e137.2.toNat) 6 fun x159 =>
            .re 13005 (ReW.take 600045 7 true tySBindingO6 (e137.1.set (0 + e137.2.toNat) (SBinding.mk x138.fInside x138.fPeer x138.fPort (wi64 (p9 + p4)) x138.fOpen)) (0 + e137.2.toNat) [.str x159.fInside.fHost, .int .i64 x159.fInside.fPort, .str x159.fPeer.fHost, .int .i64 x159.fPeer.fPort, .int .i64 x159.fPort, .int .i64 x159.fUntil, .sl false 2 (List.map tySAddr.c x159.fOpen)] rfl 108 2 tySAddr x159.fOpen (fun _ => rfl) (fun n => .ref 108 0 n)) (.app 13008 tySAddr x159.fOpen [r155] 24 false (by intro h; cases h) (.nst 13011 tySBindingO6 (e137.1.set (0 + e137.2.toNat) (SBinding.mk x138.fInside x138.fPeer x138.fPort (wi64 (p9 + p4)) x138.fOpen)) [.str x159.fInside.fHost, .int .i64 x159.fInside.fPort, .str x159.fPeer.fHost, .int .i64 x159.fPeer.fPort, .int .i64 x159.fPort, .int .i64 x159.fUntil, .sl false 2 (List.map tySAddr.c x159.fOpen)] (0 + e137.2.toNat) 6 (SBinding.mk x159.fInside x159.fPeer x159.fPort x159.fUntil (x159.fOpen ++ [r155])) tySAddr (x159.fOpen ++ [r155]) none (.gh 16 (.len 600045 (((e137.1.set (0 + e137.2.toNat) (SBinding.mk x138.fInside x138.fPeer x138.fPort (wi64 (p9 + p4)) x138.fOpen)).set (0 + e137.2.toNat) (SBinding.mk x159.fInside x159.fPeer x159.fPort x159.fUntil (x159.fOpen ++ [r155]))).length) [(e137.1.set (0 + e137.2.toNat) (SBinding.mk x138.fInside x138.fPeer x138.fPort (wi64 (p9 + p4)) x138.fOpen)).length] (by simp)) (.rowg 16 600045 500048 tySBindingO6 ((e137.1.set (0 + e137.2.toNat) (SBinding.mk x138.fInside x138.fPeer x138.fPort (wi64 (p9 + p4)) x138.fOpen)).set (0 + e137.2.toNat) (SBinding.mk x159.fInside x159.fPeer x159.fPort x159.fUntil (x159.fOpen ++ [r155]))) (0 + e137.2.toNat) 6 2 tySAddr (fun x160 => x160.fOpen) (fun _ => rfl) (fun _ => rfl) fun x160 =>
            .hrow 14005 tySBindingO6 ((e137.1.set (0 + e137.2.toNat) (SBinding.mk x138.fInside x138.fPeer x138.fPort (wi64 (p9 + p4)) x138.fOpen)).set (0 + e137.2.toNat) (SBinding.mk x159.fInside x159.fPeer x159.fPort x159.fUntil (x159.fOpen ++ [r155]))) [.str x160.fInside.fHost, .int .i64 x160.fInside.fPort, .str x160.fPeer.fHost, .int .i64 x160.fPeer.fPort, .int .i64 x160.fPort, .int .i64 x160.fUntil, .ref 500048 0 x160.fOpen.length] (0 + e137.2.toNat) (.hrow 14009 tySBindingO6 ((e137.1.set (0 + e137.2.toNat) (SBinding.mk x138.fInside x138.fPeer x138.fPort (wi64 (p9 + p4)) x138.fOpen)).set (0 + e137.2.toNat) (SBinding.mk x159.fInside x159.fPeer x159.fPort x159.fUntil (x159.fOpen ++ [r155]))) [.str x160.fInside.fHost, .int .i64 x160.fInside.fPort, .str x160.fPeer.fHost, .int .i64 x160.fPeer.fPort, .int .i64 x160.fPort, .int .i64 x160.fUntil, .ref 500048 0 x160.fOpen.length] (0 + e137.2.toNat) (.chk 14013 (decide (0 ≤ (if (wi64 ((x160.fOpen.length : Int) - 16)) > (0 : Int) then (wi64 ((x160.fOpen.length : Int) - 16)) else (0 : Int))) && decide ((if (wi64 ((x160.fOpen.length : Int) - 16)) > (0 : Int) then (wi64 ((x160.fOpen.length : Int) - 16)) else (0 : Int)) ≤ (x160.fOpen.length : Int))) (.nst 14016 tySBindingO6 ((e137.1.set (0 + e137.2.toNat) (SBinding.mk x138.fInside x138.fPeer x138.fPort (wi64 (p9 + p4)) x138.fOpen)).set (0 + e137.2.toNat) (SBinding.mk x159.fInside x159.fPeer x159.fPort x159.fUntil (x159.fOpen ++ [r155]))) [.str x160.fInside.fHost, .int .i64 x160.fInside.fPort, .str x160.fPeer.fHost, .int .i64 x160.fPeer.fPort, .int .i64 x160.fPort, .int .i64 x160.fUntil, .ref 500048 0 x160.fOpen.length] (0 + e137.2.toNat) 6 (SBinding.mk x160.fInside x160.fPeer x160.fPort x160.fUntil (x160.fOpen.drop ((if (wi64 ((x160.fOpen.length : Int) - 16)) > (0 : Int) then (wi64 ((x160.fOpen.length : Int) - 16)) else (0 : Int)).toNat))) tySAddr x160.fOpen (some ((if (wi64 ((x160.fOpen.length : Int) - 16)) > (0 : Int) then (wi64 ((x160.fOpen.length : Int) - 16)) else (0 : Int)).toNat)) (.gh 0 (.len 600045 ((((e137.1.set (0 + e137.2.toNat) (SBinding.mk x138.fInside x138.fPeer x138.fPort (wi64 (p9 + p4)) x138.fOpen)).set (0 + e137.2.toNat) (SBinding.mk x159.fInside x159.fPeer x159.fPort x159.fUntil (x159.fOpen ++ [r155]))).set (0 + e137.2.toNat) (SBinding.mk x160.fInside x160.fPeer x160.fPort x160.fUntil (x160.fOpen.drop ((if (wi64 ((x160.fOpen.length : Int) - 16)) > (0 : Int) then (wi64 ((x160.fOpen.length : Int) - 16)) else (0 : Int)).toNat)))).length) [((e137.1.set (0 + e137.2.toNat) (SBinding.mk x138.fInside x138.fPeer x138.fPort (wi64 (p9 + p4)) x138.fOpen)).set (0 + e137.2.toNat) (SBinding.mk x159.fInside x159.fPeer x159.fPort x159.fUntil (x159.fOpen ++ [r155]))).length] (by simp)) (.done (((e137.1.set (0 + e137.2.toNat) (SBinding.mk x138.fInside x138.fPeer x138.fPort (wi64 (p9 + p4)) x138.fOpen)).set (0 + e137.2.toNat) (SBinding.mk x159.fInside x159.fPeer x159.fPort x159.fUntil (x159.fOpen ++ [r155]))).set (0 + e137.2.toNat) (SBinding.mk x160.fInside x160.fPeer x160.fPort x160.fUntil (x160.fOpen.drop ((if (wi64 ((x160.fOpen.length : Int) - 16)) > (0 : Int) then (wi64 ((x160.fOpen.length : Int) - 16)) else (0 : Int)).toNat))))))))))))))
          (.done (e137.1.set (0 + e137.2.toNat) (SBinding.mk x138.fInside x138.fPeer x138.fPort (wi64 (p9 + p4)) x138.fOpen))))
        (fun (e161 : (List SBinding)) => Ext.of .normal [(0, .ptr 1000000 0 0), (6, .ptr 6 0 0), (7, .int .i64 0), (12, .ptr 600045 (0 + e137.2.toNat) 0)] [(6, ⟨2, true, [[.str ByteArray.empty, .int .i64 0]]⟩), (1000000, ⟨9, true, [[.int .i64 p2, .int .i64 p3, .int .i64 p4, .bool p5, .str p6, .int .i64 p7, .int .i64 p8, .int .i64 p9, .ref 600045 0 e161.length]]⟩)] [BT.of 600045 tySBindingO6 7 e161 true] (by rfl))
        (fun e161 =>
          .row 15009 tySBindingO6 e161 (0 + e137.2.toNat) true fun x162 =>
          .gh 0 (.ren 600045 660000) (.done (e161, 0, p6, x162.fPort))) else .fail))))) else bif v == 3 then .call 1009 (s148 p1) [] [] fun r163 =>
    .view 2003 (s85 (SRouter.mk (SNat.mk p2 p3 p4 p5 p6 p7 p8 p9 p10)) p0 r163) [⟨1000001, _, tySBindingO6, p10⟩] fun r164 =>
    .bind2 0
    (.br 0 (decide (r164 < 0))
      (.view 4004 (s87 (SRouter.mk (SNat.mk p2 p3 p4 p5 p6 p7 p8 p9 p10)) p0.fPort) [⟨1000001, _, tySBindingO6, p10⟩] fun r165 =>
        .br 0 (!r165.isSome)
        (.done (.inl ()))
        (.app 8012 tySBindingO6 p10 [(SBinding.mk p0 r163 (r165.getD 0) 0 [])] 88 false (by intro h; cases h) (.gh 0 (.ren 55 600049) (.done (.inr ((p10 ++ [(SBinding.mk p0 r163 (r165.getD 0) 0 [])]), (p10.length : Int)))))))
      (.gh 0 (.ren 1000001 600049) (.done (.inr (p10, r164)))))
    (fun (e166 : Unit) => Ext.of .ret [(0, .ptr 1000000 0 0), (5, .ptr 5 0 0), (6, .ptr 6 0 0), (7, .int .i64 4), (9, .int .i64 r164)] [(5, ⟨2, true, [[.str p1.fHost, .int .i64 p1.fPort]]⟩), (6, ⟨2, true, [[.str ByteArray.empty, .int .i64 0]]⟩), (1000000, ⟨9, true, [[.int .i64 p2, .int .i64 p3, .int .i64 p4, .bool p5, .str p6, .int .i64 p7, .int .i64 p8, .int .i64 p9, .ref 1000001 0 p10.length]]⟩)] [BT.of 1000001 tySBindingO6 7 p10 true] (by rfl))
    (fun (e167 : (List SBinding) × Int) => Ext.of .normal [(0, .ptr 1000000 0 0), (5, .ptr 5 0 0), (6, .ptr 6 0 0), (7, .int .i64 0), (9, .int .i64 e167.2)] [(5, ⟨2, true, [[.str p1.fHost, .int .i64 p1.fPort]]⟩), (6, ⟨2, true, [[.str ByteArray.empty, .int .i64 0]]⟩), (1000000, ⟨9, true, [[.int .i64 p2, .int .i64 p3, .int .i64 p4, .bool p5, .str p6, .int .i64 p7, .int .i64 p8, .int .i64 p9, .ref 600049 0 e167.1.length]]⟩)] [BT.of 600049 tySBindingO6 7 e167.1 true] (by rfl))
    (fun e166 =>
      .gh 0 (.ren 1000001 660000) (.done (p10, 4, ByteArray.empty, 0)))
    (fun e167 =>
      .chk 9007 (decide (0 ≤ e167.2) && decide (e167.2 < (e167.1.length : Int))) (.row 10015 tySBindingO6 e167.1 (0 + e167.2.toNat) true fun x168 =>
      .re 10015 (ReW.put 600049 7 tySBindingO6 e167.1 (0 + e167.2.toNat) (SBinding.mk x168.fInside x168.fPeer x168.fPort (wi64 (p9 + p4)) x168.fOpen)) (.gh 13 (.len 600049 ((e167.1.set (0 + e167.2.toNat) (SBinding.mk x168.fInside x168.fPeer x168.fPort (wi64 (p9 + p4)) x168.fOpen)).length) [e167.1.length] (by simp)) (.ceq 11006 p3 [0, 1, 2, 3] (fun v => bif v == 0 then .fail else bif v == 1 then .call 11009 (s146 p1) [] [] fun r169 =>
        .cnd 12 [103]
        (.br 12008 (p3 != 1)
          (.row 12011 tySBindingO6 (e167.1.set (0 + e167.2.toNat) (SBinding.mk x168.fInside x168.fPeer x168.fPort (wi64 (p9 + p4)) x168.fOpen)) (0 + e167.2.toNat) true fun x170 =>
            .call 12013 (s88 x170.fOpen r169) [] [] fun r171 =>
            .done (!r171))
          (.done false))
        (fun (c172 : Bool) => [.bool c172]) fun c172 =>
        .bind 0
        (.br 0 c172
          (.rowt 13005 tySBindingO6 (e167.1.set (0 + e167.2.toNat) (SBinding.mk x168.fInside x168.fPeer x168.fPort (wi64 (p9 + p4)) x168.fOpen)) (0 + e167.2.toNat) 6 fun x173 =>
            .re 13005 (ReW.take 600049 7 true tySBindingO6 (e167.1.set (0 + e167.2.toNat) (SBinding.mk x168.fInside x168.fPeer x168.fPort (wi64 (p9 + p4)) x168.fOpen)) (0 + e167.2.toNat) [.str x173.fInside.fHost, .int .i64 x173.fInside.fPort, .str x173.fPeer.fHost, .int .i64 x173.fPeer.fPort, .int .i64 x173.fPort, .int .i64 x173.fUntil, .sl false 2 (List.map tySAddr.c x173.fOpen)] rfl 108 2 tySAddr x173.fOpen (fun _ => rfl) (fun n => .ref 108 0 n)) (.app 13008 tySAddr x173.fOpen [r169] 24 false (by intro h; cases h) (.nst 13011 tySBindingO6 (e167.1.set (0 + e167.2.toNat) (SBinding.mk x168.fInside x168.fPeer x168.fPort (wi64 (p9 + p4)) x168.fOpen)) [.str x173.fInside.fHost, .int .i64 x173.fInside.fPort, .str x173.fPeer.fHost, .int .i64 x173.fPeer.fPort, .int .i64 x173.fPort, .int .i64 x173.fUntil, .sl false 2 (List.map tySAddr.c x173.fOpen)] (0 + e167.2.toNat) 6 (SBinding.mk x173.fInside x173.fPeer x173.fPort x173.fUntil (x173.fOpen ++ [r169])) tySAddr (x173.fOpen ++ [r169]) none (.gh 16 (.len 600049 (((e167.1.set (0 + e167.2.toNat) (SBinding.mk x168.fInside x168.fPeer x168.fPort (wi64 (p9 + p4)) x168.fOpen)).set (0 + e167.2.toNat) (SBinding.mk x173.fInside x173.fPeer x173.fPort x173.fUntil (x173.fOpen ++ [r169]))).length) [(e167.1.set (0 + e167.2.toNat) (SBinding.mk x168.fInside x168.fPeer x168.fPort (wi64 (p9 + p4)) x168.fOpen)).length] (by simp)) (.rowg 16 600049 500050 tySBindingO6 ((e167.1.set (0 + e167.2.toNat) (SBinding.mk x168.fInside x168.fPeer x168.fPort (wi64 (p9 + p4)) x168.fOpen)).set (0 + e167.2.toNat) (SBinding.mk x173.fInside x173.fPeer x173.fPort x173.fUntil (x173.fOpen ++ [r169]))) (0 + e167.2.toNat) 6 2 tySAddr (fun x174 => x174.fOpen) (fun _ => rfl) (fun _ => rfl) fun x174 =>
            .hrow 14005 tySBindingO6 ((e167.1.set (0 + e167.2.toNat) (SBinding.mk x168.fInside x168.fPeer x168.fPort (wi64 (p9 + p4)) x168.fOpen)).set (0 + e167.2.toNat) (SBinding.mk x173.fInside x173.fPeer x173.fPort x173.fUntil (x173.fOpen ++ [r169]))) [.str x174.fInside.fHost, .int .i64 x174.fInside.fPort, .str x174.fPeer.fHost, .int .i64 x174.fPeer.fPort, .int .i64 x174.fPort, .int .i64 x174.fUntil, .ref 500050 0 x174.fOpen.length] (0 + e167.2.toNat) (.hrow 14009 tySBindingO6 ((e167.1.set (0 + e167.2.toNat) (SBinding.mk x168.fInside x168.fPeer x168.fPort (wi64 (p9 + p4)) x168.fOpen)).set (0 + e167.2.toNat) (SBinding.mk x173.fInside x173.fPeer x173.fPort x173.fUntil (x173.fOpen ++ [r169]))) [.str x174.fInside.fHost, .int .i64 x174.fInside.fPort, .str x174.fPeer.fHost, .int .i64 x174.fPeer.fPort, .int .i64 x174.fPort, .int .i64 x174.fUntil, .ref 500050 0 x174.fOpen.length] (0 + e167.2.toNat) (.chk 14013 (decide (0 ≤ (if (wi64 ((x174.fOpen.length : Int) - 16)) > (0 : Int) then (wi64 ((x174.fOpen.length : Int) - 16)) else (0 : Int))) && decide ((if (wi64 ((x174.fOpen.length : Int) - 16)) > (0 : Int) then (wi64 ((x174.fOpen.length : Int) - 16)) else (0 : Int)) ≤ (x174.fOpen.length : Int))) (.nst 14016 tySBindingO6 ((e167.1.set (0 + e167.2.toNat) (SBinding.mk x168.fInside x168.fPeer x168.fPort (wi64 (p9 + p4)) x168.fOpen)).set (0 + e167.2.toNat) (SBinding.mk x173.fInside x173.fPeer x173.fPort x173.fUntil (x173.fOpen ++ [r169]))) [.str x174.fInside.fHost, .int .i64 x174.fInside.fPort, .str x174.fPeer.fHost, .int .i64 x174.fPeer.fPort, .int .i64 x174.fPort, .int .i64 x174.fUntil, .ref 500050 0 x174.fOpen.length] (0 + e167.2.toNat) 6 (SBinding.mk x174.fInside x174.fPeer x174.fPort x174.fUntil (x174.fOpen.drop ((if (wi64 ((x174.fOpen.length : Int) - 16)) > (0 : Int) then (wi64 ((x174.fOpen.length : Int) - 16)) else (0 : Int)).toNat))) tySAddr x174.fOpen (some ((if (wi64 ((x174.fOpen.length : Int) - 16)) > (0 : Int) then (wi64 ((x174.fOpen.length : Int) - 16)) else (0 : Int)).toNat)) (.gh 0 (.len 600049 ((((e167.1.set (0 + e167.2.toNat) (SBinding.mk x168.fInside x168.fPeer x168.fPort (wi64 (p9 + p4)) x168.fOpen)).set (0 + e167.2.toNat) (SBinding.mk x173.fInside x173.fPeer x173.fPort x173.fUntil (x173.fOpen ++ [r169]))).set (0 + e167.2.toNat) (SBinding.mk x174.fInside x174.fPeer x174.fPort x174.fUntil (x174.fOpen.drop ((if (wi64 ((x174.fOpen.length : Int) - 16)) > (0 : Int) then (wi64 ((x174.fOpen.length : Int) - 16)) else (0 : Int)).toNat)))).length) [((e167.1.set (0 + e167.2.toNat) (SBinding.mk x168.fInside x168.fPeer x168.fPort (wi64 (p9 + p4)) x168.fOpen)).set (0 + e167.2.toNat) (SBinding.mk x173.fInside x173.fPeer x173.fPort x173.fUntil (x173.fOpen ++ [r169]))).length] (by simp)) (.done (((e167.1.set (0 + e167.2.toNat) (SBinding.mk x168.fInside x168.fPeer x168.fPort (wi64 (p9 + p4)) x168.fOpen)).set (0 + e167.2.toNat) (SBinding.mk x173.fInside x173.fPeer x173.fPort x173.fUntil (x173.fOpen ++ [r169]))).set (0 + e167.2.toNat) (SBinding.mk x174.fInside x174.fPeer x174.fPort x174.fUntil (x174.fOpen.drop ((if (wi64 ((x174.fOpen.length : Int) - 16)) > (0 : Int) then (wi64 ((x174.fOpen.length : Int) - 16)) else (0 : Int)).toNat))))))))))))))
          (.done (e167.1.set (0 + e167.2.toNat) (SBinding.mk x168.fInside x168.fPeer x168.fPort (wi64 (p9 + p4)) x168.fOpen))))
        (fun (e175 : (List SBinding)) => Ext.of .normal [(0, .ptr 1000000 0 0), (6, .ptr 6 0 0), (7, .int .i64 0), (12, .ptr 600049 (0 + e167.2.toNat) 0)] [(6, ⟨2, true, [[.str ByteArray.empty, .int .i64 0]]⟩), (1000000, ⟨9, true, [[.int .i64 p2, .int .i64 p3, .int .i64 p4, .bool p5, .str p6, .int .i64 p7, .int .i64 p8, .int .i64 p9, .ref 600049 0 e175.length]]⟩)] [BT.of 600049 tySBindingO6 7 e175 true] (by rfl))
        (fun e175 =>
          .row 15009 tySBindingO6 e175 (0 + e167.2.toNat) true fun x176 =>
          .gh 0 (.ren 600049 660000) (.done (e175, 0, p6, x176.fPort))) else bif v == 2 then .call 11009 (s147 p1) [] [] fun r177 =>
        .cnd 12 [103]
        (.br 12008 (p3 != 1)
          (.row 12011 tySBindingO6 (e167.1.set (0 + e167.2.toNat) (SBinding.mk x168.fInside x168.fPeer x168.fPort (wi64 (p9 + p4)) x168.fOpen)) (0 + e167.2.toNat) true fun x178 =>
            .call 12013 (s88 x178.fOpen r177) [] [] fun r179 =>
            .done (!r179))
          (.done false))
        (fun (c180 : Bool) => [.bool c180]) fun c180 =>
        .bind 0
        (.br 0 c180
          (.rowt 13005 tySBindingO6 (e167.1.set (0 + e167.2.toNat) (SBinding.mk x168.fInside x168.fPeer x168.fPort (wi64 (p9 + p4)) x168.fOpen)) (0 + e167.2.toNat) 6 fun x181 =>
            .re 13005 (ReW.take 600049 7 true tySBindingO6 (e167.1.set (0 + e167.2.toNat) (SBinding.mk x168.fInside x168.fPeer x168.fPort (wi64 (p9 + p4)) x168.fOpen)) (0 + e167.2.toNat) [.str x181.fInside.fHost, .int .i64 x181.fInside.fPort, .str x181.fPeer.fHost, .int .i64 x181.fPeer.fPort, .int .i64 x181.fPort, .int .i64 x181.fUntil, .sl false 2 (List.map tySAddr.c x181.fOpen)] rfl 108 2 tySAddr x181.fOpen (fun _ => rfl) (fun n => .ref 108 0 n)) (.app 13008 tySAddr x181.fOpen [r177] 24 false (by intro h; cases h) (.nst 13011 tySBindingO6 (e167.1.set (0 + e167.2.toNat) (SBinding.mk x168.fInside x168.fPeer x168.fPort (wi64 (p9 + p4)) x168.fOpen)) [.str x181.fInside.fHost, .int .i64 x181.fInside.fPort, .str x181.fPeer.fHost, .int .i64 x181.fPeer.fPort, .int .i64 x181.fPort, .int .i64 x181.fUntil, .sl false 2 (List.map tySAddr.c x181.fOpen)] (0 + e167.2.toNat) 6 (SBinding.mk x181.fInside x181.fPeer x181.fPort x181.fUntil (x181.fOpen ++ [r177])) tySAddr (x181.fOpen ++ [r177]) none (.gh 16 (.len 600049 (((e167.1.set (0 + e167.2.toNat) (SBinding.mk x168.fInside x168.fPeer x168.fPort (wi64 (p9 + p4)) x168.fOpen)).set (0 + e167.2.toNat) (SBinding.mk x181.fInside x181.fPeer x181.fPort x181.fUntil (x181.fOpen ++ [r177]))).length) [(e167.1.set (0 + e167.2.toNat) (SBinding.mk x168.fInside x168.fPeer x168.fPort (wi64 (p9 + p4)) x168.fOpen)).length] (by simp)) (.rowg 16 600049 500051 tySBindingO6 ((e167.1.set (0 + e167.2.toNat) (SBinding.mk x168.fInside x168.fPeer x168.fPort (wi64 (p9 + p4)) x168.fOpen)).set (0 + e167.2.toNat) (SBinding.mk x181.fInside x181.fPeer x181.fPort x181.fUntil (x181.fOpen ++ [r177]))) (0 + e167.2.toNat) 6 2 tySAddr (fun x182 => x182.fOpen) (fun _ => rfl) (fun _ => rfl) fun x182 =>
            .hrow 14005 tySBindingO6 ((e167.1.set (0 + e167.2.toNat) (SBinding.mk x168.fInside x168.fPeer x168.fPort (wi64 (p9 + p4)) x168.fOpen)).set (0 + e167.2.toNat) (SBinding.mk x181.fInside x181.fPeer x181.fPort x181.fUntil (x181.fOpen ++ [r177]))) [.str x182.fInside.fHost, .int .i64 x182.fInside.fPort, .str x182.fPeer.fHost, .int .i64 x182.fPeer.fPort, .int .i64 x182.fPort, .int .i64 x182.fUntil, .ref 500051 0 x182.fOpen.length] (0 + e167.2.toNat) (.hrow 14009 tySBindingO6 ((e167.1.set (0 + e167.2.toNat) (SBinding.mk x168.fInside x168.fPeer x168.fPort (wi64 (p9 + p4)) x168.fOpen)).set (0 + e167.2.toNat) (SBinding.mk x181.fInside x181.fPeer x181.fPort x181.fUntil (x181.fOpen ++ [r177]))) [.str x182.fInside.fHost, .int .i64 x182.fInside.fPort, .str x182.fPeer.fHost, .int .i64 x182.fPeer.fPort, .int .i64 x182.fPort, .int .i64 x182.fUntil, .ref 500051 0 x182.fOpen.length] (0 + e167.2.toNat) (.chk 14013 (decide (0 ≤ (if (wi64 ((x182.fOpen.length : Int) - 16)) > (0 : Int) then (wi64 ((x182.fOpen.length : Int) - 16)) else (0 : Int))) && decide ((if (wi64 ((x182.fOpen.length : Int) - 16)) > (0 : Int) then (wi64 ((x182.fOpen.length : Int) - 16)) else (0 : Int)) ≤ (x182.fOpen.length : Int))) (.nst 14016 tySBindingO6 ((e167.1.set (0 + e167.2.toNat) (SBinding.mk x168.fInside x168.fPeer x168.fPort (wi64 (p9 + p4)) x168.fOpen)).set (0 + e167.2.toNat) (SBinding.mk x181.fInside x181.fPeer x181.fPort x181.fUntil (x181.fOpen ++ [r177]))) [.str x182.fInside.fHost, .int .i64 x182.fInside.fPort, .str x182.fPeer.fHost, .int .i64 x182.fPeer.fPort, .int .i64 x182.fPort, .int .i64 x182.fUntil, .ref 500051 0 x182.fOpen.length] (0 + e167.2.toNat) 6 (SBinding.mk x182.fInside x182.fPeer x182.fPort x182.fUntil (x182.fOpen.drop ((if (wi64 ((x182.fOpen.length : Int) - 16)) > (0 : Int) then (wi64 ((x182.fOpen.length : Int) - 16)) else (0 : Int)).toNat))) tySAddr x182.fOpen (some ((if (wi64 ((x182.fOpen.length : Int) - 16)) > (0 : Int) then (wi64 ((x182.fOpen.length : Int) - 16)) else (0 : Int)).toNat)) (.gh 0 (.len 600049 ((((e167.1.set (0 + e167.2.toNat) (SBinding.mk x168.fInside x168.fPeer x168.fPort (wi64 (p9 + p4)) x168.fOpen)).set (0 + e167.2.toNat) (SBinding.mk x181.fInside x181.fPeer x181.fPort x181.fUntil (x181.fOpen ++ [r177]))).set (0 + e167.2.toNat) (SBinding.mk x182.fInside x182.fPeer x182.fPort x182.fUntil (x182.fOpen.drop ((if (wi64 ((x182.fOpen.length : Int) - 16)) > (0 : Int) then (wi64 ((x182.fOpen.length : Int) - 16)) else (0 : Int)).toNat)))).length) [((e167.1.set (0 + e167.2.toNat) (SBinding.mk x168.fInside x168.fPeer x168.fPort (wi64 (p9 + p4)) x168.fOpen)).set (0 + e167.2.toNat) (SBinding.mk x181.fInside x181.fPeer x181.fPort x181.fUntil (x181.fOpen ++ [r177]))).length] (by simp)) (.done (((e167.1.set (0 + e167.2.toNat) (SBinding.mk x168.fInside x168.fPeer x168.fPort (wi64 (p9 + p4)) x168.fOpen)).set (0 + e167.2.toNat) (SBinding.mk x181.fInside x181.fPeer x181.fPort x181.fUntil (x181.fOpen ++ [r177]))).set (0 + e167.2.toNat) (SBinding.mk x182.fInside x182.fPeer x182.fPort x182.fUntil (x182.fOpen.drop ((if (wi64 ((x182.fOpen.length : Int) - 16)) > (0 : Int) then (wi64 ((x182.fOpen.length : Int) - 16)) else (0 : Int)).toNat))))))))))))))
          (.done (e167.1.set (0 + e167.2.toNat) (SBinding.mk x168.fInside x168.fPeer x168.fPort (wi64 (p9 + p4)) x168.fOpen))))
        (fun (e183 : (List SBinding)) => Ext.of .normal [(0, .ptr 1000000 0 0), (6, .ptr 6 0 0), (7, .int .i64 0), (12, .ptr 600049 (0 + e167.2.toNat) 0)] [(6, ⟨2, true, [[.str ByteArray.empty, .int .i64 0]]⟩), (1000000, ⟨9, true, [[.int .i64 p2, .int .i64 p3, .int .i64 p4, .bool p5, .str p6, .int .i64 p7, .int .i64 p8, .int .i64 p9, .ref 600049 0 e183.length]]⟩)] [BT.of 600049 tySBindingO6 7 e183 true] (by rfl))
        (fun e183 =>
          .row 15009 tySBindingO6 e183 (0 + e167.2.toNat) true fun x184 =>
          .gh 0 (.ren 600049 660000) (.done (e183, 0, p6, x184.fPort))) else bif v == 3 then .call 11009 (s148 p1) [] [] fun r185 =>
        .cnd 12 [103]
        (.br 12008 (p3 != 1)
          (.row 12011 tySBindingO6 (e167.1.set (0 + e167.2.toNat) (SBinding.mk x168.fInside x168.fPeer x168.fPort (wi64 (p9 + p4)) x168.fOpen)) (0 + e167.2.toNat) true fun x186 =>
            .call 12013 (s88 x186.fOpen r185) [] [] fun r187 =>
            .done (!r187))
          (.done false))
        (fun (c188 : Bool) => [.bool c188]) fun c188 =>
        .bind 0
        (.br 0 c188
          (.rowt 13005 tySBindingO6 (e167.1.set (0 + e167.2.toNat) (SBinding.mk x168.fInside x168.fPeer x168.fPort (wi64 (p9 + p4)) x168.fOpen)) (0 + e167.2.toNat) 6 fun x189 =>
            .re 13005 (ReW.take 600049 7 true tySBindingO6 (e167.1.set (0 + e167.2.toNat) (SBinding.mk x168.fInside x168.fPeer x168.fPort (wi64 (p9 + p4)) x168.fOpen)) (0 + e167.2.toNat) [.str x189.fInside.fHost, .int .i64 x189.fInside.fPort, .str x189.fPeer.fHost, .int .i64 x189.fPeer.fPort, .int .i64 x189.fPort, .int .i64 x189.fUntil, .sl false 2 (List.map tySAddr.c x189.fOpen)] rfl 108 2 tySAddr x189.fOpen (fun _ => rfl) (fun n => .ref 108 0 n)) (.app 13008 tySAddr x189.fOpen [r185] 24 false (by intro h; cases h) (.nst 13011 tySBindingO6 (e167.1.set (0 + e167.2.toNat) (SBinding.mk x168.fInside x168.fPeer x168.fPort (wi64 (p9 + p4)) x168.fOpen)) [.str x189.fInside.fHost, .int .i64 x189.fInside.fPort, .str x189.fPeer.fHost, .int .i64 x189.fPeer.fPort, .int .i64 x189.fPort, .int .i64 x189.fUntil, .sl false 2 (List.map tySAddr.c x189.fOpen)] (0 + e167.2.toNat) 6 (SBinding.mk x189.fInside x189.fPeer x189.fPort x189.fUntil (x189.fOpen ++ [r185])) tySAddr (x189.fOpen ++ [r185]) none (.gh 16 (.len 600049 (((e167.1.set (0 + e167.2.toNat) (SBinding.mk x168.fInside x168.fPeer x168.fPort (wi64 (p9 + p4)) x168.fOpen)).set (0 + e167.2.toNat) (SBinding.mk x189.fInside x189.fPeer x189.fPort x189.fUntil (x189.fOpen ++ [r185]))).length) [(e167.1.set (0 + e167.2.toNat) (SBinding.mk x168.fInside x168.fPeer x168.fPort (wi64 (p9 + p4)) x168.fOpen)).length] (by simp)) (.rowg 16 600049 500052 tySBindingO6 ((e167.1.set (0 + e167.2.toNat) (SBinding.mk x168.fInside x168.fPeer x168.fPort (wi64 (p9 + p4)) x168.fOpen)).set (0 + e167.2.toNat) (SBinding.mk x189.fInside x189.fPeer x189.fPort x189.fUntil (x189.fOpen ++ [r185]))) (0 + e167.2.toNat) 6 2 tySAddr (fun x190 => x190.fOpen) (fun _ => rfl) (fun _ => rfl) fun x190 =>
            .hrow 14005 tySBindingO6 ((e167.1.set (0 + e167.2.toNat) (SBinding.mk x168.fInside x168.fPeer x168.fPort (wi64 (p9 + p4)) x168.fOpen)).set (0 + e167.2.toNat) (SBinding.mk x189.fInside x189.fPeer x189.fPort x189.fUntil (x189.fOpen ++ [r185]))) [.str x190.fInside.fHost, .int .i64 x190.fInside.fPort, .str x190.fPeer.fHost, .int .i64 x190.fPeer.fPort, .int .i64 x190.fPort, .int .i64 x190.fUntil, .ref 500052 0 x190.fOpen.length] (0 + e167.2.toNat) (.hrow 14009 tySBindingO6 ((e167.1.set (0 + e167.2.toNat) (SBinding.mk x168.fInside x168.fPeer x168.fPort (wi64 (p9 + p4)) x168.fOpen)).set (0 + e167.2.toNat) (SBinding.mk x189.fInside x189.fPeer x189.fPort x189.fUntil (x189.fOpen ++ [r185]))) [.str x190.fInside.fHost, .int .i64 x190.fInside.fPort, .str x190.fPeer.fHost, .int .i64 x190.fPeer.fPort, .int .i64 x190.fPort, .int .i64 x190.fUntil, .ref 500052 0 x190.fOpen.length] (0 + e167.2.toNat) (.chk 14013 (decide (0 ≤ (if (wi64 ((x190.fOpen.length : Int) - 16)) > (0 : Int) then (wi64 ((x190.fOpen.length : Int) - 16)) else (0 : Int))) && decide ((if (wi64 ((x190.fOpen.length : Int) - 16)) > (0 : Int) then (wi64 ((x190.fOpen.length : Int) - 16)) else (0 : Int)) ≤ (x190.fOpen.length : Int))) (.nst 14016 tySBindingO6 ((e167.1.set (0 + e167.2.toNat) (SBinding.mk x168.fInside x168.fPeer x168.fPort (wi64 (p9 + p4)) x168.fOpen)).set (0 + e167.2.toNat) (SBinding.mk x189.fInside x189.fPeer x189.fPort x189.fUntil (x189.fOpen ++ [r185]))) [.str x190.fInside.fHost, .int .i64 x190.fInside.fPort, .str x190.fPeer.fHost, .int .i64 x190.fPeer.fPort, .int .i64 x190.fPort, .int .i64 x190.fUntil, .ref 500052 0 x190.fOpen.length] (0 + e167.2.toNat) 6 (SBinding.mk x190.fInside x190.fPeer x190.fPort x190.fUntil (x190.fOpen.drop ((if (wi64 ((x190.fOpen.length : Int) - 16)) > (0 : Int) then (wi64 ((x190.fOpen.length : Int) - 16)) else (0 : Int)).toNat))) tySAddr x190.fOpen (some ((if (wi64 ((x190.fOpen.length : Int) - 16)) > (0 : Int) then (wi64 ((x190.fOpen.length : Int) - 16)) else (0 : Int)).toNat)) (.gh 0 (.len 600049 ((((e167.1.set (0 + e167.2.toNat) (SBinding.mk x168.fInside x168.fPeer x168.fPort (wi64 (p9 + p4)) x168.fOpen)).set (0 + e167.2.toNat) (SBinding.mk x189.fInside x189.fPeer x189.fPort x189.fUntil (x189.fOpen ++ [r185]))).set (0 + e167.2.toNat) (SBinding.mk x190.fInside x190.fPeer x190.fPort x190.fUntil (x190.fOpen.drop ((if (wi64 ((x190.fOpen.length : Int) - 16)) > (0 : Int) then (wi64 ((x190.fOpen.length : Int) - 16)) else (0 : Int)).toNat)))).length) [((e167.1.set (0 + e167.2.toNat) (SBinding.mk x168.fInside x168.fPeer x168.fPort (wi64 (p9 + p4)) x168.fOpen)).set (0 + e167.2.toNat) (SBinding.mk x189.fInside x189.fPeer x189.fPort x189.fUntil (x189.fOpen ++ [r185]))).length] (by simp)) (.done (((e167.1.set (0 + e167.2.toNat) (SBinding.mk x168.fInside x168.fPeer x168.fPort (wi64 (p9 + p4)) x168.fOpen)).set (0 + e167.2.toNat) (SBinding.mk x189.fInside x189.fPeer x189.fPort x189.fUntil (x189.fOpen ++ [r185]))).set (0 + e167.2.toNat) (SBinding.mk x190.fInside x190.fPeer x190.fPort x190.fUntil (x190.fOpen.drop ((if (wi64 ((x190.fOpen.length : Int) - 16)) > (0 : Int) then (wi64 ((x190.fOpen.length : Int) - 16)) else (0 : Int)).toNat))))))))))))))
          (.done (e167.1.set (0 + e167.2.toNat) (SBinding.mk x168.fInside x168.fPeer x168.fPort (wi64 (p9 + p4)) x168.fOpen))))
        (fun (e191 : (List SBinding)) => Ext.of .normal [(0, .ptr 1000000 0 0), (6, .ptr 6 0 0), (7, .int .i64 0), (12, .ptr 600049 (0 + e167.2.toNat) 0)] [(6, ⟨2, true, [[.str ByteArray.empty, .int .i64 0]]⟩), (1000000, ⟨9, true, [[.int .i64 p2, .int .i64 p3, .int .i64 p4, .bool p5, .str p6, .int .i64 p7, .int .i64 p8, .int .i64 p9, .ref 600049 0 e191.length]]⟩)] [BT.of 600049 tySBindingO6 7 e191 true] (by rfl))
        (fun e191 =>
          .row 15009 tySBindingO6 e191 (0 + e167.2.toNat) true fun x192 =>
          .gh 0 (.ren 600049 660000) (.done (e191, 0, p6, x192.fPort))) else .fail))))) else .fail)
theorem k58_1 (p0 : SAddr) (p1 : SAddr) (p2 : Int) (p3 : Int) (p4 : Int) (p5 : Bool) (p6 : ByteArray) (p7 : Int) (p8 : Int) (p9 : Int) (p10 : (List SBinding)) : FnB Tryd.prog GG [0, 1, 2, 4, 5, 6, 7, 8, 9, 10, 11, 12, 13, 27, 36, 103] Tryd.f58 [.ptr 1000000 0 0, .agg [.str p0.fHost, .int .i64 p0.fPort], .agg [.str p1.fHost, .int .i64 p1.fPort]] (Ext.of .normal (argTs [.ptr 1000000 0 0, .agg [.str p0.fHost, .int .i64 p0.fPort], .agg [.str p1.fHost, .int .i64 p1.fPort]]) [(1000000, ⟨9, true, [[.int .i64 p2, .int .i64 p3, .int .i64 p4, .bool p5, .str p6, .int .i64 p7, .int .i64 p8, .int .i64 p9, .ref 1000001 0 p10.length]]⟩)] [BT.of 1000001 tySBindingO6 7 p10 true] (by rfl)) (g58_1 p0 p1 p2 p3 p4 p5 p6 p7 p8 p9 p10) (fun (r : (List SBinding) × Int × ByteArray × Int) => .tup [.agg [.str r.2.2.1, .int .i64 r.2.2.2], .int .i64 r.2.1]) (fun (r : (List SBinding) × Int × ByteArray × Int) => Ext.of .normal [] [(1000000, ⟨9, true, [[.int .i64 p2, .int .i64 p3, .int .i64 p4, .bool p5, .str p6, .int .i64 p7, .int .i64 p8, .int .i64 p9, .ref 660000 0 r.1.length]]⟩)] [BT.of 660000 tySBindingO6 7 r.1 true] (by rfl)) := by unfold FnB; kernel_rfl
noncomputable def s58_1 (p0 : SAddr) (p1 : SAddr) (p2 : Int) (p3 : Int) (p4 : Int) (p5 : Bool) (p6 : ByteArray) (p7 : Int) (p8 : Int) (p9 : Int) (p10 : (List SBinding)) : EV.Spec Tryd.prog GG ((List SBinding) × Int × ByteArray × Int) := .ofFnB 58 [660000] mixed Tryd.func58 rfl (fun _ => rfl) (k58_1 p0 p1 p2 p3 p4 p5 p6 p7 p8 p9 p10)

/-- tannoy nat.Out -/
noncomputable def g25 (p0 : SNat) (p1 : Int) (p2 : SAddr) (p3 : SAddr) : TT (SNat × SAddr × Int) :=
  .call2 1006 (s56_1 p0 p1 [p2, p3]) [(1000000, 19)] [(15, 500037), (600032, 500038)] (fun r53 =>
    .cnd 2 [31]
    (.br 2004 (r53 == 0)
      (.done (decide (p2.fHost = p0.fHost)))
      (.done false))
    (fun (c54 : Bool) => [.bool c54]) fun c54 =>
    .bind 0
    (.br 0 c54
      (.done 2)
      (.done r53))
    (fun (e55 : Int) => Ext.lit .normal [(6, .ptr 6 0 0), (7, .ptr 7 0 0), (8, .ptr 8 0 0), (9, .ptr 9 0 0), (10, .int .i64 0), (11, .nilp), (12, .int .i64 e55)] [(6, ⟨2, true, [[.str p2.fHost, .int .i64 p2.fPort]]⟩), (7, ⟨2, true, [[.str p3.fHost, .int .i64 p3.fPort]]⟩), (8, ⟨9, true, [[.int .i64 0, .int .i64 0, .int .i64 0, .bool false, .str ByteArray.empty, .int .i64 0, .int .i64 0, .int .i64 0, .nilsl]]⟩), (9, ⟨2, true, [[.str ByteArray.empty, .int .i64 0]]⟩)])
    (fun e55 =>
      .br 0 (e55 != 0)
      (.done ((SNat.mk 0 0 0 false ByteArray.empty 0 0 0 []), (SAddr.mk ByteArray.empty 0), e55))
      (.call 6004 (s58 p2 p3) [] [] fun r56 =>
        .br 0 (r56.2 != 0)
        (.done ((SNat.mk 0 0 0 false ByteArray.empty 0 0 0 []), (SAddr.mk ByteArray.empty 0), r56.2))
        (.fail))))
  (fun r57 =>
    .bind 0
    (.br 0 (decide (p2.fHost = p0.fHost))
      (.done 2)
      (.done 0))
    (fun (e58 : Int) => Ext.of .normal [(6, .ptr 6 0 0), (7, .ptr 7 0 0), (8, .ptr 8 0 0), (9, .ptr 9 0 0), (10, .int .i64 0), (11, .ptr 500037 0 0), (12, .int .i64 e58)] [(6, ⟨2, true, [[.str p2.fHost, .int .i64 p2.fPort]]⟩), (7, ⟨2, true, [[.str p3.fHost, .int .i64 p3.fPort]]⟩), (8, ⟨9, true, [[.int .i64 0, .int .i64 0, .int .i64 0, .bool false, .str ByteArray.empty, .int .i64 0, .int .i64 0, .int .i64 0, .nilsl]]⟩), (9, ⟨2, true, [[.str ByteArray.empty, .int .i64 0]]⟩), (500037, ⟨9, true, [[.int .i64 p0.fMapping, .int .i64 p0.fFilter, .int .i64 p0.fTimeout, .bool p0.fHairpin, .str p0.fHost, .int .i64 p0.fLow, .int .i64 p0.fHigh, .int .i64 p1, .ref 500038 0 r57.length]]⟩)] [BT.of 500038 tySBindingO6 7 r57 true] (by rfl))
    (fun e58 =>
      .br 0 (e58 != 0)
      (.done ((SNat.mk 0 0 0 false ByteArray.empty 0 0 0 []), (SAddr.mk ByteArray.empty 0), e58))
      (.call 6004 (s58_1 p2 p3 p0.fMapping p0.fFilter p0.fTimeout p0.fHairpin p0.fHost p0.fLow p0.fHigh p1 r57) [(1000000, 500037), (1000001, 500038)] [(660000, 500053)] fun r193 =>
        .br 0 (r193.2.1 != 0)
        (.done ((SNat.mk 0 0 0 false ByteArray.empty 0 0 0 []), (SAddr.mk ByteArray.empty 0), r193.2.1))
        (.gh 0 (.share [⟨500053, _, tySBindingO6, r193.1⟩, ⟨500053, _, tySBindingO6, r193.1⟩]) (.done ((SNat.mk p0.fMapping p0.fFilter p0.fTimeout p0.fHairpin p0.fHost p0.fLow p0.fHigh p1 r193.1), (SAddr.mk r193.2.2.1 r193.2.2.2), 0))))))
theorem k25 (p0 : SNat) (p1 : Int) (p2 : SAddr) (p3 : SAddr) : FnD Tryd.prog GG [0, 1, 2, 3, 4, 6, 7, 8, 9, 10, 11, 12, 13, 31, 33, 45] Tryd.f25 [.agg [.int .i64 p0.fMapping, .int .i64 p0.fFilter, .int .i64 p0.fTimeout, .bool p0.fHairpin, .str p0.fHost, .int .i64 p0.fLow, .int .i64 p0.fHigh, .int .i64 p0.fNow, .sl false 7 (List.map tySBinding.c p0.fTable)], .int .i64 p1, .agg [.str p2.fHost, .int .i64 p2.fPort], .agg [.str p3.fHost, .int .i64 p3.fPort]] (g25 p0 p1 p2 p3) (fun r => .tup [.agg [.int .i64 r.1.fMapping, .int .i64 r.1.fFilter, .int .i64 r.1.fTimeout, .bool r.1.fHairpin, .str r.1.fHost, .int .i64 r.1.fLow, .int .i64 r.1.fHigh, .int .i64 r.1.fNow, .sl false 7 (List.map tySBinding.c r.1.fTable)], .agg [.str r.2.1.fHost, .int .i64 r.2.1.fPort], .int .i64 r.2.2]) := by unfold FnD; kernel_rfl
noncomputable def s25 (p0 : SNat) (p1 : Int) (p2 : SAddr) (p3 : SAddr) : EV.Spec Tryd.prog GG (SNat × SAddr × Int) := .ofFn 25 mixed Tryd.func25 (k25 p0 p1 p2 p3)

/-- (*tannoy nat.router).find -/
noncomputable def g85_1 (p0 : SAddr) : TT (Int) :=
  .fail
theorem k85_1 (p0 : SAddr) : FnD Tryd.prog GG [0, 1, 4] Tryd.f85 [.nilp, .fn 90 [] [.snap [.str p0.fHost, .int .i64 p0.fPort]]] (g85_1 p0) (fun r => .int .i64 r) := by unfold FnD; kernel_rfl
noncomputable def s85_1 (p0 : SAddr) : EV.Spec Tryd.prog GG (Int) := .ofFn 85 mixed Tryd.func85 (k85_1 p0)

/-- (*tannoy nat.router).in -/
noncomputable def g62 (p0 : SAddr) (p1 : SAddr) : TT (SAddr × Int) :=
  .view 1003 (s85_1 p1) [] fun r197 =>
  .br 2004 (decide (r197 < 0))
  (.tt (.done ((SAddr.mk ByteArray.empty 0), 4)))
  (.fail)
theorem k62 (p0 : SAddr) (p1 : SAddr) : FnD Tryd.prog GG [0, 1, 2, 4, 5, 6, 7, 8, 43] Tryd.f62 [.nilp, .agg [.str p0.fHost, .int .i64 p0.fPort], .agg [.str p1.fHost, .int .i64 p1.fPort]] (g62 p0 p1) (fun r => .tup [.agg [.str r.1.fHost, .int .i64 r.1.fPort], .int .i64 r.2]) := by unfold FnD; kernel_rfl
noncomputable def s62 (p0 : SAddr) (p1 : SAddr) : EV.Spec Tryd.prog GG (SAddr × Int) := .ofFn 62 mixed Tryd.func62 (k62 p0 p1)

/-- (*tannoy nat.router).in 1 -/
noncomputable def g90 (p0 : SBinding) (p1 : SAddr) : TT (Bool) :=
  .done (p0.fPort == p1.fPort)
theorem k90 (p0 : SBinding) (p1 : SAddr) : FnD Tryd.prog GG [0, 1, 2, 3] Tryd.f90 [.agg [.str p0.fInside.fHost, .int .i64 p0.fInside.fPort, .str p0.fPeer.fHost, .int .i64 p0.fPeer.fPort, .int .i64 p0.fPort, .int .i64 p0.fUntil, .sl false 2 (List.map tySAddr.c p0.fOpen)], .snap [.str p1.fHost, .int .i64 p1.fPort]] (g90 p0 p1) (fun r => .bool r) := by unfold FnD; kernel_rfl
noncomputable def s90 (p0 : SBinding) (p1 : SAddr) : EV.Spec Tryd.prog GG (Bool) := .ofFn 90 mixed Tryd.func90 (k90 p0 p1)

/-- slices.IndexFunc   tannoy api.Binding tannoy api.Binding  -/
noncomputable def g115_2 (p0 : (List SBinding)) (p1 : SAddr) : TT (Int) :=
  .bind2 1
  (.lp (fun (l204 : Int) => Ext.lit .normal [(0, .sl false 7 (List.map tySBinding.c p0)), (1, .fn 90 [] [.snap [.str p1.fHost, .int .i64 p1.fPort]]), (4, .int .i64 0), (7, .int .i64 (mlen tySBinding p0)), (8, .int .i64 l204)] [])
    (fun l204 =>
      .br 0 (decide (l204 < (mlen tySBinding p0)))
      (.row 4004 tySBinding p0 l204.toNat (decide (0 ≤ l204)) fun x205 =>
        .call 4006 (s90 x205 p1) [] [] fun r206 =>
        .br 0 r206
        (.done (.inr (.inl l204)))
        (.done (.inl (wi64 (l204 + 1)))))
      (.done (.inr (.inr ()))))
    0)
  (fun (e207 : Int) => Ext.lit .ret [(4, .int .i64 e207)] [])
  (fun (e208 : Unit) => Ext.lit (.exit 0) [(4, .int .i64 0)] [])
  (fun e207 =>
    .done e207)
  (fun e208 =>
    .done (-1))
theorem k115_2 (p0 : (List SBinding)) (p1 : SAddr) : FnD Tryd.prog GG [0, 1, 4, 5, 7, 8, 9, 16] Tryd.f115 [.sl false 7 (List.map tySBinding.c p0), .fn 90 [] [.snap [.str p1.fHost, .int .i64 p1.fPort]]] (g115_2 p0 p1) (fun r => .int .i64 r) := by unfold FnD; kernel_rfl
noncomputable def s115_2 (p0 : (List SBinding)) (p1 : SAddr) : EV.Spec Tryd.prog GG (Int) := .ofFn 115 mixed Tryd.func115 (k115_2 p0 p1)

/-- (*tannoy nat.router).find -/
noncomputable def g85_2 (p0 : SRouter) (p1 : SAddr) : TT (Int) :=
  .call 1007 (s115_2 p0.fNat.fTable p1) [] [] fun r209 =>
  .done r209
theorem k85_2 (p0 : SRouter) (p1 : SAddr) : FnD Tryd.prog GG [0, 1, 4] Tryd.f85 [.snap [.int .i64 p0.fNat.fMapping, .int .i64 p0.fNat.fFilter, .int .i64 p0.fNat.fTimeout, .bool p0.fNat.fHairpin, .str p0.fNat.fHost, .int .i64 p0.fNat.fLow, .int .i64 p0.fNat.fHigh, .int .i64 p0.fNat.fNow, .sl false 7 (List.map tySBinding.c p0.fNat.fTable)], .fn 90 [] [.snap [.str p1.fHost, .int .i64 p1.fPort]]] (g85_2 p0 p1) (fun r => .int .i64 r) := by unfold FnD; kernel_rfl
noncomputable def s85_2 (p0 : SRouter) (p1 : SAddr) : EV.Spec Tryd.prog GG (Int) := .ofFn 85 mixed Tryd.func85 (k85_2 p0 p1)

/-- (*tannoy nat.router).in -/
noncomputable def g62_1 (p0 : SRouter) (p1 : SAddr) (p2 : SAddr) : TT (SAddr × Int) :=
  .view 1003 (s85_2 p0 p2) [] fun r210 =>
  .cnd 2 [43]
  (.br 2004 (decide (r210 < 0))
    (.done true)
    (.br 2011 (p0.fNat.fFilter != 1)
      (.row 2017 tySBinding p0.fNat.fTable r210.toNat (decide (0 ≤ r210)) fun x211 =>
        .ceq 2025 p0.fNat.fFilter [0, 1, 2, 3] (fun v => bif v == 0 then .fail else bif v == 1 then .call 2028 (s146 p1) [] [] fun r212 =>
          .call 2029 (s88 x211.fOpen r212) [] [] fun r213 =>
          .done (!r213) else bif v == 2 then .call 2028 (s147 p1) [] [] fun r214 =>
          .call 2029 (s88 x211.fOpen r214) [] [] fun r215 =>
          .done (!r215) else bif v == 3 then .call 2028 (s148 p1) [] [] fun r216 =>
          .call 2029 (s88 x211.fOpen r216) [] [] fun r217 =>
          .done (!r217) else .fail))
      (.done false)))
  (fun (c218 : Bool) => [.bool c218]) fun c218 =>
  .br 0 c218
  (.done ((SAddr.mk ByteArray.empty 0), 4))
  (.row 4007 tySBinding p0.fNat.fTable r210.toNat (decide (0 ≤ r210)) fun x219 =>
    .done (x219.fInside, 0))
theorem k62_1 (p0 : SRouter) (p1 : SAddr) (p2 : SAddr) : FnD Tryd.prog GG [0, 1, 2, 4, 5, 6, 7, 8, 43] Tryd.f62 [.snap [.int .i64 p0.fNat.fMapping, .int .i64 p0.fNat.fFilter, .int .i64 p0.fNat.fTimeout, .bool p0.fNat.fHairpin, .str p0.fNat.fHost, .int .i64 p0.fNat.fLow, .int .i64 p0.fNat.fHigh, .int .i64 p0.fNat.fNow, .sl false 7 (List.map tySBinding.c p0.fNat.fTable)], .agg [.str p1.fHost, .int .i64 p1.fPort], .agg [.str p2.fHost, .int .i64 p2.fPort]] (g62_1 p0 p1 p2) (fun r => .tup [.agg [.str r.1.fHost, .int .i64 r.1.fPort], .int .i64 r.2]) := by unfold FnD; kernel_rfl
noncomputable def s62_1 (p0 : SRouter) (p1 : SAddr) (p2 : SAddr) : EV.Spec Tryd.prog GG (SAddr × Int) := .ofFn 62 mixed Tryd.func62 (k62_1 p0 p1 p2)

/-- tannoy nat.In -/
noncomputable def g27 (p0 : SNat) (p1 : Int) (p2 : SAddr) (p3 : SAddr) : TT (SNat × SAddr × Int) :=
  .call2 1006 (s56_1 p0 p1 [p2, p3]) [(1000000, 19)] [(15, 500054), (600032, 500055)] (fun r194 =>
    .cnd 2 [31]
    (.br 2004 (r194 == 0)
      (.done (!decide (p3.fHost = p0.fHost)))
      (.done false))
    (fun (c195 : Bool) => [.bool c195]) fun c195 =>
    .bind 0
    (.br 0 c195
      (.done 2)
      (.done r194))
    (fun (e196 : Int) => Ext.lit .normal [(6, .ptr 6 0 0), (7, .ptr 7 0 0), (8, .ptr 8 0 0), (9, .ptr 9 0 0), (10, .int .i64 0), (11, .nilp), (12, .int .i64 e196)] [(6, ⟨2, true, [[.str p2.fHost, .int .i64 p2.fPort]]⟩), (7, ⟨2, true, [[.str p3.fHost, .int .i64 p3.fPort]]⟩), (8, ⟨9, true, [[.int .i64 0, .int .i64 0, .int .i64 0, .bool false, .str ByteArray.empty, .int .i64 0, .int .i64 0, .int .i64 0, .nilsl]]⟩), (9, ⟨2, true, [[.str ByteArray.empty, .int .i64 0]]⟩)])
    (fun e196 =>
      .br 0 (e196 != 0)
      (.done ((SNat.mk 0 0 0 false ByteArray.empty 0 0 0 []), (SAddr.mk ByteArray.empty 0), e196))
      (.call 6004 (s62 p2 p3) [] [] fun r198 =>
        .br 0 (r198.2 != 0)
        (.done ((SNat.mk 0 0 0 false ByteArray.empty 0 0 0 []), (SAddr.mk ByteArray.empty 0), r198.2))
        (.fail))))
  (fun r199 =>
    .bind 0
    (.br 0 (!decide (p3.fHost = p0.fHost))
      (.done 2)
      (.done 0))
    (fun (e200 : Int) => Ext.of .normal [(6, .ptr 6 0 0), (7, .ptr 7 0 0), (8, .ptr 8 0 0), (9, .ptr 9 0 0), (10, .int .i64 0), (11, .ptr 500054 0 0), (12, .int .i64 e200)] [(6, ⟨2, true, [[.str p2.fHost, .int .i64 p2.fPort]]⟩), (7, ⟨2, true, [[.str p3.fHost, .int .i64 p3.fPort]]⟩), (8, ⟨9, true, [[.int .i64 0, .int .i64 0, .int .i64 0, .bool false, .str ByteArray.empty, .int .i64 0, .int .i64 0, .int .i64 0, .nilsl]]⟩), (9, ⟨2, true, [[.str ByteArray.empty, .int .i64 0]]⟩), (500054, ⟨9, true, [[.int .i64 p0.fMapping, .int .i64 p0.fFilter, .int .i64 p0.fTimeout, .bool p0.fHairpin, .str p0.fHost, .int .i64 p0.fLow, .int .i64 p0.fHigh, .int .i64 p1, .ref 500055 0 r199.length]]⟩)] [BT.of 500055 tySBindingO6 7 r199 true] (by rfl))
    (fun e200 =>
      .br 0 (e200 != 0)
      (.done ((SNat.mk 0 0 0 false ByteArray.empty 0 0 0 []), (SAddr.mk ByteArray.empty 0), e200))
      (.view 6004 (s62_1 (SRouter.mk (SNat.mk p0.fMapping p0.fFilter p0.fTimeout p0.fHairpin p0.fHost p0.fLow p0.fHigh p1 r199)) p2 p3) [⟨500055, _, tySBindingO6, r199⟩] fun r220 =>
        .br 0 (r220.2 != 0)
        (.done ((SNat.mk 0 0 0 false ByteArray.empty 0 0 0 []), (SAddr.mk ByteArray.empty 0), r220.2))
        (.gh 0 (.share [⟨500055, _, tySBindingO6, r199⟩, ⟨500055, _, tySBindingO6, r199⟩]) (.done ((SNat.mk p0.fMapping p0.fFilter p0.fTimeout p0.fHairpin p0.fHost p0.fLow p0.fHigh p1 r199), r220.1, 0))))))
theorem k27 (p0 : SNat) (p1 : Int) (p2 : SAddr) (p3 : SAddr) : FnD Tryd.prog GG [0, 1, 2, 3, 4, 6, 7, 8, 9, 10, 11, 12, 13, 31, 33, 45] Tryd.f27 [.agg [.int .i64 p0.fMapping, .int .i64 p0.fFilter, .int .i64 p0.fTimeout, .bool p0.fHairpin, .str p0.fHost, .int .i64 p0.fLow, .int .i64 p0.fHigh, .int .i64 p0.fNow, .sl false 7 (List.map tySBinding.c p0.fTable)], .int .i64 p1, .agg [.str p2.fHost, .int .i64 p2.fPort], .agg [.str p3.fHost, .int .i64 p3.fPort]] (g27 p0 p1 p2 p3) (fun r => .tup [.agg [.int .i64 r.1.fMapping, .int .i64 r.1.fFilter, .int .i64 r.1.fTimeout, .bool r.1.fHairpin, .str r.1.fHost, .int .i64 r.1.fLow, .int .i64 r.1.fHigh, .int .i64 r.1.fNow, .sl false 7 (List.map tySBinding.c r.1.fTable)], .agg [.str r.2.1.fHost, .int .i64 r.2.1.fPort], .int .i64 r.2.2]) := by unfold FnD; kernel_rfl
noncomputable def s27 (p0 : SNat) (p1 : Int) (p2 : SAddr) (p3 : SAddr) : EV.Spec Tryd.prog GG (SNat × SAddr × Int) := .ofFn 27 mixed Tryd.func27 (k27 p0 p1 p2 p3)

end Go.Proofs.YtdiagiflihpidaaDoor

namespace Go.Proofs.YtdiagiflihpidaaDoor
open Go Go.EV
set_option maxRecDepth 100000

/-- tannoy nat.Expire -/
noncomputable def g20 (p0 : SNat) (p1 : Int) : TT (SNat × Int) :=
  .call2 1003 (s56 p0 p1 []) [] [(15, 500056), (600014, 500057)] (fun r221 =>
    .br 0 (r221 != 0)
    (.done ((SNat.mk 0 0 0 false ByteArray.empty 0 0 0 []), r221))
    (.fail))
  (fun r222 =>
    .ff (.gh 0 (.share [⟨500057, _, tySBindingO6, r222⟩, ⟨500057, _, tySBindingO6, r222⟩]) (.done ((SNat.mk p0.fMapping p0.fFilter p0.fTimeout p0.fHairpin p0.fHost p0.fLow p0.fHigh p1 r222), 0))))
theorem k20 (p0 : SNat) (p1 : Int) : FnD Tryd.prog GG [0, 1, 2, 4, 5, 6, 7, 15] Tryd.f20 [.agg [.int .i64 p0.fMapping, .int .i64 p0.fFilter, .int .i64 p0.fTimeout, .bool p0.fHairpin, .str p0.fHost, .int .i64 p0.fLow, .int .i64 p0.fHigh, .int .i64 p0.fNow, .sl false 7 (List.map tySBinding.c p0.fTable)], .int .i64 p1] (g20 p0 p1) (fun r => .tup [.agg [.int .i64 r.1.fMapping, .int .i64 r.1.fFilter, .int .i64 r.1.fTimeout, .bool r.1.fHairpin, .str r.1.fHost, .int .i64 r.1.fLow, .int .i64 r.1.fHigh, .int .i64 r.1.fNow, .sl false 7 (List.map tySBinding.c r.1.fTable)], .int .i64 r.2]) := by unfold FnD; kernel_rfl
noncomputable def s20 (p0 : SNat) (p1 : Int) : EV.Spec Tryd.prog GG (SNat × Int) := .ofFn 20 mixed Tryd.func20 (k20 p0 p1)

/-- tannoy nat.Check -/
noncomputable def g19 (p0 : SNat) : TT (Int) :=
  .view 2002 (s55 (SRouter.mk p0)) [] fun r223 =>
  .br 0 (!r223)
  (.done 130)
  (.done 0)
theorem k19 (p0 : SNat) : FnD Tryd.prog GG [0, 1, 2, 3, 9] Tryd.f19 [.agg [.int .i64 p0.fMapping, .int .i64 p0.fFilter, .int .i64 p0.fTimeout, .bool p0.fHairpin, .str p0.fHost, .int .i64 p0.fLow, .int .i64 p0.fHigh, .int .i64 p0.fNow, .sl false 7 (List.map tySBinding.c p0.fTable)]] (g19 p0) (fun r => .int .i64 r) := by unfold FnD; kernel_rfl
noncomputable def s19 (p0 : SNat) : EV.Spec Tryd.prog GG (Int) := .ofFn 19 mixed Tryd.func19 (k19 p0)

/-- tannoy nat.Loop -/
noncomputable def g31 (p0 : SNat) (p1 : Int) (p2 : SAddr) (p3 : SAddr) : TT (SNat × SAddr × SAddr × Int) :=
  .call2 1006 (s56_1 p0 p1 [p2, p3]) [(1000000, 19)] [(15, 500058), (600032, 500059)] (fun r224 =>
    .br 0 (r224 != 0)
    (.done ((SNat.mk 0 0 0 false ByteArray.empty 0 0 0 []), (SAddr.mk ByteArray.empty 0), (SAddr.mk ByteArray.empty 0), r224))
    (.br 0 (!p0.fHairpin)
      (.done ((SNat.mk 0 0 0 false ByteArray.empty 0 0 0 []), (SAddr.mk ByteArray.empty 0), (SAddr.mk ByteArray.empty 0), 4))
      (.call 6005 (s25 p0 p1 p2 p3) [] [] fun r225 =>
        .br 0 (r225.2.2 != 0)
        (.done ((SNat.mk 0 0 0 false ByteArray.empty 0 0 0 []), (SAddr.mk ByteArray.empty 0), (SAddr.mk ByteArray.empty 0), r225.2.2))
        (.call 9005 (s27 r225.1 p1 r225.2.1 p3) [] [] fun r226 =>
          .br 0 (r226.2.2 != 0)
          (.done ((SNat.mk 0 0 0 false ByteArray.empty 0 0 0 []), (SAddr.mk ByteArray.empty 0), (SAddr.mk ByteArray.empty 0), r226.2.2))
          (.done (r226.1, r225.2.1, r226.2.1, 0))))))
  (fun r227 =>
    .ff (.br 0 (!p0.fHairpin)
    (.done ((SNat.mk 0 0 0 false ByteArray.empty 0 0 0 []), (SAddr.mk ByteArray.empty 0), (SAddr.mk ByteArray.empty 0), 4))
    (.call 6005 (s25 p0 p1 p2 p3) [] [] fun r228 =>
      .br 0 (r228.2.2 != 0)
      (.done ((SNat.mk 0 0 0 false ByteArray.empty 0 0 0 []), (SAddr.mk ByteArray.empty 0), (SAddr.mk ByteArray.empty 0), r228.2.2))
      (.call 9005 (s27 r228.1 p1 r228.2.1 p3) [] [] fun r229 =>
        .br 0 (r229.2.2 != 0)
        (.done ((SNat.mk 0 0 0 false ByteArray.empty 0 0 0 []), (SAddr.mk ByteArray.empty 0), (SAddr.mk ByteArray.empty 0), r229.2.2))
        (.done (r229.1, r228.2.1, r229.2.1, 0))))))
theorem k31 (p0 : SNat) (p1 : Int) (p2 : SAddr) (p3 : SAddr) : FnD Tryd.prog GG [0, 1, 2, 3, 4, 6, 7, 8, 9, 10, 11, 13, 24, 31, 45, 60] Tryd.f31 [.agg [.int .i64 p0.fMapping, .int .i64 p0.fFilter, .int .i64 p0.fTimeout, .bool p0.fHairpin, .str p0.fHost, .int .i64 p0.fLow, .int .i64 p0.fHigh, .int .i64 p0.fNow, .sl false 7 (List.map tySBinding.c p0.fTable)], .int .i64 p1, .agg [.str p2.fHost, .int .i64 p2.fPort], .agg [.str p3.fHost, .int .i64 p3.fPort]] (g31 p0 p1 p2 p3) (fun r => .tup [.agg [.int .i64 r.1.fMapping, .int .i64 r.1.fFilter, .int .i64 r.1.fTimeout, .bool r.1.fHairpin, .str r.1.fHost, .int .i64 r.1.fLow, .int .i64 r.1.fHigh, .int .i64 r.1.fNow, .sl false 7 (List.map tySBinding.c r.1.fTable)], .agg [.str r.2.1.fHost, .int .i64 r.2.1.fPort], .agg [.str r.2.2.1.fHost, .int .i64 r.2.2.1.fPort], .int .i64 r.2.2.2]) := by unfold FnD; kernel_rfl
noncomputable def s31 (p0 : SNat) (p1 : Int) (p2 : SAddr) (p3 : SAddr) : EV.Spec Tryd.prog GG (SNat × SAddr × SAddr × Int) := .ofFn 31 mixed Tryd.func31 (k31 p0 p1 p2 p3)

end Go.Proofs.YtdiagiflihpidaaDoor
