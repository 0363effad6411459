/- Guides and contracts, printed by a program.
   Guides and contracts, printed by a program.
   Guides and contracts, printed by a program.
   Guides and contracts, printed by a program.
   Guides and contracts, printed by a program. -/
import Derived.Test.YtdiagiflihpidaaDoorS8
import Derived.Test.YtdiagiflihpidaaDoorS6
import Derived.KernelRfl
namespace Go.Proofs.YtdiagiflihpidaaDoor
open Go Go.EV
set_option maxRecDepth 100000
noncomputable def g64 (p0 : (List SAddr)) : TT Unit := .app 3003 tySAddr [] p0 24 true (by intros; rfl) (.done ())
theorem k64y : Piece Tryd.prog GG [2] 8 (cloneYes Tryd.f64.body) (Ext.lit .normal [(2, .nilsl)] []) (.done () : TT Unit) (fun _ => Ext.lit .ret [(2, .nilsl)] []) := by unfold Piece; kernel_rfl
theorem k64r (p0 : (List SAddr)) : Piece Tryd.prog GG [0, 2, 5, 6, 7] 8 (cloneRest Tryd.f64.body) (Ext.lit .normal [(0, .sl false 2 (List.map tySAddr.c p0)), (2, .nilsl)] []) (g64 p0) (fun _ => Ext.of .ret [(2, .ref 7 0 ([] ++ p0).length)] [] [BT.of 7 tySAddr 2 ([] ++ p0)] (by rfl)) := by unfold Piece; kernel_rfl
theorem k64 (p0 : (List SAddr)) {r : Unit} (h : (g64 p0).run = some r) : CallC Tryd.prog GG 64 [.sl false 2 (List.map tySAddr.c p0)] (ofL []) (.ref 7 0 p0.length) (ofL [(7, ⟨2, true, List.map tySAddr.c p0⟩)]) :=
 clone_ok (ty := tySAddr) (ops0 := cloneOps0 Tryd.f64.body) (ops1 := cloneOps1 Tryd.f64.body) (yes := cloneYes Tryd.f64.body) (rest := cloneRest Tryd.f64.body) (t := 59) mixed (by decide) Tryd.func64 (by kernel_rfl) (by kernel_rfl) (by kernel_rfl) (by kernel_rfl) (by kernel_rfl) (by kernel_rfl) (by kernel_rfl) (by kernel_rfl) (by kernel_rfl) k64y (k64r p0) (by rfl) h
noncomputable def s64 (p0 : (List SAddr)) : EV.Spec Tryd.prog GG Unit := ⟨64, [.sl false 2 (List.map tySAddr.c p0)], [], (g64 p0).run, fun _ => .ref 7 0 p0.length, fun _ => [(7, ⟨2, true, List.map tySAddr.c p0⟩)], [7], fun _ p hp _ => by
 rw [List.mem_singleton.1 hp]; exact tySAddr.data _, fun _ h => k64 p0 h⟩
noncomputable def g56 (p0 : SNat) (p1 : Int) (p2 : (List SAddr)) : TT ((Int) ⊕ ((List SBinding))) :=
 .view 2002 (s55 (SRouter.mk p0)) [] fun r103 =>
 .br 0 (!r103)
 (.done (.inl 130))
 (.cnd 4 [26]
  (.br 4006 (decide (p1 < p0.fNow))
   (.done true)
   (.done (decide ((1099511627776 : Int) < p1))))
  (fun (c104 : Bool) => [.bool c104]) fun c104 =>
  .br 0 c104
  (.done (.inl 2))
  (.bind2 1
   (.lp (fun (l108 : Int) => Ext.lit .normal [(1, .int .i64 p1), (3, .ptr 3 0 0), (6, .nilp), (7, .int .i64 0), (8, .ptr 15 0 0), (27, .sl false 2 (List.map tySAddr.c p2)), (28, .int .i64 (mlen tySAddr p2)), (29, .int .i64 l108)] [(3, ⟨9, true, [[.int .i64 p0.fMapping, .int .i64 p0.fFilter, .int .i64 p0.fTimeout, .bool p0.fHairpin, .str p0.fHost, .int .i64 p0.fLow, .int .i64 p0.fHigh, .int .i64 p0.fNow, .sl false 7 (List.map tySBinding.c p0.fTable)]]⟩), (15, ⟨9, true, [[.int .i64 p0.fMapping, .int .i64 p0.fFilter, .int .i64 p0.fTimeout, .bool p0.fHairpin, .str p0.fHost, .int .i64 p0.fLow, .int .i64 p0.fHigh, .int .i64 p0.fNow, .sl false 7 (List.map tySBinding.c p0.fTable)]]⟩)])
    (fun l108 =>
     .br 0 (decide (l108 < (mlen tySAddr p2)))
     (.row 8001 tySAddr p2 l108.toNat (decide (0 ≤ l108)) fun x109 =>
      .view 9003 (s84 (SRouter.mk p0) x109) [] fun r110 =>
      .br 0 (!r110)
      (.done (.inr (.inl ())))
      (.done (.inl (wi64 (l108 + 1)))))
     (.done (.inr (.inr ()))))
    0)
   (fun (e111 : Unit) => Ext.lit .ret [(1, .int .i64 p1), (3, .ptr 3 0 0), (6, .nilp), (7, .int .i64 2), (8, .ptr 15 0 0)] [(3, ⟨9, true, [[.int .i64 p0.fMapping, .int .i64 p0.fFilter, .int .i64 p0.fTimeout, .bool p0.fHairpin, .str p0.fHost, .int .i64 p0.fLow, .int .i64 p0.fHigh, .int .i64 p0.fNow, .sl false 7 (List.map tySBinding.c p0.fTable)]]⟩), (15, ⟨9, true, [[.int .i64 p0.fMapping, .int .i64 p0.fFilter, .int .i64 p0.fTimeout, .bool p0.fHairpin, .str p0.fHost, .int .i64 p0.fLow, .int .i64 p0.fHigh, .int .i64 p0.fNow, .sl false 7 (List.map tySBinding.c p0.fTable)]]⟩)])
   (fun (e112 : Unit) => Ext.lit (.exit 0) [(1, .int .i64 p1), (3, .ptr 3 0 0), (6, .nilp), (7, .int .i64 0), (8, .ptr 15 0 0)] [(3, ⟨9, true, [[.int .i64 p0.fMapping, .int .i64 p0.fFilter, .int .i64 p0.fTimeout, .bool p0.fHairpin, .str p0.fHost, .int .i64 p0.fLow, .int .i64 p0.fHigh, .int .i64 p0.fNow, .sl false 7 (List.map tySBinding.c p0.fTable)]]⟩), (15, ⟨9, true, [[.int .i64 p0.fMapping, .int .i64 p0.fFilter, .int .i64 p0.fTimeout, .bool p0.fHairpin, .str p0.fHost, .int .i64 p0.fLow, .int .i64 p0.fHigh, .int .i64 p0.fNow, .sl false 7 (List.map tySBinding.c p0.fTable)]]⟩)])
   (fun e111 =>
    .done (.inl 2))
   (fun e112 =>
    .gh 1 (.virtC 600056 15 8 7) (.bind 0
    (.lp (fun (l116 : (List SBinding) × Int) => Ext.of .normal [(1, .int .i64 p1), (6, .nilp), (7, .int .i64 0), (8, .ptr 15 0 0), (48, .sl false 7 (List.map tySBinding.c p0.fTable)), (49, .int .i64 (mlen tySBinding p0.fTable)), (50, .int .i64 l116.2)] [(15, ⟨9, true, [[.int .i64 p0.fMapping, .int .i64 p0.fFilter, .int .i64 p0.fTimeout, .bool p0.fHairpin, .str p0.fHost, .int .i64 p0.fLow, .int .i64 p0.fHigh, .int .i64 p1, .ref 600056 0 l116.1.length]]⟩)] [BT.of 600056 tySBindingO6 7 l116.1 true] (by rfl))
     (fun l116 =>
      .br 0 (decide (l116.2 < (mlen tySBinding p0.fTable)))
      (.row 15001 tySBinding p0.fTable l116.2.toNat (decide (0 ≤ l116.2)) fun x117 =>
       .br 0 (decide (p1 < x117.fUntil))
       (.call 17003 (s64 x117.fOpen) [] [(7, 500060)] fun r118 =>
        .appn 18009 tySBindingO6 l116.1 x117 6 500060 tySAddr x117.fOpen 88 (.gh 0 (.drop [600056]) (.gh 0 (.ren 70 600056) (.done (.inl ((l116.1 ++ [x117]), (wi64 (l116.2 + 1))))))))
       (.done (.inl (l116.1, (wi64 (l116.2 + 1))))))
      (.done (.inr l116.1)))
     ([], 0))
    (fun (e119 : (List SBinding)) => Ext.of (.exit 2) [(6, .nilp), (7, .int .i64 0), (8, .ptr 15 0 0)] [(15, ⟨9, true, [[.int .i64 p0.fMapping, .int .i64 p0.fFilter, .int .i64 p0.fTimeout, .bool p0.fHairpin, .str p0.fHost, .int .i64 p0.fLow, .int .i64 p0.fHigh, .int .i64 p1, .ref 600056 0 e119.length]]⟩)] [BT.of 600056 tySBindingO6 7 e119 true] (by rfl))
    (fun e119 =>
     .done (.inr e119))))))
theorem k56 (p0 : SNat) (p1 : Int) (p2 : (List SAddr)) : FnB Tryd.prog GG [0, 1, 2, 3, 6, 7, 8, 10, 12, 18, 26, 27, 28, 29, 30, 36, 48, 49, 50, 51, 57] Tryd.f56 [.agg [.int .i64 p0.fMapping, .int .i64 p0.fFilter, .int .i64 p0.fTimeout, .bool p0.fHairpin, .str p0.fHost, .int .i64 p0.fLow, .int .i64 p0.fHigh, .int .i64 p0.fNow, .sl false 7 (List.map tySBinding.c p0.fTable)], .int .i64 p1, .sl false 2 (List.map tySAddr.c p2)] (Ext.of .normal (argTs [.agg [.int .i64 p0.fMapping, .int .i64 p0.fFilter, .int .i64 p0.fTimeout, .bool p0.fHairpin, .str p0.fHost, .int .i64 p0.fLow, .int .i64 p0.fHigh, .int .i64 p0.fNow, .sl false 7 (List.map tySBinding.c p0.fTable)], .int .i64 p1, .sl false 2 (List.map tySAddr.c p2)]) [] [] (by rfl)) (g56 p0 p1 p2) (Sum.elim (fun (r : Int) => .tup [.nilp, .int .i64 r]) (fun (_ : (List SBinding)) => .tup [.ptr 15 0 0, .int .i64 0])) (Sum.elim (fun (_ : Int) => Ext.of .normal [] [] [] (by rfl)) (fun (r : (List SBinding)) => Ext.of .normal [] [(15, ⟨9, true, [[.int .i64 p0.fMapping, .int .i64 p0.fFilter, .int .i64 p0.fTimeout, .bool p0.fHairpin, .str p0.fHost, .int .i64 p0.fLow, .int .i64 p0.fHigh, .int .i64 p1, .ref 600056 0 r.length]]⟩)] [BT.of 600056 tySBindingO6 7 r true] (by rfl))) := by unfold FnB; kernel_rfl
noncomputable def s56 (p0 : SNat) (p1 : Int) (p2 : (List SAddr)) : EV.Spec Tryd.prog GG ((Int) ⊕ ((List SBinding))) := .ofFnB 56 [600056] mixed Tryd.func56 rfl (fun r => by cases r <;> rfl) (k56 p0 p1 p2)
noncomputable def g56_1 (p0 : SNat) (p1 : Int) (p2 : (List SAddr)) : TT ((Int) ⊕ ((List SBinding))) :=
 .view 2002 (s55 (SRouter.mk p0)) [] fun r120 =>
 .br 0 (!r120)
 (.done (.inl 130))
 (.cnd 4 [26]
  (.br 4006 (decide (p1 < p0.fNow))
   (.done true)
   (.done (decide ((1099511627776 : Int) < p1))))
  (fun (c121 : Bool) => [.bool c121]) fun c121 =>
  .br 0 c121
  (.done (.inl 2))
  (.bind2 1
   (.lp (fun (l125 : Int) => Ext.of .normal [(1, .int .i64 p1), (3, .ptr 3 0 0), (6, .nilp), (7, .int .i64 0), (8, .ptr 15 0 0), (27, .ref 1000000 0 p2.length), (28, .int .i64 (p2.length : Int)), (29, .int .i64 l125)] [(3, ⟨9, true, [[.int .i64 p0.fMapping, .int .i64 p0.fFilter, .int .i64 p0.fTimeout, .bool p0.fHairpin, .str p0.fHost, .int .i64 p0.fLow, .int .i64 p0.fHigh, .int .i64 p0.fNow, .sl false 7 (List.map tySBinding.c p0.fTable)]]⟩), (15, ⟨9, true, [[.int .i64 p0.fMapping, .int .i64 p0.fFilter, .int .i64 p0.fTimeout, .bool p0.fHairpin, .str p0.fHost, .int .i64 p0.fLow, .int .i64 p0.fHigh, .int .i64 p0.fNow, .sl false 7 (List.map tySBinding.c p0.fTable)]]⟩)] [BT.of 1000000 tySAddr 2 p2 true] (by rfl))
    (fun l125 =>
     .br 0 (decide (l125 < (p2.length : Int)))
     (.chk 8001 (decide (0 ≤ l125) && decide (l125 < (p2.length : Int))) (.row 8002 tySAddr p2 (0 + l125.toNat) true fun x126 =>
      .view 9003 (s84 (SRouter.mk p0) x126) [] fun r127 =>
      .br 0 (!r127)
      (.done (.inr (.inl ())))
      (.done (.inl (wi64 (l125 + 1))))))
     (.done (.inr (.inr ()))))
    0)
   (fun (e128 : Unit) => Ext.lit .ret [(1, .int .i64 p1), (3, .ptr 3 0 0), (6, .nilp), (7, .int .i64 2), (8, .ptr 15 0 0)] [(3, ⟨9, true, [[.int .i64 p0.fMapping, .int .i64 p0.fFilter, .int .i64 p0.fTimeout, .bool p0.fHairpin, .str p0.fHost, .int .i64 p0.fLow, .int .i64 p0.fHigh, .int .i64 p0.fNow, .sl false 7 (List.map tySBinding.c p0.fTable)]]⟩), (15, ⟨9, true, [[.int .i64 p0.fMapping, .int .i64 p0.fFilter, .int .i64 p0.fTimeout, .bool p0.fHairpin, .str p0.fHost, .int .i64 p0.fLow, .int .i64 p0.fHigh, .int .i64 p0.fNow, .sl false 7 (List.map tySBinding.c p0.fTable)]]⟩)])
   (fun (e129 : Unit) => Ext.lit (.exit 0) [(1, .int .i64 p1), (3, .ptr 3 0 0), (6, .nilp), (7, .int .i64 0), (8, .ptr 15 0 0)] [(3, ⟨9, true, [[.int .i64 p0.fMapping, .int .i64 p0.fFilter, .int .i64 p0.fTimeout, .bool p0.fHairpin, .str p0.fHost, .int .i64 p0.fLow, .int .i64 p0.fHigh, .int .i64 p0.fNow, .sl false 7 (List.map tySBinding.c p0.fTable)]]⟩), (15, ⟨9, true, [[.int .i64 p0.fMapping, .int .i64 p0.fFilter, .int .i64 p0.fTimeout, .bool p0.fHairpin, .str p0.fHost, .int .i64 p0.fLow, .int .i64 p0.fHigh, .int .i64 p0.fNow, .sl false 7 (List.map tySBinding.c p0.fTable)]]⟩)])
   (fun e128 =>
    .done (.inl 2))
   (fun e129 =>
    .gh 1 (.virtC 600074 15 8 7) (.bind 0
    (.lp (fun (l133 : (List SBinding) × Int) => Ext.of .normal [(1, .int .i64 p1), (6, .nilp), (7, .int .i64 0), (8, .ptr 15 0 0), (48, .sl false 7 (List.map tySBinding.c p0.fTable)), (49, .int .i64 (mlen tySBinding p0.fTable)), (50, .int .i64 l133.2)] [(15, ⟨9, true, [[.int .i64 p0.fMapping, .int .i64 p0.fFilter, .int .i64 p0.fTimeout, .bool p0.fHairpin, .str p0.fHost, .int .i64 p0.fLow, .int .i64 p0.fHigh, .int .i64 p1, .ref 600074 0 l133.1.length]]⟩)] [BT.of 600074 tySBindingO6 7 l133.1 true] (by rfl))
     (fun l133 =>
      .br 0 (decide (l133.2 < (mlen tySBinding p0.fTable)))
      (.row 15001 tySBinding p0.fTable l133.2.toNat (decide (0 ≤ l133.2)) fun x134 =>
       .br 0 (decide (p1 < x134.fUntil))
       (.call 17003 (s64 x134.fOpen) [] [(7, 500078)] fun r135 =>
        .appn 18009 tySBindingO6 l133.1 x134 6 500078 tySAddr x134.fOpen 88 (.gh 0 (.drop [600074]) (.gh 0 (.ren 70 600074) (.done (.inl ((l133.1 ++ [x134]), (wi64 (l133.2 + 1))))))))
       (.done (.inl (l133.1, (wi64 (l133.2 + 1))))))
      (.done (.inr l133.1)))
     ([], 0))
    (fun (e136 : (List SBinding)) => Ext.of (.exit 2) [(6, .nilp), (7, .int .i64 0), (8, .ptr 15 0 0)] [(15, ⟨9, true, [[.int .i64 p0.fMapping, .int .i64 p0.fFilter, .int .i64 p0.fTimeout, .bool p0.fHairpin, .str p0.fHost, .int .i64 p0.fLow, .int .i64 p0.fHigh, .int .i64 p1, .ref 600074 0 e136.length]]⟩)] [BT.of 600074 tySBindingO6 7 e136 true] (by rfl))
    (fun e136 =>
     .done (.inr e136))))))
theorem k56_1 (p0 : SNat) (p1 : Int) (p2 : (List SAddr)) : FnB Tryd.prog GG [0, 1, 2, 3, 6, 7, 8, 10, 12, 18, 26, 27, 28, 29, 30, 36, 48, 49, 50, 51, 57] Tryd.f56 [.agg [.int .i64 p0.fMapping, .int .i64 p0.fFilter, .int .i64 p0.fTimeout, .bool p0.fHairpin, .str p0.fHost, .int .i64 p0.fLow, .int .i64 p0.fHigh, .int .i64 p0.fNow, .sl false 7 (List.map tySBinding.c p0.fTable)], .int .i64 p1, .ref 1000000 0 p2.length] (Ext.of .normal (argTs [.agg [.int .i64 p0.fMapping, .int .i64 p0.fFilter, .int .i64 p0.fTimeout, .bool p0.fHairpin, .str p0.fHost, .int .i64 p0.fLow, .int .i64 p0.fHigh, .int .i64 p0.fNow, .sl false 7 (List.map tySBinding.c p0.fTable)], .int .i64 p1, .ref 1000000 0 p2.length]) [] [BT.of 1000000 tySAddr 2 p2 true] (by rfl)) (g56_1 p0 p1 p2) (Sum.elim (fun (r : Int) => .tup [.nilp, .int .i64 r]) (fun (_ : (List SBinding)) => .tup [.ptr 15 0 0, .int .i64 0])) (Sum.elim (fun (_ : Int) => Ext.of .normal [] [] [] (by rfl)) (fun (r : (List SBinding)) => Ext.of .normal [] [(15, ⟨9, true, [[.int .i64 p0.fMapping, .int .i64 p0.fFilter, .int .i64 p0.fTimeout, .bool p0.fHairpin, .str p0.fHost, .int .i64 p0.fLow, .int .i64 p0.fHigh, .int .i64 p1, .ref 600074 0 r.length]]⟩)] [BT.of 600074 tySBindingO6 7 r true] (by rfl))) := by unfold FnB; kernel_rfl
noncomputable def s56_1 (p0 : SNat) (p1 : Int) (p2 : (List SAddr)) : EV.Spec Tryd.prog GG ((Int) ⊕ ((List SBinding))) := .ofFnB 56 [600074] mixed Tryd.func56 rfl (fun r => by cases r <;> rfl) (k56_1 p0 p1 p2)
noncomputable def g58 (_ : SAddr) (_ : SAddr) : TT (SAddr × Int) :=
 .fail
theorem k58 (p0 : SAddr) (p1 : SAddr) : FnD Tryd.prog GG [0, 1, 2, 4, 5, 6, 7, 8, 9, 10, 11, 12, 13, 27, 36, 103] Tryd.f58 [.nilp, .agg [.str p0.fHost, .int .i64 p0.fPort], .agg [.str p1.fHost, .int .i64 p1.fPort]] (g58 p0 p1) (fun r => .tup [.agg [.str r.1.fHost, .int .i64 r.1.fPort], .int .i64 r.2]) := by unfold FnD; kernel_rfl
noncomputable def s58 (p0 : SAddr) (p1 : SAddr) : EV.Spec Tryd.prog GG (SAddr × Int) := .ofFn 58 mixed Tryd.func58 (k58 p0 p1)
noncomputable def g146 (_ : SAddr) : TT (SAddr) :=
 .done (SAddr.mk ByteArray.empty 0)
theorem k146 (p0 : SAddr) : FnD Tryd.prog GG [0, 2] Tryd.f146 [.agg [.str p0.fHost, .int .i64 p0.fPort]] (g146 p0) (fun r => .agg [.str r.fHost, .int .i64 r.fPort]) := by unfold FnD; kernel_rfl
noncomputable def s146 (p0 : SAddr) : EV.Spec Tryd.prog GG (SAddr) := .ofFn 146 mixed Tryd.func146 (k146 p0)
noncomputable def g86 (p0 : SBinding) (p1 : SAddr) (p2 : SAddr) : TT (Bool) :=
 .cnd 1 [4]
 (.br 1006 ((decide (p0.fInside.fHost = p1.fHost)) && ((p0.fInside.fPort == p1.fPort) && true))
  (.done ((decide (p0.fPeer.fHost = p2.fHost)) && ((p0.fPeer.fPort == p2.fPort) && true)))
  (.done false))
 (fun (c146 : Bool) => [.bool c146]) fun c146 =>
 .done c146
theorem k86 (p0 : SBinding) (p1 : SAddr) (p2 : SAddr) : FnD Tryd.prog GG [0, 1, 2, 3, 4] Tryd.f86 [.agg [.str p0.fInside.fHost, .int .i64 p0.fInside.fPort, .str p0.fPeer.fHost, .int .i64 p0.fPeer.fPort, .int .i64 p0.fPort, .int .i64 p0.fUntil, .sl false 2 (List.map tySAddr.c p0.fOpen)], .snap [.str p1.fHost, .int .i64 p1.fPort], .snap [.str p2.fHost, .int .i64 p2.fPort]] (g86 p0 p1 p2) (fun r => .bool r) := by unfold FnD; kernel_rfl
noncomputable def s86 (p0 : SBinding) (p1 : SAddr) (p2 : SAddr) : EV.Spec Tryd.prog GG (Bool) := .ofFn 86 mixed Tryd.func86 (k86 p0 p1 p2)
noncomputable def g115_1 (p0 : (List SBinding)) (p1 : SAddr) (p2 : SAddr) : TT (Int) :=
 .bind2 1
 (.lp (fun (l147 : Int) => Ext.lit .normal [(0, .sl false 7 (List.map tySBinding.c p0)), (1, .fn 86 [] [.snap [.str p1.fHost, .int .i64 p1.fPort], .snap [.str p2.fHost, .int .i64 p2.fPort]]), (4, .int .i64 0), (7, .int .i64 (mlen tySBinding p0)), (8, .int .i64 l147)] [])
  (fun l147 =>
   .br 0 (decide (l147 < (mlen tySBinding p0)))
   (.row 4004 tySBinding p0 l147.toNat (decide (0 ≤ l147)) fun x148 =>
    .call 4006 (s86 x148 p1 p2) [] [] fun r149 =>
    .br 0 r149
    (.done (.inr (.inl l147)))
    (.done (.inl (wi64 (l147 + 1)))))
   (.done (.inr (.inr ()))))
  0)
 (fun (e150 : Int) => Ext.lit .ret [(4, .int .i64 e150)] [])
 (fun (_ : Unit) => Ext.lit (.exit 0) [(4, .int .i64 0)] [])
 (fun e150 =>
  .done e150)
 (fun _ =>
  .done (-1))
theorem k115_1 (p0 : (List SBinding)) (p1 : SAddr) (p2 : SAddr) : FnD Tryd.prog GG [0, 1, 4, 5, 7, 8, 9, 16] Tryd.f115 [.sl false 7 (List.map tySBinding.c p0), .fn 86 [] [.snap [.str p1.fHost, .int .i64 p1.fPort], .snap [.str p2.fHost, .int .i64 p2.fPort]]] (g115_1 p0 p1 p2) (fun r => .int .i64 r) := by unfold FnD; kernel_rfl
noncomputable def s115_1 (p0 : (List SBinding)) (p1 : SAddr) (p2 : SAddr) : EV.Spec Tryd.prog GG (Int) := .ofFn 115 mixed Tryd.func115 (k115_1 p0 p1 p2)
noncomputable def g85 (p0 : SRouter) (p1 : SAddr) (p2 : SAddr) : TT (Int) :=
 .call 1007 (s115_1 p0.fNat.fTable p1 p2) [] [] fun r152 =>
 .done r152
theorem k85 (p0 : SRouter) (p1 : SAddr) (p2 : SAddr) : FnD Tryd.prog GG [0, 1, 4] Tryd.f85 [.snap [.int .i64 p0.fNat.fMapping, .int .i64 p0.fNat.fFilter, .int .i64 p0.fNat.fTimeout, .bool p0.fNat.fHairpin, .str p0.fNat.fHost, .int .i64 p0.fNat.fLow, .int .i64 p0.fNat.fHigh, .int .i64 p0.fNat.fNow, .sl false 7 (List.map tySBinding.c p0.fNat.fTable)], .fn 86 [] [.snap [.str p1.fHost, .int .i64 p1.fPort], .snap [.str p2.fHost, .int .i64 p2.fPort]]] (g85 p0 p1 p2) (fun r => .int .i64 r) := by unfold FnD; kernel_rfl
noncomputable def s85 (p0 : SRouter) (p1 : SAddr) (p2 : SAddr) : EV.Spec Tryd.prog GG (Int) := .ofFn 85 mixed Tryd.func85 (k85 p0 p1 p2)
noncomputable def g117 (p0 : (List SAddr)) (p1 : SAddr) : TT (Int) :=
 .bind2 1
 (.lp (fun (l165 : Int) => Ext.lit .normal [(0, .sl false 2 (List.map tySAddr.c p0)), (3, .ptr 3 0 0), (4, .int .i64 0), (7, .int .i64 (mlen tySAddr p0)), (8, .int .i64 l165)] [(3, ⟨2, true, [[.str p1.fHost, .int .i64 p1.fPort]]⟩)])
  (fun l165 =>
   .br 0 (decide (l165 < (mlen tySAddr p0)))
   (.row 4004 tySAddr p0 l165.toNat (decide (0 ≤ l165)) fun x166 =>
    .br 0 ((decide (p1.fHost = x166.fHost)) && ((p1.fPort == x166.fPort) && true))
    (.done (.inr (.inl l165)))
    (.done (.inl (wi64 (l165 + 1)))))
   (.done (.inr (.inr ()))))
  0)
 (fun (e167 : Int) => Ext.lit .ret [(4, .int .i64 e167)] [])
 (fun (_ : Unit) => Ext.lit (.exit 0) [(4, .int .i64 0)] [])
 (fun e167 =>
  .done e167)
 (fun _ =>
  .done (-1))
theorem k117 (p0 : (List SAddr)) (p1 : SAddr) : FnD Tryd.prog GG [0, 1, 3, 4, 5, 7, 8, 9, 16] Tryd.f117 [.sl false 2 (List.map tySAddr.c p0), .agg [.str p1.fHost, .int .i64 p1.fPort]] (g117 p0 p1) (fun r => .int .i64 r) := by unfold FnD; kernel_rfl
noncomputable def s117 (p0 : (List SAddr)) (p1 : SAddr) : EV.Spec Tryd.prog GG (Int) := .ofFn 117 mixed Tryd.func117 (k117 p0 p1)
noncomputable def g88 (p0 : (List SAddr)) (p1 : SAddr) : TT (Bool) :=
 .call 1003 (s117 p0 p1) [] [] fun r169 =>
 .done (decide ((0 : Int) ≤ r169))
theorem k88 (p0 : (List SAddr)) (p1 : SAddr) : FnD Tryd.prog GG [0, 1, 3, 4] Tryd.f88 [.sl false 2 (List.map tySAddr.c p0), .agg [.str p1.fHost, .int .i64 p1.fPort]] (g88 p0 p1) (fun r => .bool r) := by unfold FnD; kernel_rfl
noncomputable def s88 (p0 : (List SAddr)) (p1 : SAddr) : EV.Spec Tryd.prog GG (Bool) := .ofFn 88 mixed Tryd.func88 (k88 p0 p1)
noncomputable def g147 (p0 : SAddr) : TT (SAddr) :=
 .done (SAddr.mk p0.fHost 0)
theorem k147 (p0 : SAddr) : FnD Tryd.prog GG [0, 1, 2] Tryd.f147 [.agg [.str p0.fHost, .int .i64 p0.fPort]] (g147 p0) (fun r => .agg [.str r.fHost, .int .i64 r.fPort]) := by unfold FnD; kernel_rfl
noncomputable def s147 (p0 : SAddr) : EV.Spec Tryd.prog GG (SAddr) := .ofFn 147 mixed Tryd.func147 (k147 p0)
noncomputable def g148 (p0 : SAddr) : TT (SAddr) :=
 .done p0
theorem k148 (p0 : SAddr) : FnD Tryd.prog GG [0, 1, 2] Tryd.f148 [.agg [.str p0.fHost, .int .i64 p0.fPort]] (g148 p0) (fun r => .agg [.str r.fHost, .int .i64 r.fPort]) := by unfold FnD; kernel_rfl
noncomputable def s148 (p0 : SAddr) : EV.Spec Tryd.prog GG (SAddr) := .ofFn 148 mixed Tryd.func148 (k148 p0)
noncomputable def g58_1 (p0 : SAddr) (p1 : SAddr) (p2 : Int) (p3 : Int) (p4 : Int) (p5 : Bool) (p6 : ByteArray) (p7 : Int) (p8 : Int) (p9 : Int) (p10 : (List SBinding)) : TT ((List SBinding) × Int × ByteArray × Int) :=
 .ceq 1006 p2 [0, 1, 2, 3] (fun v => bif v == 0 then .fail else bif v == 1 then .call 1009 (s146 p1) [] [] fun r187 =>
  .view 2003 (s85 (SRouter.mk (SNat.mk p2 p3 p4 p5 p6 p7 p8 p9 p10)) p0 r187) [(VwW.of 1000001 tySBindingO6 p10)] fun r188 =>
  .bind2 0
  (.br 0 (decide (r188 < 0))
   (.view 4004 (s87 (SRouter.mk (SNat.mk p2 p3 p4 p5 p6 p7 p8 p9 p10)) p0.fPort) [(VwW.of 1000001 tySBindingO6 p10)] fun r189 =>
    .br 0 (!r189.isSome)
    (.done (.inl ()))
    (.app 8012 tySBindingO6 p10 [(SBinding.mk p0 r187 (r189.getD 0) 0 [])] 88 false (by intro h; cases h) (.gh 0 (.ren 55 600083) (.done (.inr ((p10 ++ [(SBinding.mk p0 r187 (r189.getD 0) 0 [])]), (p10.length : Int)))))))
   (.gh 0 (.ren 1000001 600083) (.done (.inr (p10, r188)))))
  (fun (e190 : Unit) => Ext.of .ret [(0, .ptr 1000000 0 0), (5, .ptr 5 0 0), (6, .ptr 6 0 0), (7, .int .i64 4), (9, .int .i64 r188)] [(5, ⟨2, true, [[.str p1.fHost, .int .i64 p1.fPort]]⟩), (6, ⟨2, true, [[.str ByteArray.empty, .int .i64 0]]⟩), (1000000, ⟨9, true, [[.int .i64 p2, .int .i64 p3, .int .i64 p4, .bool p5, .str p6, .int .i64 p7, .int .i64 p8, .int .i64 p9, .ref 1000001 0 p10.length]]⟩)] [BT.of 1000001 tySBindingO6 7 p10 true] (by rfl))
  (fun (e191 : (List SBinding) × Int) => Ext.of .normal [(0, .ptr 1000000 0 0), (5, .ptr 5 0 0), (6, .ptr 6 0 0), (7, .int .i64 0), (9, .int .i64 e191.2)] [(5, ⟨2, true, [[.str p1.fHost, .int .i64 p1.fPort]]⟩), (6, ⟨2, true, [[.str ByteArray.empty, .int .i64 0]]⟩), (1000000, ⟨9, true, [[.int .i64 p2, .int .i64 p3, .int .i64 p4, .bool p5, .str p6, .int .i64 p7, .int .i64 p8, .int .i64 p9, .ref 600083 0 e191.1.length]]⟩)] [BT.of 600083 tySBindingO6 7 e191.1 true] (by rfl))
  (fun e190 =>
   .gh 0 (.ren 1000001 660000) (.done (p10, 4, ByteArray.empty, 0)))
  (fun e191 =>
   .chk 9007 (decide (0 ≤ e191.2) && decide (e191.2 < (e191.1.length : Int))) (.row 10015 tySBindingO6 e191.1 (0 + e191.2.toNat) true fun x192 =>
   .re 10015 (ReW.put 600083 7 tySBindingO6 e191.1 (0 + e191.2.toNat) (SBinding.mk x192.fInside x192.fPeer x192.fPort (wi64 (p9 + p4)) x192.fOpen)) (.gh 13 (.len 600083 ((e191.1.set (0 + e191.2.toNat) (SBinding.mk x192.fInside x192.fPeer x192.fPort (wi64 (p9 + p4)) x192.fOpen)).length) [e191.1.length] (by simp)) (.ceq 11006 p3 [0, 1, 2, 3] (fun v => bif v == 0 then .fail else bif v == 1 then .call 11009 (s146 p1) [] [] fun r193 =>
    .cnd 12 [103]
    (.br 12008 (p3 != 1)
     (.row 12011 tySBindingO6 (e191.1.set (0 + e191.2.toNat) (SBinding.mk x192.fInside x192.fPeer x192.fPort (wi64 (p9 + p4)) x192.fOpen)) (0 + e191.2.toNat) true fun x194 =>
      .call 12013 (s88 x194.fOpen r193) [] [] fun r195 =>
      .done (!r195))
     (.done false))
    (fun (c196 : Bool) => [.bool c196]) fun c196 =>
    .bind 0
    (.br 0 c196
     (.rowt 13005 tySBindingO6 (e191.1.set (0 + e191.2.toNat) (SBinding.mk x192.fInside x192.fPeer x192.fPort (wi64 (p9 + p4)) x192.fOpen)) (0 + e191.2.toNat) 6 fun x197 =>
      .re 13005 (ReW.take 600083 7 true tySBindingO6 (e191.1.set (0 + e191.2.toNat) (SBinding.mk x192.fInside x192.fPeer x192.fPort (wi64 (p9 + p4)) x192.fOpen)) (0 + e191.2.toNat) [.str x197.fInside.fHost, .int .i64 x197.fInside.fPort, .str x197.fPeer.fHost, .int .i64 x197.fPeer.fPort, .int .i64 x197.fPort, .int .i64 x197.fUntil, .sl false 2 (List.map tySAddr.c x197.fOpen)] rfl 108 2 tySAddr x197.fOpen (fun _ => rfl) (fun n => .ref 108 0 n)) (.app 13008 tySAddr x197.fOpen [r193] 24 false (by intro h; cases h) (.nst 13011 tySBindingO6 (e191.1.set (0 + e191.2.toNat) (SBinding.mk x192.fInside x192.fPeer x192.fPort (wi64 (p9 + p4)) x192.fOpen)) [.str x197.fInside.fHost, .int .i64 x197.fInside.fPort, .str x197.fPeer.fHost, .int .i64 x197.fPeer.fPort, .int .i64 x197.fPort, .int .i64 x197.fUntil, .sl false 2 (List.map tySAddr.c x197.fOpen)] (0 + e191.2.toNat) 6 (SBinding.mk x197.fInside x197.fPeer x197.fPort x197.fUntil (x197.fOpen ++ [r193])) tySAddr (x197.fOpen ++ [r193]) none (.gh 16 (.len 600083 (((e191.1.set (0 + e191.2.toNat) (SBinding.mk x192.fInside x192.fPeer x192.fPort (wi64 (p9 + p4)) x192.fOpen)).set (0 + e191.2.toNat) (SBinding.mk x197.fInside x197.fPeer x197.fPort x197.fUntil (x197.fOpen ++ [r193]))).length) [(e191.1.set (0 + e191.2.toNat) (SBinding.mk x192.fInside x192.fPeer x192.fPort (wi64 (p9 + p4)) x192.fOpen)).length] (by simp)) (.rowg 16 600083 500084 tySBindingO6 ((e191.1.set (0 + e191.2.toNat) (SBinding.mk x192.fInside x192.fPeer x192.fPort (wi64 (p9 + p4)) x192.fOpen)).set (0 + e191.2.toNat) (SBinding.mk x197.fInside x197.fPeer x197.fPort x197.fUntil (x197.fOpen ++ [r193]))) (0 + e191.2.toNat) 6 2 tySAddr (fun x198 => x198.fOpen) (fun _ => rfl) (fun _ => rfl) fun x198 =>
      .hrow 14005 tySBindingO6 ((e191.1.set (0 + e191.2.toNat) (SBinding.mk x192.fInside x192.fPeer x192.fPort (wi64 (p9 + p4)) x192.fOpen)).set (0 + e191.2.toNat) (SBinding.mk x197.fInside x197.fPeer x197.fPort x197.fUntil (x197.fOpen ++ [r193]))) [.str x198.fInside.fHost, .int .i64 x198.fInside.fPort, .str x198.fPeer.fHost, .int .i64 x198.fPeer.fPort, .int .i64 x198.fPort, .int .i64 x198.fUntil, .ref 500084 0 x198.fOpen.length] (0 + e191.2.toNat) (.hrow 14009 tySBindingO6 ((e191.1.set (0 + e191.2.toNat) (SBinding.mk x192.fInside x192.fPeer x192.fPort (wi64 (p9 + p4)) x192.fOpen)).set (0 + e191.2.toNat) (SBinding.mk x197.fInside x197.fPeer x197.fPort x197.fUntil (x197.fOpen ++ [r193]))) [.str x198.fInside.fHost, .int .i64 x198.fInside.fPort, .str x198.fPeer.fHost, .int .i64 x198.fPeer.fPort, .int .i64 x198.fPort, .int .i64 x198.fUntil, .ref 500084 0 x198.fOpen.length] (0 + e191.2.toNat) (.chk 14013 (decide (0 ≤ (if (wi64 ((x198.fOpen.length : Int) - 16)) > (0 : Int) then (wi64 ((x198.fOpen.length : Int) - 16)) else (0 : Int))) && decide ((if (wi64 ((x198.fOpen.length : Int) - 16)) > (0 : Int) then (wi64 ((x198.fOpen.length : Int) - 16)) else (0 : Int)) ≤ (x198.fOpen.length : Int))) (.nst 14016 tySBindingO6 ((e191.1.set (0 + e191.2.toNat) (SBinding.mk x192.fInside x192.fPeer x192.fPort (wi64 (p9 + p4)) x192.fOpen)).set (0 + e191.2.toNat) (SBinding.mk x197.fInside x197.fPeer x197.fPort x197.fUntil (x197.fOpen ++ [r193]))) [.str x198.fInside.fHost, .int .i64 x198.fInside.fPort, .str x198.fPeer.fHost, .int .i64 x198.fPeer.fPort, .int .i64 x198.fPort, .int .i64 x198.fUntil, .ref 500084 0 x198.fOpen.length] (0 + e191.2.toNat) 6 (SBinding.mk x198.fInside x198.fPeer x198.fPort x198.fUntil (x198.fOpen.drop ((if (wi64 ((x198.fOpen.length : Int) - 16)) > (0 : Int) then (wi64 ((x198.fOpen.length : Int) - 16)) else (0 : Int)).toNat))) tySAddr x198.fOpen (some ((if (wi64 ((x198.fOpen.length : Int) - 16)) > (0 : Int) then (wi64 ((x198.fOpen.length : Int) - 16)) else (0 : Int)).toNat)) (.gh 0 (.len 600083 ((((e191.1.set (0 + e191.2.toNat) (SBinding.mk x192.fInside x192.fPeer x192.fPort (wi64 (p9 + p4)) x192.fOpen)).set (0 + e191.2.toNat) (SBinding.mk x197.fInside x197.fPeer x197.fPort x197.fUntil (x197.fOpen ++ [r193]))).set (0 + e191.2.toNat) (SBinding.mk x198.fInside x198.fPeer x198.fPort x198.fUntil (x198.fOpen.drop ((if (wi64 ((x198.fOpen.length : Int) - 16)) > (0 : Int) then (wi64 ((x198.fOpen.length : Int) - 16)) else (0 : Int)).toNat)))).length) [((e191.1.set (0 + e191.2.toNat) (SBinding.mk x192.fInside x192.fPeer x192.fPort (wi64 (p9 + p4)) x192.fOpen)).set (0 + e191.2.toNat) (SBinding.mk x197.fInside x197.fPeer x197.fPort x197.fUntil (x197.fOpen ++ [r193]))).length] (by simp)) (.done (((e191.1.set (0 + e191.2.toNat) (SBinding.mk x192.fInside x192.fPeer x192.fPort (wi64 (p9 + p4)) x192.fOpen)).set (0 + e191.2.toNat) (SBinding.mk x197.fInside x197.fPeer x197.fPort x197.fUntil (x197.fOpen ++ [r193]))).set (0 + e191.2.toNat) (SBinding.mk x198.fInside x198.fPeer x198.fPort x198.fUntil (x198.fOpen.drop ((if (wi64 ((x198.fOpen.length : Int) - 16)) > (0 : Int) then (wi64 ((x198.fOpen.length : Int) - 16)) else (0 : Int)).toNat))))))))))))))
     (.done (e191.1.set (0 + e191.2.toNat) (SBinding.mk x192.fInside x192.fPeer x192.fPort (wi64 (p9 + p4)) x192.fOpen))))
    (fun (e199 : (List SBinding)) => Ext.of .normal [(0, .ptr 1000000 0 0), (6, .ptr 6 0 0), (7, .int .i64 0), (12, .ptr 600083 (0 + e191.2.toNat) 0)] [(6, ⟨2, true, [[.str ByteArray.empty, .int .i64 0]]⟩), (1000000, ⟨9, true, [[.int .i64 p2, .int .i64 p3, .int .i64 p4, .bool p5, .str p6, .int .i64 p7, .int .i64 p8, .int .i64 p9, .ref 600083 0 e199.length]]⟩)] [BT.of 600083 tySBindingO6 7 e199 true] (by rfl))
    (fun e199 =>
     .row 15009 tySBindingO6 e199 (0 + e191.2.toNat) true fun x200 =>
     .gh 0 (.ren 600083 660000) (.done (e199, 0, p6, x200.fPort))) else bif v == 2 then .call 11009 (s147 p1) [] [] fun r201 =>
    .cnd 12 [103]
    (.br 12008 (p3 != 1)
     (.row 12011 tySBindingO6 (e191.1.set (0 + e191.2.toNat) (SBinding.mk x192.fInside x192.fPeer x192.fPort (wi64 (p9 + p4)) x192.fOpen)) (0 + e191.2.toNat) true fun x202 =>
      .call 12013 (s88 x202.fOpen r201) [] [] fun r203 =>
      .done (!r203))
     (.done false))
    (fun (c204 : Bool) => [.bool c204]) fun c204 =>
    .bind 0
    (.br 0 c204
     (.rowt 13005 tySBindingO6 (e191.1.set (0 + e191.2.toNat) (SBinding.mk x192.fInside x192.fPeer x192.fPort (wi64 (p9 + p4)) x192.fOpen)) (0 + e191.2.toNat) 6 fun x205 =>
      .re 13005 (ReW.take 600083 7 true tySBindingO6 (e191.1.set (0 + e191.2.toNat) (SBinding.mk x192.fInside x192.fPeer x192.fPort (wi64 (p9 + p4)) x192.fOpen)) (0 + e191.2.toNat) [.str x205.fInside.fHost, .int .i64 x205.fInside.fPort, .str x205.fPeer.fHost, .int .i64 x205.fPeer.fPort, .int .i64 x205.fPort, .int .i64 x205.fUntil, .sl false 2 (List.map tySAddr.c x205.fOpen)] rfl 108 2 tySAddr x205.fOpen (fun _ => rfl) (fun n => .ref 108 0 n)) (.app 13008 tySAddr x205.fOpen [r201] 24 false (by intro h; cases h) (.nst 13011 tySBindingO6 (e191.1.set (0 + e191.2.toNat) (SBinding.mk x192.fInside x192.fPeer x192.fPort (wi64 (p9 + p4)) x192.fOpen)) [.str x205.fInside.fHost, .int .i64 x205.fInside.fPort, .str x205.fPeer.fHost, .int .i64 x205.fPeer.fPort, .int .i64 x205.fPort, .int .i64 x205.fUntil, .sl false 2 (List.map tySAddr.c x205.fOpen)] (0 + e191.2.toNat) 6 (SBinding.mk x205.fInside x205.fPeer x205.fPort x205.fUntil (x205.fOpen ++ [r201])) tySAddr (x205.fOpen ++ [r201]) none (.gh 16 (.len 600083 (((e191.1.set (0 + e191.2.toNat) (SBinding.mk x192.fInside x192.fPeer x192.fPort (wi64 (p9 + p4)) x192.fOpen)).set (0 + e191.2.toNat) (SBinding.mk x205.fInside x205.fPeer x205.fPort x205.fUntil (x205.fOpen ++ [r201]))).length) [(e191.1.set (0 + e191.2.toNat) (SBinding.mk x192.fInside x192.fPeer x192.fPort (wi64 (p9 + p4)) x192.fOpen)).length] (by simp)) (.rowg 16 600083 500085 tySBindingO6 ((e191.1.set (0 + e191.2.toNat) (SBinding.mk x192.fInside x192.fPeer x192.fPort (wi64 (p9 + p4)) x192.fOpen)).set (0 + e191.2.toNat) (SBinding.mk x205.fInside x205.fPeer x205.fPort x205.fUntil (x205.fOpen ++ [r201]))) (0 + e191.2.toNat) 6 2 tySAddr (fun x206 => x206.fOpen) (fun _ => rfl) (fun _ => rfl) fun x206 =>
      .hrow 14005 tySBindingO6 ((e191.1.set (0 + e191.2.toNat) (SBinding.mk x192.fInside x192.fPeer x192.fPort (wi64 (p9 + p4)) x192.fOpen)).set (0 + e191.2.toNat) (SBinding.mk x205.fInside x205.fPeer x205.fPort x205.fUntil (x205.fOpen ++ [r201]))) [.str x206.fInside.fHost, .int .i64 x206.fInside.fPort, .str x206.fPeer.fHost, .int .i64 x206.fPeer.fPort, .int .i64 x206.fPort, .int .i64 x206.fUntil, .ref 500085 0 x206.fOpen.length] (0 + e191.2.toNat) (.hrow 14009 tySBindingO6 ((e191.1.set (0 + e191.2.toNat) (SBinding.mk x192.fInside x192.fPeer x192.fPort (wi64 (p9 + p4)) x192.fOpen)).set (0 + e191.2.toNat) (SBinding.mk x205.fInside x205.fPeer x205.fPort x205.fUntil (x205.fOpen ++ [r201]))) [.str x206.fInside.fHost, .int .i64 x206.fInside.fPort, .str x206.fPeer.fHost, .int .i64 x206.fPeer.fPort, .int .i64 x206.fPort, .int .i64 x206.fUntil, .ref 500085 0 x206.fOpen.length] (0 + e191.2.toNat) (.chk 14013 (decide (0 ≤ (if (wi64 ((x206.fOpen.length : Int) - 16)) > (0 : Int) then (wi64 ((x206.fOpen.length : Int) - 16)) else (0 : Int))) && decide ((if (wi64 ((x206.fOpen.length : Int) - 16)) > (0 : Int) then (wi64 ((x206.fOpen.length : Int) - 16)) else (0 : Int)) ≤ (x206.fOpen.length : Int))) (.nst 14016 tySBindingO6 ((e191.1.set (0 + e191.2.toNat) (SBinding.mk x192.fInside x192.fPeer x192.fPort (wi64 (p9 + p4)) x192.fOpen)).set (0 + e191.2.toNat) (SBinding.mk x205.fInside x205.fPeer x205.fPort x205.fUntil (x205.fOpen ++ [r201]))) [.str x206.fInside.fHost, .int .i64 x206.fInside.fPort, .str x206.fPeer.fHost, .int .i64 x206.fPeer.fPort, .int .i64 x206.fPort, .int .i64 x206.fUntil, .ref 500085 0 x206.fOpen.length] (0 + e191.2.toNat) 6 (SBinding.mk x206.fInside x206.fPeer x206.fPort x206.fUntil (x206.fOpen.drop ((if (wi64 ((x206.fOpen.length : Int) - 16)) > (0 : Int) then (wi64 ((x206.fOpen.length : Int) - 16)) else (0 : Int)).toNat))) tySAddr x206.fOpen (some ((if (wi64 ((x206.fOpen.length : Int) - 16)) > (0 : Int) then (wi64 ((x206.fOpen.length : Int) - 16)) else (0 : Int)).toNat)) (.gh 0 (.len 600083 ((((e191.1.set (0 + e191.2.toNat) (SBinding.mk x192.fInside x192.fPeer x192.fPort (wi64 (p9 + p4)) x192.fOpen)).set (0 + e191.2.toNat) (SBinding.mk x205.fInside x205.fPeer x205.fPort x205.fUntil (x205.fOpen ++ [r201]))).set (0 + e191.2.toNat) (SBinding.mk x206.fInside x206.fPeer x206.fPort x206.fUntil (x206.fOpen.drop ((if (wi64 ((x206.fOpen.length : Int) - 16)) > (0 : Int) then (wi64 ((x206.fOpen.length : Int) - 16)) else (0 : Int)).toNat)))).length) [((e191.1.set (0 + e191.2.toNat) (SBinding.mk x192.fInside x192.fPeer x192.fPort (wi64 (p9 + p4)) x192.fOpen)).set (0 + e191.2.toNat) (SBinding.mk x205.fInside x205.fPeer x205.fPort x205.fUntil (x205.fOpen ++ [r201]))).length] (by simp)) (.done (((e191.1.set (0 + e191.2.toNat) (SBinding.mk x192.fInside x192.fPeer x192.fPort (wi64 (p9 + p4)) x192.fOpen)).set (0 + e191.2.toNat) (SBinding.mk x205.fInside x205.fPeer x205.fPort x205.fUntil (x205.fOpen ++ [r201]))).set (0 + e191.2.toNat) (SBinding.mk x206.fInside x206.fPeer x206.fPort x206.fUntil (x206.fOpen.drop ((if (wi64 ((x206.fOpen.length : Int) - 16)) > (0 : Int) then (wi64 ((x206.fOpen.length : Int) - 16)) else (0 : Int)).toNat))))))))))))))
     (.done (e191.1.set (0 + e191.2.toNat) (SBinding.mk x192.fInside x192.fPeer x192.fPort (wi64 (p9 + p4)) x192.fOpen))))
    (fun (e207 : (List SBinding)) => Ext.of .normal [(0, .ptr 1000000 0 0), (6, .ptr 6 0 0), (7, .int .i64 0), (12, .ptr 600083 (0 + e191.2.toNat) 0)] [(6, ⟨2, true, [[.str ByteArray.empty, .int .i64 0]]⟩), (1000000, ⟨9, true, [[.int .i64 p2, .int .i64 p3, .int .i64 p4, .bool p5, .str p6, .int .i64 p7, .int .i64 p8, .int .i64 p9, .ref 600083 0 e207.length]]⟩)] [BT.of 600083 tySBindingO6 7 e207 true] (by rfl))
    (fun e207 =>
     .row 15009 tySBindingO6 e207 (0 + e191.2.toNat) true fun x208 =>
     .gh 0 (.ren 600083 660000) (.done (e207, 0, p6, x208.fPort))) else bif v == 3 then .call 11009 (s148 p1) [] [] fun r209 =>
    .cnd 12 [103]
    (.br 12008 (p3 != 1)
     (.row 12011 tySBindingO6 (e191.1.set (0 + e191.2.toNat) (SBinding.mk x192.fInside x192.fPeer x192.fPort (wi64 (p9 + p4)) x192.fOpen)) (0 + e191.2.toNat) true fun x210 =>
      .call 12013 (s88 x210.fOpen r209) [] [] fun r211 =>
      .done (!r211))
     (.done false))
    (fun (c212 : Bool) => [.bool c212]) fun c212 =>
    .bind 0
    (.br 0 c212
     (.rowt 13005 tySBindingO6 (e191.1.set (0 + e191.2.toNat) (SBinding.mk x192.fInside x192.fPeer x192.fPort (wi64 (p9 + p4)) x192.fOpen)) (0 + e191.2.toNat) 6 fun x213 =>
      .re 13005 (ReW.take 600083 7 true tySBindingO6 (e191.1.set (0 + e191.2.toNat) (SBinding.mk x192.fInside x192.fPeer x192.fPort (wi64 (p9 + p4)) x192.fOpen)) (0 + e191.2.toNat) [.str x213.fInside.fHost, .int .i64 x213.fInside.fPort, .str x213.fPeer.fHost, .int .i64 x213.fPeer.fPort, .int .i64 x213.fPort, .int .i64 x213.fUntil, .sl false 2 (List.map tySAddr.c x213.fOpen)] rfl 108 2 tySAddr x213.fOpen (fun _ => rfl) (fun n => .ref 108 0 n)) (.app 13008 tySAddr x213.fOpen [r209] 24 false (by intro h; cases h) (.nst 13011 tySBindingO6 (e191.1.set (0 + e191.2.toNat) (SBinding.mk x192.fInside x192.fPeer x192.fPort (wi64 (p9 + p4)) x192.fOpen)) [.str x213.fInside.fHost, .int .i64 x213.fInside.fPort, .str x213.fPeer.fHost, .int .i64 x213.fPeer.fPort, .int .i64 x213.fPort, .int .i64 x213.fUntil, .sl false 2 (List.map tySAddr.c x213.fOpen)] (0 + e191.2.toNat) 6 (SBinding.mk x213.fInside x213.fPeer x213.fPort x213.fUntil (x213.fOpen ++ [r209])) tySAddr (x213.fOpen ++ [r209]) none (.gh 16 (.len 600083 (((e191.1.set (0 + e191.2.toNat) (SBinding.mk x192.fInside x192.fPeer x192.fPort (wi64 (p9 + p4)) x192.fOpen)).set (0 + e191.2.toNat) (SBinding.mk x213.fInside x213.fPeer x213.fPort x213.fUntil (x213.fOpen ++ [r209]))).length) [(e191.1.set (0 + e191.2.toNat) (SBinding.mk x192.fInside x192.fPeer x192.fPort (wi64 (p9 + p4)) x192.fOpen)).length] (by simp)) (.rowg 16 600083 500086 tySBindingO6 ((e191.1.set (0 + e191.2.toNat) (SBinding.mk x192.fInside x192.fPeer x192.fPort (wi64 (p9 + p4)) x192.fOpen)).set (0 + e191.2.toNat) (SBinding.mk x213.fInside x213.fPeer x213.fPort x213.fUntil (x213.fOpen ++ [r209]))) (0 + e191.2.toNat) 6 2 tySAddr (fun x214 => x214.fOpen) (fun _ => rfl) (fun _ => rfl) fun x214 =>
      .hrow 14005 tySBindingO6 ((e191.1.set (0 + e191.2.toNat) (SBinding.mk x192.fInside x192.fPeer x192.fPort (wi64 (p9 + p4)) x192.fOpen)).set (0 + e191.2.toNat) (SBinding.mk x213.fInside x213.fPeer x213.fPort x213.fUntil (x213.fOpen ++ [r209]))) [.str x214.fInside.fHost, .int .i64 x214.fInside.fPort, .str x214.fPeer.fHost, .int .i64 x214.fPeer.fPort, .int .i64 x214.fPort, .int .i64 x214.fUntil, .ref 500086 0 x214.fOpen.length] (0 + e191.2.toNat) (.hrow 14009 tySBindingO6 ((e191.1.set (0 + e191.2.toNat) (SBinding.mk x192.fInside x192.fPeer x192.fPort (wi64 (p9 + p4)) x192.fOpen)).set (0 + e191.2.toNat) (SBinding.mk x213.fInside x213.fPeer x213.fPort x213.fUntil (x213.fOpen ++ [r209]))) [.str x214.fInside.fHost, .int .i64 x214.fInside.fPort, .str x214.fPeer.fHost, .int .i64 x214.fPeer.fPort, .int .i64 x214.fPort, .int .i64 x214.fUntil, .ref 500086 0 x214.fOpen.length] (0 + e191.2.toNat) (.chk 14013 (decide (0 ≤ (if (wi64 ((x214.fOpen.length : Int) - 16)) > (0 : Int) then (wi64 ((x214.fOpen.length : Int) - 16)) else (0 : Int))) && decide ((if (wi64 ((x214.fOpen.length : Int) - 16)) > (0 : Int) then (wi64 ((x214.fOpen.length : Int) - 16)) else (0 : Int)) ≤ (x214.fOpen.length : Int))) (.nst 14016 tySBindingO6 ((e191.1.set (0 + e191.2.toNat) (SBinding.mk x192.fInside x192.fPeer x192.fPort (wi64 (p9 + p4)) x192.fOpen)).set (0 + e191.2.toNat) (SBinding.mk x213.fInside x213.fPeer x213.fPort x213.fUntil (x213.fOpen ++ [r209]))) [.str x214.fInside.fHost, .int .i64 x214.fInside.fPort, .str x214.fPeer.fHost, .int .i64 x214.fPeer.fPort, .int .i64 x214.fPort, .int .i64 x214.fUntil, .ref 500086 0 x214.fOpen.length] (0 + e191.2.toNat) 6 (SBinding.mk x214.fInside x214.fPeer x214.fPort x214.fUntil (x214.fOpen.drop ((if (wi64 ((x214.fOpen.length : Int) - 16)) > (0 : Int) then (wi64 ((x214.fOpen.length : Int) - 16)) else (0 : Int)).toNat))) tySAddr x214.fOpen (some ((if (wi64 ((x214.fOpen.length : Int) - 16)) > (0 : Int) then (wi64 ((x214.fOpen.length : Int) - 16)) else (0 : Int)).toNat)) (.gh 0 (.len 600083 ((((e191.1.set (0 + e191.2.toNat) (SBinding.mk x192.fInside x192.fPeer x192.fPort (wi64 (p9 + p4)) x192.fOpen)).set (0 + e191.2.toNat) (SBinding.mk x213.fInside x213.fPeer x213.fPort x213.fUntil (x213.fOpen ++ [r209]))).set (0 + e191.2.toNat) (SBinding.mk x214.fInside x214.fPeer x214.fPort x214.fUntil (x214.fOpen.drop ((if (wi64 ((x214.fOpen.length : Int) - 16)) > (0 : Int) then (wi64 ((x214.fOpen.length : Int) - 16)) else (0 : Int)).toNat)))).length) [((e191.1.set (0 + e191.2.toNat) (SBinding.mk x192.fInside x192.fPeer x192.fPort (wi64 (p9 + p4)) x192.fOpen)).set (0 + e191.2.toNat) (SBinding.mk x213.fInside x213.fPeer x213.fPort x213.fUntil (x213.fOpen ++ [r209]))).length] (by simp)) (.done (((e191.1.set (0 + e191.2.toNat) (SBinding.mk x192.fInside x192.fPeer x192.fPort (wi64 (p9 + p4)) x192.fOpen)).set (0 + e191.2.toNat) (SBinding.mk x213.fInside x213.fPeer x213.fPort x213.fUntil (x213.fOpen ++ [r209]))).set (0 + e191.2.toNat) (SBinding.mk x214.fInside x214.fPeer x214.fPort x214.fUntil (x214.fOpen.drop ((if (wi64 ((x214.fOpen.length : Int) - 16)) > (0 : Int) then (wi64 ((x214.fOpen.length : Int) - 16)) else (0 : Int)).toNat))))))))))))))
     (.done (e191.1.set (0 + e191.2.toNat) (SBinding.mk x192.fInside x192.fPeer x192.fPort (wi64 (p9 + p4)) x192.fOpen))))
    (fun (e215 : (List SBinding)) => Ext.of .normal [(0, .ptr 1000000 0 0), (6, .ptr 6 0 0), (7, .int .i64 0), (12, .ptr 600083 (0 + e191.2.toNat) 0)] [(6, ⟨2, true, [[.str ByteArray.empty, .int .i64 0]]⟩), (1000000, ⟨9, true, [[.int .i64 p2, .int .i64 p3, .int .i64 p4, .bool p5, .str p6, .int .i64 p7, .int .i64 p8, .int .i64 p9, .ref 600083 0 e215.length]]⟩)] [BT.of 600083 tySBindingO6 7 e215 true] (by rfl))
    (fun e215 =>
     .row 15009 tySBindingO6 e215 (0 + e191.2.toNat) true fun x216 =>
     .gh 0 (.ren 600083 660000) (.done (e215, 0, p6, x216.fPort))) else .fail))))) else bif v == 2 then .call 1009 (s147 p1) [] [] fun r217 =>
  .view 2003 (s85 (SRouter.mk (SNat.mk p2 p3 p4 p5 p6 p7 p8 p9 p10)) p0 r217) [(VwW.of 1000001 tySBindingO6 p10)] fun r218 =>
  .bind2 0
  (.br 0 (decide (r218 < 0))
   (.view 4004 (s87 (SRouter.mk (SNat.mk p2 p3 p4 p5 p6 p7 p8 p9 p10)) p0.fPort) [(VwW.of 1000001 tySBindingO6 p10)] fun r219 =>
    .br 0 (!r219.isSome)
    (.done (.inl ()))
    (.app 8012 tySBindingO6 p10 [(SBinding.mk p0 r217 (r219.getD 0) 0 [])] 88 false (by intro h; cases h) (.gh 0 (.ren 55 600087) (.done (.inr ((p10 ++ [(SBinding.mk p0 r217 (r219.getD 0) 0 [])]), (p10.length : Int)))))))
   (.gh 0 (.ren 1000001 600087) (.done (.inr (p10, r218)))))
  (fun (e220 : Unit) => Ext.of .ret [(0, .ptr 1000000 0 0), (5, .ptr 5 0 0), (6, .ptr 6 0 0), (7, .int .i64 4), (9, .int .i64 r218)] [(5, ⟨2, true, [[.str p1.fHost, .int .i64 p1.fPort]]⟩), (6, ⟨2, true, [[.str ByteArray.empty, .int .i64 0]]⟩), (1000000, ⟨9, true, [[.int .i64 p2, .int .i64 p3, .int .i64 p4, .bool p5, .str p6, .int .i64 p7, .int .i64 p8, .int .i64 p9, .ref 1000001 0 p10.length]]⟩)] [BT.of 1000001 tySBindingO6 7 p10 true] (by rfl))
  (fun (e221 : (List SBinding) × Int) => Ext.of .normal [(0, .ptr 1000000 0 0), (5, .ptr 5 0 0), (6, .ptr 6 0 0), (7, .int .i64 0), (9, .int .i64 e221.2)] [(5, ⟨2, true, [[.str p1.fHost, .int .i64 p1.fPort]]⟩), (6, ⟨2, true, [[.str ByteArray.empty, .int .i64 0]]⟩), (1000000, ⟨9, true, [[.int .i64 p2, .int .i64 p3, .int .i64 p4, .bool p5, .str p6, .int .i64 p7, .int .i64 p8, .int .i64 p9, .ref 600087 0 e221.1.length]]⟩)] [BT.of 600087 tySBindingO6 7 e221.1 true] (by rfl))
  (fun e220 =>
   .gh 0 (.ren 1000001 660000) (.done (p10, 4, ByteArray.empty, 0)))
  (fun e221 =>
   .chk 9007 (decide (0 ≤ e221.2) && decide (e221.2 < (e221.1.length : Int))) (.row 10015 tySBindingO6 e221.1 (0 + e221.2.toNat) true fun x222 =>
   .re 10015 (ReW.put 600087 7 tySBindingO6 e221.1 (0 + e221.2.toNat) (SBinding.mk x222.fInside x222.fPeer x222.fPort (wi64 (p9 + p4)) x222.fOpen)) (.gh 13 (.len 600087 ((e221.1.set (0 + e221.2.toNat) (SBinding.mk x222.fInside x222.fPeer x222.fPort (wi64 (p9 + p4)) x222.fOpen)).length) [e221.1.length] (by simp)) (.ceq 11006 p3 [0, 1, 2, 3] (fun v => bif v == 0 then .fail else bif v == 1 then .call 11009 (s146 p1) [] [] fun r223 =>
    .cnd 12 [103]
    (.br 12008 (p3 != 1)
     (.row 12011 tySBindingO6 (e221.1.set (0 + e221.2.toNat) (SBinding.mk x222.fInside x222.fPeer x222.fPort (wi64 (p9 + p4)) x222.fOpen)) (0 + e221.2.toNat) true fun x224 =>
      .call 12013 (s88 x224.fOpen r223) [] [] fun r225 =>
      .done (!r225))
     (.done false))
    (fun (c226 : Bool) => [.bool c226]) fun c226 =>
    .bind 0
    (.br 0 c226
     (.rowt 13005 tySBindingO6 (e221.1.set (0 + e221.2.toNat) (SBinding.mk x222.fInside x222.fPeer x222.fPort (wi64 (p9 + p4)) x222.fOpen)) (0 + e221.2.toNat) 6 fun x227 =>
      .re 13005 (ReW.take 600087 7 true tySBindingO6 (e221.1.set (0 + e221.2.toNat) (SBinding.mk x222.fInside x222.fPeer x222.fPort (wi64 (p9 + p4)) x222.fOpen)) (0 + e221.2.toNat) [.str x227.fInside.fHost, .int .i64 x227.fInside.fPort, .str x227.fPeer.fHost, .int .i64 x227.fPeer.fPort, .int .i64 x227.fPort, .int .i64 x227.fUntil, .sl false 2 (List.map tySAddr.c x227.fOpen)] rfl 108 2 tySAddr x227.fOpen (fun _ => rfl) (fun n => .ref 108 0 n)) (.app 13008 tySAddr x227.fOpen [r223] 24 false (by intro h; cases h) (.nst 13011 tySBindingO6 (e221.1.set (0 + e221.2.toNat) (SBinding.mk x222.fInside x222.fPeer x222.fPort (wi64 (p9 + p4)) x222.fOpen)) [.str x227.fInside.fHost, .int .i64 x227.fInside.fPort, .str x227.fPeer.fHost, .int .i64 x227.fPeer.fPort, .int .i64 x227.fPort, .int .i64 x227.fUntil, .sl false 2 (List.map tySAddr.c x227.fOpen)] (0 + e221.2.toNat) 6 (SBinding.mk x227.fInside x227.fPeer x227.fPort x227.fUntil (x227.fOpen ++ [r223])) tySAddr (x227.fOpen ++ [r223]) none (.gh 16 (.len 600087 (((e221.1.set (0 + e221.2.toNat) (SBinding.mk x222.fInside x222.fPeer x222.fPort (wi64 (p9 + p4)) x222.fOpen)).set (0 + e221.2.toNat) (SBinding.mk x227.fInside x227.fPeer x227.fPort x227.fUntil (x227.fOpen ++ [r223]))).length) [(e221.1.set (0 + e221.2.toNat) (SBinding.mk x222.fInside x222.fPeer x222.fPort (wi64 (p9 + p4)) x222.fOpen)).length] (by simp)) (.rowg 16 600087 500088 tySBindingO6 ((e221.1.set (0 + e221.2.toNat) (SBinding.mk x222.fInside x222.fPeer x222.fPort (wi64 (p9 + p4)) x222.fOpen)).set (0 + e221.2.toNat) (SBinding.mk x227.fInside x227.fPeer x227.fPort x227.fUntil (x227.fOpen ++ [r223]))) (0 + e221.2.toNat) 6 2 tySAddr (fun x228 => x228.fOpen) (fun _ => rfl) (fun _ => rfl) fun x228 =>
      .hrow 14005 tySBindingO6 ((e221.1.set (0 + e221.2.toNat) (SBinding.mk x222.fInside x222.fPeer x222.fPort (wi64 (p9 + p4)) x222.fOpen)).set (0 + e221.2.toNat) (SBinding.mk x227.fInside x227.fPeer x227.fPort x227.fUntil (x227.fOpen ++ [r223]))) [.str x228.fInside.fHost, .int .i64 x228.fInside.fPort, .str x228.fPeer.fHost, .int .i64 x228.fPeer.fPort, .int .i64 x228.fPort, .int .i64 x228.fUntil, .ref 500088 0 x228.fOpen.length] (0 + e221.2.toNat) (.hrow 14009 tySBindingO6 ((e221.1.set (0 + e221.2.toNat) (SBinding.mk x222.fInside x222.fPeer x222.fPort (wi64 (p9 + p4)) x222.fOpen)).set (0 + e221.2.toNat) (SBinding.mk x227.fInside x227.fPeer x227.fPort x227.fUntil (x227.fOpen ++ [r223]))) [.str x228.fInside.fHost, .int .i64 x228.fInside.fPort, .str x228.fPeer.fHost, .int .i64 x228.fPeer.fPort, .int .i64 x228.fPort, .int .i64 x228.fUntil, .ref 500088 0 x228.fOpen.length] (0 + e221.2.toNat) (.chk 14013 (decide (0 ≤ (if (wi64 ((x228.fOpen.length : Int) - 16)) > (0 : Int) then (wi64 ((x228.fOpen.length : Int) - 16)) else (0 : Int))) && decide ((if (wi64 ((x228.fOpen.length : Int) - 16)) > (0 : Int) then (wi64 ((x228.fOpen.length : Int) - 16)) else (0 : Int)) ≤ (x228.fOpen.length : Int))) (.nst 14016 tySBindingO6 ((e221.1.set (0 + e221.2.toNat) (SBinding.mk x222.fInside x222.fPeer x222.fPort (wi64 (p9 + p4)) x222.fOpen)).set (0 + e221.2.toNat) (SBinding.mk x227.fInside x227.fPeer x227.fPort x227.fUntil (x227.fOpen ++ [r223]))) [.str x228.fInside.fHost, .int .i64 x228.fInside.fPort, .str x228.fPeer.fHost, .int .i64 x228.fPeer.fPort, .int .i64 x228.fPort, .int .i64 x228.fUntil, .ref 500088 0 x228.fOpen.length] (0 + e221.2.toNat) 6 (SBinding.mk x228.fInside x228.fPeer x228.fPort x228.fUntil (x228.fOpen.drop ((if (wi64 ((x228.fOpen.length : Int) - 16)) > (0 : Int) then (wi64 ((x228.fOpen.length : Int) - 16)) else (0 : Int)).toNat))) tySAddr x228.fOpen (some ((if (wi64 ((x228.fOpen.length : Int) - 16)) > (0 : Int) then (wi64 ((x228.fOpen.length : Int) - 16)) else (0 : Int)).toNat)) (.gh 0 (.len 600087 ((((e221.1.set (0 + e221.2.toNat) (SBinding.mk x222.fInside x222.fPeer x222.fPort (wi64 (p9 + p4)) x222.fOpen)).set (0 + e221.2.toNat) (SBinding.mk x227.fInside x227.fPeer x227.fPort x227.fUntil (x227.fOpen ++ [r223]))).set (0 + e221.2.toNat) (SBinding.mk x228.fInside x228.fPeer x228.fPort x228.fUntil (x228.fOpen.drop ((if (wi64 ((x228.fOpen.length : Int) - 16)) > (0 : Int) then (wi64 ((x228.fOpen.length : Int) - 16)) else (0 : Int)).toNat)))).length) [((e221.1.set (0 + e221.2.toNat) (SBinding.mk x222.fInside x222.fPeer x222.fPort (wi64 (p9 + p4)) x222.fOpen)).set (0 + e221.2.toNat) (SBinding.mk x227.fInside x227.fPeer x227.fPort x227.fUntil (x227.fOpen ++ [r223]))).length] (by simp)) (.done (((e221.1.set (0 + e221.2.toNat) (SBinding.mk x222.fInside x222.fPeer x222.fPort (wi64 (p9 + p4)) x222.fOpen)).set (0 + e221.2.toNat) (SBinding.mk x227.fInside x227.fPeer x227.fPort x227.fUntil (x227.fOpen ++ [r223]))).set (0 + e221.2.toNat) (SBinding.mk x228.fInside x228.fPeer x228.fPort x228.fUntil (x228.fOpen.drop ((if (wi64 ((x228.fOpen.length : Int) - 16)) > (0 : Int) then (wi64 ((x228.fOpen.length : Int) - 16)) else (0 : Int)).toNat))))))))))))))
     (.done (e221.1.set (0 + e221.2.toNat) (SBinding.mk x222.fInside x222.fPeer x222.fPort (wi64 (p9 + p4)) x222.fOpen))))
    (fun (e229 : (List SBinding)) => Ext.of .normal [(0, .ptr 1000000 0 0), (6, .ptr 6 0 0), (7, .int .i64 0), (12, .ptr 600087 (0 + e221.2.toNat) 0)] [(6, ⟨2, true, [[.str ByteArray.empty, .int .i64 0]]⟩), (1000000, ⟨9, true, [[.int .i64 p2, .int .i64 p3, .int .i64 p4, .bool p5, .str p6, .int .i64 p7, .int .i64 p8, .int .i64 p9, .ref 600087 0 e229.length]]⟩)] [BT.of 600087 tySBindingO6 7 e229 true] (by rfl))
    (fun e229 =>
     .row 15009 tySBindingO6 e229 (0 + e221.2.toNat) true fun x230 =>
     .gh 0 (.ren 600087 660000) (.done (e229, 0, p6, x230.fPort))) else bif v == 2 then .call 11009 (s147 p1) [] [] fun r231 =>
    .cnd 12 [103]
    (.br 12008 (p3 != 1)
     (.row 12011 tySBindingO6 (e221.1.set (0 + e221.2.toNat) (SBinding.mk x222.fInside x222.fPeer x222.fPort (wi64 (p9 + p4)) x222.fOpen)) (0 + e221.2.toNat) true fun x232 =>
      .call 12013 (s88 x232.fOpen r231) [] [] fun r233 =>
      .done (!r233))
     (.done false))
    (fun (c234 : Bool) => [.bool c234]) fun c234 =>
    .bind 0
    (.br 0 c234
     (.rowt 13005 tySBindingO6 (e221.1.set (0 + e221.2.toNat) (SBinding.mk x222.fInside x222.fPeer x222.fPort (wi64 (p9 + p4)) x222.fOpen)) (0 + e221.2.toNat) 6 fun x235 =>
      .re 13005 (ReW.take 600087 7 true tySBindingO6 (e221.1.set (0 + e221.2.toNat) (SBinding.mk x222.fInside x222.fPeer x222.fPort (wi64 (p9 + p4)) x222.fOpen)) (0 + e221.2.toNat) [.str x235.fInside.fHost, .int .i64 x235.fInside.fPort, .str x235.fPeer.fHost, .int .i64 x235.fPeer.fPort, .int .i64 x235.fPort, .int .i64 x235.fUntil, .sl false 2 (List.map tySAddr.c x235.fOpen)] rfl 108 2 tySAddr x235.fOpen (fun _ => rfl) (fun n => .ref 108 0 n)) (.app 13008 tySAddr x235.fOpen [r231] 24 false (by intro h; cases h) (.nst 13011 tySBindingO6 (e221.1.set (0 + e221.2.toNat) (SBinding.mk x222.fInside x222.fPeer x222.fPort (wi64 (p9 + p4)) x222.fOpen)) [.str x235.fInside.fHost, .int .i64 x235.fInside.fPort, .str x235.fPeer.fHost, .int .i64 x235.fPeer.fPort, .int .i64 x235.fPort, .int .i64 x235.fUntil, .sl false 2 (List.map tySAddr.c x235.fOpen)] (0 + e221.2.toNat) 6 (SBinding.mk x235.fInside x235.fPeer x235.fPort x235.fUntil (x235.fOpen ++ [r231])) tySAddr (x235.fOpen ++ [r231]) none (.gh 16 (.len 600087 (((e221.1.set (0 + e221.2.toNat) (SBinding.mk x222.fInside x222.fPeer x222.fPort (wi64 (p9 + p4)) x222.fOpen)).set (0 + e221.2.toNat) (SBinding.mk x235.fInside x235.fPeer x235.fPort x235.fUntil (x235.fOpen ++ [r231]))).length) [(e221.1.set (0 + e221.2.toNat) (SBinding.mk x222.fInside x222.fPeer x222.fPort (wi64 (p9 + p4)) x222.fOpen)).length] (by simp)) (.rowg 16 600087 500089 tySBindingO6 ((e221.1.set (0 + e221.2.toNat) (SBinding.mk x222.fInside x222.fPeer x222.fPort (wi64 (p9 + p4)) x222.fOpen)).set (0 + e221.2.toNat) (SBinding.mk x235.fInside x235.fPeer x235.fPort x235.fUntil (x235.fOpen ++ [r231]))) (0 + e221.2.toNat) 6 2 tySAddr (fun x236 => x236.fOpen) (fun _ => rfl) (fun _ => rfl) fun x236 =>
      .hrow 14005 tySBindingO6 ((e221.1.set (0 + e221.2.toNat) (SBinding.mk x222.fInside x222.fPeer x222.fPort (wi64 (p9 + p4)) x222.fOpen)).set (0 + e221.2.toNat) (SBinding.mk x235.fInside x235.fPeer x235.fPort x235.fUntil (x235.fOpen ++ [r231]))) [.str x236.fInside.fHost, .int .i64 x236.fInside.fPort, .str x236.fPeer.fHost, .int .i64 x236.fPeer.fPort, .int .i64 x236.fPort, .int .i64 x236.fUntil, .ref 500089 0 x236.fOpen.length] (0 + e221.2.toNat) (.hrow 14009 tySBindingO6 ((e221.1.set (0 + e221.2.toNat) (SBinding.mk x222.fInside x222.fPeer x222.fPort (wi64 (p9 + p4)) x222.fOpen)).set (0 + e221.2.toNat) (SBinding.mk x235.fInside x235.fPeer x235.fPort x235.fUntil (x235.fOpen ++ [r231]))) [.str x236.fInside.fHost, .int .i64 x236.fInside.fPort, .str x236.fPeer.fHost, .int .i64 x236.fPeer.fPort, .int .i64 x236.fPort, .int .i64 x236.fUntil, .ref 500089 0 x236.fOpen.length] (0 + e221.2.toNat) (.chk 14013 (decide (0 ≤ (if (wi64 ((x236.fOpen.length : Int) - 16)) > (0 : Int) then (wi64 ((x236.fOpen.length : Int) - 16)) else (0 : Int))) && decide ((if (wi64 ((x236.fOpen.length : Int) - 16)) > (0 : Int) then (wi64 ((x236.fOpen.length : Int) - 16)) else (0 : Int)) ≤ (x236.fOpen.length : Int))) (.nst 14016 tySBindingO6 ((e221.1.set (0 + e221.2.toNat) (SBinding.mk x222.fInside x222.fPeer x222.fPort (wi64 (p9 + p4)) x222.fOpen)).set (0 + e221.2.toNat) (SBinding.mk x235.fInside x235.fPeer x235.fPort x235.fUntil (x235.fOpen ++ [r231]))) [.str x236.fInside.fHost, .int .i64 x236.fInside.fPort, .str x236.fPeer.fHost, .int .i64 x236.fPeer.fPort, .int .i64 x236.fPort, .int .i64 x236.fUntil, .ref 500089 0 x236.fOpen.length] (0 + e221.2.toNat) 6 (SBinding.mk x236.fInside x236.fPeer x236.fPort x236.fUntil (x236.fOpen.drop ((if (wi64 ((x236.fOpen.length : Int) - 16)) > (0 : Int) then (wi64 ((x236.fOpen.length : Int) - 16)) else (0 : Int)).toNat))) tySAddr x236.fOpen (some ((if (wi64 ((x236.fOpen.length : Int) - 16)) > (0 : Int) then (wi64 ((x236.fOpen.length : Int) - 16)) else (0 : Int)).toNat)) (.gh 0 (.len 600087 ((((e221.1.set (0 + e221.2.toNat) (SBinding.mk x222.fInside x222.fPeer x222.fPort (wi64 (p9 + p4)) x222.fOpen)).set (0 + e221.2.toNat) (SBinding.mk x235.fInside x235.fPeer x235.fPort x235.fUntil (x235.fOpen ++ [r231]))).set (0 + e221.2.toNat) (SBinding.mk x236.fInside x236.fPeer x236.fPort x236.fUntil (x236.fOpen.drop ((if (wi64 ((x236.fOpen.length : Int) - 16)) > (0 : Int) then (wi64 ((x236.fOpen.length : Int) - 16)) else (0 : Int)).toNat)))).length) [((e221.1.set (0 + e221.2.toNat) (SBinding.mk x222.fInside x222.fPeer x222.fPort (wi64 (p9 + p4)) x222.fOpen)).set (0 + e221.2.toNat) (SBinding.mk x235.fInside x235.fPeer x235.fPort x235.fUntil (x235.fOpen ++ [r231]))).length] (by simp)) (.done (((e221.1.set (0 + e221.2.toNat) (SBinding.mk x222.fInside x222.fPeer x222.fPort (wi64 (p9 + p4)) x222.fOpen)).set (0 + e221.2.toNat) (SBinding.mk x235.fInside x235.fPeer x235.fPort x235.fUntil (x235.fOpen ++ [r231]))).set (0 + e221.2.toNat) (SBinding.mk x236.fInside x236.fPeer x236.fPort x236.fUntil (x236.fOpen.drop ((if (wi64 ((x236.fOpen.length : Int) - 16)) > (0 : Int) then (wi64 ((x236.fOpen.length : Int) - 16)) else (0 : Int)).toNat))))))))))))))
     (.done (e221.1.set (0 + e221.2.toNat) (SBinding.mk x222.fInside x222.fPeer x222.fPort (wi64 (p9 + p4)) x222.fOpen))))
    (fun (e237 : (List SBinding)) => Ext.of .normal [(0, .ptr 1000000 0 0), (6, .ptr 6 0 0), (7, .int .i64 0), (12, .ptr 600087 (0 + e221.2.toNat) 0)] [(6, ⟨2, true, [[.str ByteArray.empty, .int .i64 0]]⟩), (1000000, ⟨9, true, [[.int .i64 p2, .int .i64 p3, .int .i64 p4, .bool p5, .str p6, .int .i64 p7, .int .i64 p8, .int .i64 p9, .ref 600087 0 e237.length]]⟩)] [BT.of 600087 tySBindingO6 7 e237 true] (by rfl))
    (fun e237 =>
     .row 15009 tySBindingO6 e237 (0 + e221.2.toNat) true fun x238 =>
     .gh 0 (.ren 600087 660000) (.done (e237, 0, p6, x238.fPort))) else bif v == 3 then .call 11009 (s148 p1) [] [] fun r239 =>
    .cnd 12 [103]
    (.br 12008 (p3 != 1)
     (.row 12011 tySBindingO6 (e221.1.set (0 + e221.2.toNat) (SBinding.mk x222.fInside x222.fPeer x222.fPort (wi64 (p9 + p4)) x222.fOpen)) (0 + e221.2.toNat) true fun x240 =>
      .call 12013 (s88 x240.fOpen r239) [] [] fun r241 =>
      .done (!r241))
     (.done false))
    (fun (c242 : Bool) => [.bool c242]) fun c242 =>
    .bind 0
    (.br 0 c242
     (.rowt 13005 tySBindingO6 (e221.1.set (0 + e221.2.toNat) (SBinding.mk x222.fInside x222.fPeer x222.fPort (wi64 (p9 + p4)) x222.fOpen)) (0 + e221.2.toNat) 6 fun x243 =>
      .re 13005 (ReW.take 600087 7 true tySBindingO6 (e221.1.set (0 + e221.2.toNat) (SBinding.mk x222.fInside x222.fPeer x222.fPort (wi64 (p9 + p4)) x222.fOpen)) (0 + e221.2.toNat) [.str x243.fInside.fHost, .int .i64 x243.fInside.fPort, .str x243.fPeer.fHost, .int .i64 x243.fPeer.fPort, .int .i64 x243.fPort, .int .i64 x243.fUntil, .sl false 2 (List.map tySAddr.c x243.fOpen)] rfl 108 2 tySAddr x243.fOpen (fun _ => rfl) (fun n => .ref 108 0 n)) (.app 13008 tySAddr x243.fOpen [r239] 24 false (by intro h; cases h) (.nst 13011 tySBindingO6 (e221.1.set (0 + e221.2.toNat) (SBinding.mk x222.fInside x222.fPeer x222.fPort (wi64 (p9 + p4)) x222.fOpen)) [.str x243.fInside.fHost, .int .i64 x243.fInside.fPort, .str x243.fPeer.fHost, .int .i64 x243.fPeer.fPort, .int .i64 x243.fPort, .int .i64 x243.fUntil, .sl false 2 (List.map tySAddr.c x243.fOpen)] (0 + e221.2.toNat) 6 (SBinding.mk x243.fInside x243.fPeer x243.fPort x243.fUntil (x243.fOpen ++ [r239])) tySAddr (x243.fOpen ++ [r239]) none (.gh 16 (.len 600087 (((e221.1.set (0 + e221.2.toNat) (SBinding.mk x222.fInside x222.fPeer x222.fPort (wi64 (p9 + p4)) x222.fOpen)).set (0 + e221.2.toNat) (SBinding.mk x243.fInside x243.fPeer x243.fPort x243.fUntil (x243.fOpen ++ [r239]))).length) [(e221.1.set (0 + e221.2.toNat) (SBinding.mk x222.fInside x222.fPeer x222.fPort (wi64 (p9 + p4)) x222.fOpen)).length] (by simp)) (.rowg 16 600087 500090 tySBindingO6 ((e221.1.set (0 + e221.2.toNat) (SBinding.mk x222.fInside x222.fPeer x222.fPort (wi64 (p9 + p4)) x222.fOpen)).set (0 + e221.2.toNat) (SBinding.mk x243.fInside x243.fPeer x243.fPort x243.fUntil (x243.fOpen ++ [r239]))) (0 + e221.2.toNat) 6 2 tySAddr (fun x244 => x244.fOpen) (fun _ => rfl) (fun _ => rfl) fun x244 =>
      .hrow 14005 tySBindingO6 ((e221.1.set (0 + e221.2.toNat) (SBinding.mk x222.fInside x222.fPeer x222.fPort (wi64 (p9 + p4)) x222.fOpen)).set (0 + e221.2.toNat) (SBinding.mk x243.fInside x243.fPeer x243.fPort x243.fUntil (x243.fOpen ++ [r239]))) [.str x244.fInside.fHost, .int .i64 x244.fInside.fPort, .str x244.fPeer.fHost, .int .i64 x244.fPeer.fPort, .int .i64 x244.fPort, .int .i64 x244.fUntil, .ref 500090 0 x244.fOpen.length] (0 + e221.2.toNat) (.hrow 14009 tySBindingO6 ((e221.1.set (0 + e221.2.toNat) (SBinding.mk x222.fInside x222.fPeer x222.fPort (wi64 (p9 + p4)) x222.fOpen)).set (0 + e221.2.toNat) (SBinding.mk x243.fInside x243.fPeer x243.fPort x243.fUntil (x243.fOpen ++ [r239]))) [.str x244.fInside.fHost, .int .i64 x244.fInside.fPort, .str x244.fPeer.fHost, .int .i64 x244.fPeer.fPort, .int .i64 x244.fPort, .int .i64 x244.fUntil, .ref 500090 0 x244.fOpen.length] (0 + e221.2.toNat) (.chk 14013 (decide (0 ≤ (if (wi64 ((x244.fOpen.length : Int) - 16)) > (0 : Int) then (wi64 ((x244.fOpen.length : Int) - 16)) else (0 : Int))) && decide ((if (wi64 ((x244.fOpen.length : Int) - 16)) > (0 : Int) then (wi64 ((x244.fOpen.length : Int) - 16)) else (0 : Int)) ≤ (x244.fOpen.length : Int))) (.nst 14016 tySBindingO6 ((e221.1.set (0 + e221.2.toNat) (SBinding.mk x222.fInside x222.fPeer x222.fPort (wi64 (p9 + p4)) x222.fOpen)).set (0 + e221.2.toNat) (SBinding.mk x243.fInside x243.fPeer x243.fPort x243.fUntil (x243.fOpen ++ [r239]))) [.str x244.fInside.fHost, .int .i64 x244.fInside.fPort, .str x244.fPeer.fHost, .int .i64 x244.fPeer.fPort, .int .i64 x244.fPort, .int .i64 x244.fUntil, .ref 500090 0 x244.fOpen.length] (0 + e221.2.toNat) 6 (SBinding.mk x244.fInside x244.fPeer x244.fPort x244.fUntil (x244.fOpen.drop ((if (wi64 ((x244.fOpen.length : Int) - 16)) > (0 : Int) then (wi64 ((x244.fOpen.length : Int) - 16)) else (0 : Int)).toNat))) tySAddr x244.fOpen (some ((if (wi64 ((x244.fOpen.length : Int) - 16)) > (0 : Int) then (wi64 ((x244.fOpen.length : Int) - 16)) else (0 : Int)).toNat)) (.gh 0 (.len 600087 ((((e221.1.set (0 + e221.2.toNat) (SBinding.mk x222.fInside x222.fPeer x222.fPort (wi64 (p9 + p4)) x222.fOpen)).set (0 + e221.2.toNat) (SBinding.mk x243.fInside x243.fPeer x243.fPort x243.fUntil (x243.fOpen ++ [r239]))).set (0 + e221.2.toNat) (SBinding.mk x244.fInside x244.fPeer x244.fPort x244.fUntil (x244.fOpen.drop ((if (wi64 ((x244.fOpen.length : Int) - 16)) > (0 : Int) then (wi64 ((x244.fOpen.length : Int) - 16)) else (0 : Int)).toNat)))).length) [((e221.1.set (0 + e221.2.toNat) (SBinding.mk x222.fInside x222.fPeer x222.fPort (wi64 (p9 + p4)) x222.fOpen)).set (0 + e221.2.toNat) (SBinding.mk x243.fInside x243.fPeer x243.fPort x243.fUntil (x243.fOpen ++ [r239]))).length] (by simp)) (.done (((e221.1.set (0 + e221.2.toNat) (SBinding.mk x222.fInside x222.fPeer x222.fPort (wi64 (p9 + p4)) x222.fOpen)).set (0 + e221.2.toNat) (SBinding.mk x243.fInside x243.fPeer x243.fPort x243.fUntil (x243.fOpen ++ [r239]))).set (0 + e221.2.toNat) (SBinding.mk x244.fInside x244.fPeer x244.fPort x244.fUntil (x244.fOpen.drop ((if (wi64 ((x244.fOpen.length : Int) - 16)) > (0 : Int) then (wi64 ((x244.fOpen.length : Int) - 16)) else (0 : Int)).toNat))))))))))))))
     (.done (e221.1.set (0 + e221.2.toNat) (SBinding.mk x222.fInside x222.fPeer x222.fPort (wi64 (p9 + p4)) x222.fOpen))))
    (fun (e245 : (List SBinding)) => Ext.of .normal [(0, .ptr 1000000 0 0), (6, .ptr 6 0 0), (7, .int .i64 0), (12, .ptr 600087 (0 + e221.2.toNat) 0)] [(6, ⟨2, true, [[.str ByteArray.empty, .int .i64 0]]⟩), (1000000, ⟨9, true, [[.int .i64 p2, .int .i64 p3, .int .i64 p4, .bool p5, .str p6, .int .i64 p7, .int .i64 p8, .int .i64 p9, .ref 600087 0 e245.length]]⟩)] [BT.of 600087 tySBindingO6 7 e245 true] (by rfl))
    (fun e245 =>
     .row 15009 tySBindingO6 e245 (0 + e221.2.toNat) true fun x246 =>
     .gh 0 (.ren 600087 660000) (.done (e245, 0, p6, x246.fPort))) else .fail))))) else bif v == 3 then .call 1009 (s148 p1) [] [] fun r247 =>
  .view 2003 (s85 (SRouter.mk (SNat.mk p2 p3 p4 p5 p6 p7 p8 p9 p10)) p0 r247) [(VwW.of 1000001 tySBindingO6 p10)] fun r248 =>
  .bind2 0
  (.br 0 (decide (r248 < 0))
   (.view 4004 (s87 (SRouter.mk (SNat.mk p2 p3 p4 p5 p6 p7 p8 p9 p10)) p0.fPort) [(VwW.of 1000001 tySBindingO6 p10)] fun r249 =>
    .br 0 (!r249.isSome)
    (.done (.inl ()))
    (.app 8012 tySBindingO6 p10 [(SBinding.mk p0 r247 (r249.getD 0) 0 [])] 88 false (by intro h; cases h) (.gh 0 (.ren 55 600091) (.done (.inr ((p10 ++ [(SBinding.mk p0 r247 (r249.getD 0) 0 [])]), (p10.length : Int)))))))
   (.gh 0 (.ren 1000001 600091) (.done (.inr (p10, r248)))))
  (fun (e250 : Unit) => Ext.of .ret [(0, .ptr 1000000 0 0), (5, .ptr 5 0 0), (6, .ptr 6 0 0), (7, .int .i64 4), (9, .int .i64 r248)] [(5, ⟨2, true, [[.str p1.fHost, .int .i64 p1.fPort]]⟩), (6, ⟨2, true, [[.str ByteArray.empty, .int .i64 0]]⟩), (1000000, ⟨9, true, [[.int .i64 p2, .int .i64 p3, .int .i64 p4, .bool p5, .str p6, .int .i64 p7, .int .i64 p8, .int .i64 p9, .ref 1000001 0 p10.length]]⟩)] [BT.of 1000001 tySBindingO6 7 p10 true] (by rfl))
  (fun (e251 : (List SBinding) × Int) => Ext.of .normal [(0, .ptr 1000000 0 0), (5, .ptr 5 0 0), (6, .ptr 6 0 0), (7, .int .i64 0), (9, .int .i64 e251.2)] [(5, ⟨2, true, [[.str p1.fHost, .int .i64 p1.fPort]]⟩), (6, ⟨2, true, [[.str ByteArray.empty, .int .i64 0]]⟩), (1000000, ⟨9, true, [[.int .i64 p2, .int .i64 p3, .int .i64 p4, .bool p5, .str p6, .int .i64 p7, .int .i64 p8, .int .i64 p9, .ref 600091 0 e251.1.length]]⟩)] [BT.of 600091 tySBindingO6 7 e251.1 true] (by rfl))
  (fun e250 =>
   .gh 0 (.ren 1000001 660000) (.done (p10, 4, ByteArray.empty, 0)))
  (fun e251 =>
   .chk 9007 (decide (0 ≤ e251.2) && decide (e251.2 < (e251.1.length : Int))) (.row 10015 tySBindingO6 e251.1 (0 + e251.2.toNat) true fun x252 =>
   .re 10015 (ReW.put 600091 7 tySBindingO6 e251.1 (0 + e251.2.toNat) (SBinding.mk x252.fInside x252.fPeer x252.fPort (wi64 (p9 + p4)) x252.fOpen)) (.gh 13 (.len 600091 ((e251.1.set (0 + e251.2.toNat) (SBinding.mk x252.fInside x252.fPeer x252.fPort (wi64 (p9 + p4)) x252.fOpen)).length) [e251.1.length] (by simp)) (.ceq 11006 p3 [0, 1, 2, 3] (fun v => bif v == 0 then .fail else bif v == 1 then .call 11009 (s146 p1) [] [] fun r253 =>
    .cnd 12 [103]
    (.br 12008 (p3 != 1)
     (.row 12011 tySBindingO6 (e251.1.set (0 + e251.2.toNat) (SBinding.mk x252.fInside x252.fPeer x252.fPort (wi64 (p9 + p4)) x252.fOpen)) (0 + e251.2.toNat) true fun x254 =>
      .call 12013 (s88 x254.fOpen r253) [] [] fun r255 =>
      .done (!r255))
     (.done false))
    (fun (c256 : Bool) => [.bool c256]) fun c256 =>
    .bind 0
    (.br 0 c256
     (.rowt 13005 tySBindingO6 (e251.1.set (0 + e251.2.toNat) (SBinding.mk x252.fInside x252.fPeer x252.fPort (wi64 (p9 + p4)) x252.fOpen)) (0 + e251.2.toNat) 6 fun x257 =>
      .re 13005 (ReW.take 600091 7 true tySBindingO6 (e251.1.set (0 + e251.2.toNat) (SBinding.mk x252.fInside x252.fPeer x252.fPort (wi64 (p9 + p4)) x252.fOpen)) (0 + e251.2.toNat) [.str x257.fInside.fHost, .int .i64 x257.fInside.fPort, .str x257.fPeer.fHost, .int .i64 x257.fPeer.fPort, .int .i64 x257.fPort, .int .i64 x257.fUntil, .sl false 2 (List.map tySAddr.c x257.fOpen)] rfl 108 2 tySAddr x257.fOpen (fun _ => rfl) (fun n => .ref 108 0 n)) (.app 13008 tySAddr x257.fOpen [r253] 24 false (by intro h; cases h) (.nst 13011 tySBindingO6 (e251.1.set (0 + e251.2.toNat) (SBinding.mk x252.fInside x252.fPeer x252.fPort (wi64 (p9 + p4)) x252.fOpen)) [.str x257.fInside.fHost, .int .i64 x257.fInside.fPort, .str x257.fPeer.fHost, .int .i64 x257.fPeer.fPort, .int .i64 x257.fPort, .int .i64 x257.fUntil, .sl false 2 (List.map tySAddr.c x257.fOpen)] (0 + e251.2.toNat) 6 (SBinding.mk x257.fInside x257.fPeer x257.fPort x257.fUntil (x257.fOpen ++ [r253])) tySAddr (x257.fOpen ++ [r253]) none (.gh 16 (.len 600091 (((e251.1.set (0 + e251.2.toNat) (SBinding.mk x252.fInside x252.fPeer x252.fPort (wi64 (p9 + p4)) x252.fOpen)).set (0 + e251.2.toNat) (SBinding.mk x257.fInside x257.fPeer x257.fPort x257.fUntil (x257.fOpen ++ [r253]))).length) [(e251.1.set (0 + e251.2.toNat) (SBinding.mk x252.fInside x252.fPeer x252.fPort (wi64 (p9 + p4)) x252.fOpen)).length] (by simp)) (.rowg 16 600091 500092 tySBindingO6 ((e251.1.set (0 + e251.2.toNat) (SBinding.mk x252.fInside x252.fPeer x252.fPort (wi64 (p9 + p4)) x252.fOpen)).set (0 + e251.2.toNat) (SBinding.mk x257.fInside x257.fPeer x257.fPort x257.fUntil (x257.fOpen ++ [r253]))) (0 + e251.2.toNat) 6 2 tySAddr (fun x258 => x258.fOpen) (fun _ => rfl) (fun _ => rfl) fun x258 =>
      .hrow 14005 tySBindingO6 ((e251.1.set (0 + e251.2.toNat) (SBinding.mk x252.fInside x252.fPeer x252.fPort (wi64 (p9 + p4)) x252.fOpen)).set (0 + e251.2.toNat) (SBinding.mk x257.fInside x257.fPeer x257.fPort x257.fUntil (x257.fOpen ++ [r253]))) [.str x258.fInside.fHost, .int .i64 x258.fInside.fPort, .str x258.fPeer.fHost, .int .i64 x258.fPeer.fPort, .int .i64 x258.fPort, .int .i64 x258.fUntil, .ref 500092 0 x258.fOpen.length] (0 + e251.2.toNat) (.hrow 14009 tySBindingO6 ((e251.1.set (0 + e251.2.toNat) (SBinding.mk x252.fInside x252.fPeer x252.fPort (wi64 (p9 + p4)) x252.fOpen)).set (0 + e251.2.toNat) (SBinding.mk x257.fInside x257.fPeer x257.fPort x257.fUntil (x257.fOpen ++ [r253]))) [.str x258.fInside.fHost, .int .i64 x258.fInside.fPort, .str x258.fPeer.fHost, .int .i64 x258.fPeer.fPort, .int .i64 x258.fPort, .int .i64 x258.fUntil, .ref 500092 0 x258.fOpen.length] (0 + e251.2.toNat) (.chk 14013 (decide (0 ≤ (if (wi64 ((x258.fOpen.length : Int) - 16)) > (0 : Int) then (wi64 ((x258.fOpen.length : Int) - 16)) else (0 : Int))) && decide ((if (wi64 ((x258.fOpen.length : Int) - 16)) > (0 : Int) then (wi64 ((x258.fOpen.length : Int) - 16)) else (0 : Int)) ≤ (x258.fOpen.length : Int))) (.nst 14016 tySBindingO6 ((e251.1.set (0 + e251.2.toNat) (SBinding.mk x252.fInside x252.fPeer x252.fPort (wi64 (p9 + p4)) x252.fOpen)).set (0 + e251.2.toNat) (SBinding.mk x257.fInside x257.fPeer x257.fPort x257.fUntil (x257.fOpen ++ [r253]))) [.str x258.fInside.fHost, .int .i64 x258.fInside.fPort, .str x258.fPeer.fHost, .int .i64 x258.fPeer.fPort, .int .i64 x258.fPort, .int .i64 x258.fUntil, .ref 500092 0 x258.fOpen.length] (0 + e251.2.toNat) 6 (SBinding.mk x258.fInside x258.fPeer x258.fPort x258.fUntil (x258.fOpen.drop ((if (wi64 ((x258.fOpen.length : Int) - 16)) > (0 : Int) then (wi64 ((x258.fOpen.length : Int) - 16)) else (0 : Int)).toNat))) tySAddr x258.fOpen (some ((if (wi64 ((x258.fOpen.length : Int) - 16)) > (0 : Int) then (wi64 ((x258.fOpen.length : Int) - 16)) else (0 : Int)).toNat)) (.gh 0 (.len 600091 ((((e251.1.set (0 + e251.2.toNat) (SBinding.mk x252.fInside x252.fPeer x252.fPort (wi64 (p9 + p4)) x252.fOpen)).set (0 + e251.2.toNat) (SBinding.mk x257.fInside x257.fPeer x257.fPort x257.fUntil (x257.fOpen ++ [r253]))).set (0 + e251.2.toNat) (SBinding.mk x258.fInside x258.fPeer x258.fPort x258.fUntil (x258.fOpen.drop ((if (wi64 ((x258.fOpen.length : Int) - 16)) > (0 : Int) then (wi64 ((x258.fOpen.length : Int) - 16)) else (0 : Int)).toNat)))).length) [((e251.1.set (0 + e251.2.toNat) (SBinding.mk x252.fInside x252.fPeer x252.fPort (wi64 (p9 + p4)) x252.fOpen)).set (0 + e251.2.toNat) (SBinding.mk x257.fInside x257.fPeer x257.fPort x257.fUntil (x257.fOpen ++ [r253]))).length] (by simp)) (.done (((e251.1.set (0 + e251.2.toNat) (SBinding.mk x252.fInside x252.fPeer x252.fPort (wi64 (p9 + p4)) x252.fOpen)).set (0 + e251.2.toNat) (SBinding.mk x257.fInside x257.fPeer x257.fPort x257.fUntil (x257.fOpen ++ [r253]))).set (0 + e251.2.toNat) (SBinding.mk x258.fInside x258.fPeer x258.fPort x258.fUntil (x258.fOpen.drop ((if (wi64 ((x258.fOpen.length : Int) - 16)) > (0 : Int) then (wi64 ((x258.fOpen.length : Int) - 16)) else (0 : Int)).toNat))))))))))))))
     (.done (e251.1.set (0 + e251.2.toNat) (SBinding.mk x252.fInside x252.fPeer x252.fPort (wi64 (p9 + p4)) x252.fOpen))))
    (fun (e259 : (List SBinding)) => Ext.of .normal [(0, .ptr 1000000 0 0), (6, .ptr 6 0 0), (7, .int .i64 0), (12, .ptr 600091 (0 + e251.2.toNat) 0)] [(6, ⟨2, true, [[.str ByteArray.empty, .int .i64 0]]⟩), (1000000, ⟨9, true, [[.int .i64 p2, .int .i64 p3, .int .i64 p4, .bool p5, .str p6, .int .i64 p7, .int .i64 p8, .int .i64 p9, .ref 600091 0 e259.length]]⟩)] [BT.of 600091 tySBindingO6 7 e259 true] (by rfl))
    (fun e259 =>
     .row 15009 tySBindingO6 e259 (0 + e251.2.toNat) true fun x260 =>
     .gh 0 (.ren 600091 660000) (.done (e259, 0, p6, x260.fPort))) else bif v == 2 then .call 11009 (s147 p1) [] [] fun r261 =>
    .cnd 12 [103]
    (.br 12008 (p3 != 1)
     (.row 12011 tySBindingO6 (e251.1.set (0 + e251.2.toNat) (SBinding.mk x252.fInside x252.fPeer x252.fPort (wi64 (p9 + p4)) x252.fOpen)) (0 + e251.2.toNat) true fun x262 =>
      .call 12013 (s88 x262.fOpen r261) [] [] fun r263 =>
      .done (!r263))
     (.done false))
    (fun (c264 : Bool) => [.bool c264]) fun c264 =>
    .bind 0
    (.br 0 c264
     (.rowt 13005 tySBindingO6 (e251.1.set (0 + e251.2.toNat) (SBinding.mk x252.fInside x252.fPeer x252.fPort (wi64 (p9 + p4)) x252.fOpen)) (0 + e251.2.toNat) 6 fun x265 =>
      .re 13005 (ReW.take 600091 7 true tySBindingO6 (e251.1.set (0 + e251.2.toNat) (SBinding.mk x252.fInside x252.fPeer x252.fPort (wi64 (p9 + p4)) x252.fOpen)) (0 + e251.2.toNat) [.str x265.fInside.fHost, .int .i64 x265.fInside.fPort, .str x265.fPeer.fHost, .int .i64 x265.fPeer.fPort, .int .i64 x265.fPort, .int .i64 x265.fUntil, .sl false 2 (List.map tySAddr.c x265.fOpen)] rfl 108 2 tySAddr x265.fOpen (fun _ => rfl) (fun n => .ref 108 0 n)) (.app 13008 tySAddr x265.fOpen [r261] 24 false (by intro h; cases h) (.nst 13011 tySBindingO6 (e251.1.set (0 + e251.2.toNat) (SBinding.mk x252.fInside x252.fPeer x252.fPort (wi64 (p9 + p4)) x252.fOpen)) [.str x265.fInside.fHost, .int .i64 x265.fInside.fPort, .str x265.fPeer.fHost, .int .i64 x265.fPeer.fPort, .int .i64 x265.fPort, .int .i64 x265.fUntil, .sl false 2 (List.map tySAddr.c x265.fOpen)] (0 + e251.2.toNat) 6 (SBinding.mk x265.fInside x265.fPeer x265.fPort x265.fUntil (x265.fOpen ++ [r261])) tySAddr (x265.fOpen ++ [r261]) none (.gh 16 (.len 600091 (((e251.1.set (0 + e251.2.toNat) (SBinding.mk x252.fInside x252.fPeer x252.fPort (wi64 (p9 + p4)) x252.fOpen)).set (0 + e251.2.toNat) (SBinding.mk x265.fInside x265.fPeer x265.fPort x265.fUntil (x265.fOpen ++ [r261]))).length) [(e251.1.set (0 + e251.2.toNat) (SBinding.mk x252.fInside x252.fPeer x252.fPort (wi64 (p9 + p4)) x252.fOpen)).length] (by simp)) (.rowg 16 600091 500093 tySBindingO6 ((e251.1.set (0 + e251.2.toNat) (SBinding.mk x252.fInside x252.fPeer x252.fPort (wi64 (p9 + p4)) x252.fOpen)).set (0 + e251.2.toNat) (SBinding.mk x265.fInside x265.fPeer x265.fPort x265.fUntil (x265.fOpen ++ [r261]))) (0 + e251.2.toNat) 6 2 tySAddr (fun x266 => x266.fOpen) (fun _ => rfl) (fun _ => rfl) fun x266 =>
      .hrow 14005 tySBindingO6 ((e251.1.set (0 + e251.2.toNat) (SBinding.mk x252.fInside x252.fPeer x252.fPort (wi64 (p9 + p4)) x252.fOpen)).set (0 + e251.2.toNat) (SBinding.mk x265.fInside x265.fPeer x265.fPort x265.fUntil (x265.fOpen ++ [r261]))) [.str x266.fInside.fHost, .int .i64 x266.fInside.fPort, .str x266.fPeer.fHost, .int .i64 x266.fPeer.fPort, .int .i64 x266.fPort, .int .i64 x266.fUntil, .ref 500093 0 x266.fOpen.length] (0 + e251.2.toNat) (.hrow 14009 tySBindingO6 ((e251.1.set (0 + e251.2.toNat) (SBinding.mk x252.fInside x252.fPeer x252.fPort (wi64 (p9 + p4)) x252.fOpen)).set (0 + e251.2.toNat) (SBinding.mk x265.fInside x265.fPeer x265.fPort x265.fUntil (x265.fOpen ++ [r261]))) [.str x266.fInside.fHost, .int .i64 x266.fInside.fPort, .str x266.fPeer.fHost, .int .i64 x266.fPeer.fPort, .int .i64 x266.fPort, .int .i64 x266.fUntil, .ref 500093 0 x266.fOpen.length] (0 + e251.2.toNat) (.chk 14013 (decide (0 ≤ (if (wi64 ((x266.fOpen.length : Int) - 16)) > (0 : Int) then (wi64 ((x266.fOpen.length : Int) - 16)) else (0 : Int))) && decide ((if (wi64 ((x266.fOpen.length : Int) - 16)) > (0 : Int) then (wi64 ((x266.fOpen.length : Int) - 16)) else (0 : Int)) ≤ (x266.fOpen.length : Int))) (.nst 14016 tySBindingO6 ((e251.1.set (0 + e251.2.toNat) (SBinding.mk x252.fInside x252.fPeer x252.fPort (wi64 (p9 + p4)) x252.fOpen)).set (0 + e251.2.toNat) (SBinding.mk x265.fInside x265.fPeer x265.fPort x265.fUntil (x265.fOpen ++ [r261]))) [.str x266.fInside.fHost, .int .i64 x266.fInside.fPort, .str x266.fPeer.fHost, .int .i64 x266.fPeer.fPort, .int .i64 x266.fPort, .int .i64 x266.fUntil, .ref 500093 0 x266.fOpen.length] (0 + e251.2.toNat) 6 (SBinding.mk x266.fInside x266.fPeer x266.fPort x266.fUntil (x266.fOpen.drop ((if (wi64 ((x266.fOpen.length : Int) - 16)) > (0 : Int) then (wi64 ((x266.fOpen.length : Int) - 16)) else (0 : Int)).toNat))) tySAddr x266.fOpen (some ((if (wi64 ((x266.fOpen.length : Int) - 16)) > (0 : Int) then (wi64 ((x266.fOpen.length : Int) - 16)) else (0 : Int)).toNat)) (.gh 0 (.len 600091 ((((e251.1.set (0 + e251.2.toNat) (SBinding.mk x252.fInside x252.fPeer x252.fPort (wi64 (p9 + p4)) x252.fOpen)).set (0 + e251.2.toNat) (SBinding.mk x265.fInside x265.fPeer x265.fPort x265.fUntil (x265.fOpen ++ [r261]))).set (0 + e251.2.toNat) (SBinding.mk x266.fInside x266.fPeer x266.fPort x266.fUntil (x266.fOpen.drop ((if (wi64 ((x266.fOpen.length : Int) - 16)) > (0 : Int) then (wi64 ((x266.fOpen.length : Int) - 16)) else (0 : Int)).toNat)))).length) [((e251.1.set (0 + e251.2.toNat) (SBinding.mk x252.fInside x252.fPeer x252.fPort (wi64 (p9 + p4)) x252.fOpen)).set (0 + e251.2.toNat) (SBinding.mk x265.fInside x265.fPeer x265.fPort x265.fUntil (x265.fOpen ++ [r261]))).length] (by simp)) (.done (((e251.1.set (0 + e251.2.toNat) (SBinding.mk x252.fInside x252.fPeer x252.fPort (wi64 (p9 + p4)) x252.fOpen)).set (0 + e251.2.toNat) (SBinding.mk x265.fInside x265.fPeer x265.fPort x265.fUntil (x265.fOpen ++ [r261]))).set (0 + e251.2.toNat) (SBinding.mk x266.fInside x266.fPeer x266.fPort x266.fUntil (x266.fOpen.drop ((if (wi64 ((x266.fOpen.length : Int) - 16)) > (0 : Int) then (wi64 ((x266.fOpen.length : Int) - 16)) else (0 : Int)).toNat))))))))))))))
     (.done (e251.1.set (0 + e251.2.toNat) (SBinding.mk x252.fInside x252.fPeer x252.fPort (wi64 (p9 + p4)) x252.fOpen))))
    (fun (e267 : (List SBinding)) => Ext.of .normal [(0, .ptr 1000000 0 0), (6, .ptr 6 0 0), (7, .int .i64 0), (12, .ptr 600091 (0 + e251.2.toNat) 0)] [(6, ⟨2, true, [[.str ByteArray.empty, .int .i64 0]]⟩), (1000000, ⟨9, true, [[.int .i64 p2, .int .i64 p3, .int .i64 p4, .bool p5, .str p6, .int .i64 p7, .int .i64 p8, .int .i64 p9, .ref 600091 0 e267.length]]⟩)] [BT.of 600091 tySBindingO6 7 e267 true] (by rfl))
    (fun e267 =>
     .row 15009 tySBindingO6 e267 (0 + e251.2.toNat) true fun x268 =>
     .gh 0 (.ren 600091 660000) (.done (e267, 0, p6, x268.fPort))) else bif v == 3 then .call 11009 (s148 p1) [] [] fun r269 =>
    .cnd 12 [103]
    (.br 12008 (p3 != 1)
     (.row 12011 tySBindingO6 (e251.1.set (0 + e251.2.toNat) (SBinding.mk x252.fInside x252.fPeer x252.fPort (wi64 (p9 + p4)) x252.fOpen)) (0 + e251.2.toNat) true fun x270 =>
      .call 12013 (s88 x270.fOpen r269) [] [] fun r271 =>
      .done (!r271))
     (.done false))
    (fun (c272 : Bool) => [.bool c272]) fun c272 =>
    .bind 0
    (.br 0 c272
     (.rowt 13005 tySBindingO6 (e251.1.set (0 + e251.2.toNat) (SBinding.mk x252.fInside x252.fPeer x252.fPort (wi64 (p9 + p4)) x252.fOpen)) (0 + e251.2.toNat) 6 fun x273 =>
      .re 13005 (ReW.take 600091 7 true tySBindingO6 (e251.1.set (0 + e251.2.toNat) (SBinding.mk x252.fInside x252.fPeer x252.fPort (wi64 (p9 + p4)) x252.fOpen)) (0 + e251.2.toNat) [.str x273.fInside.fHost, .int .i64 x273.fInside.fPort, .str x273.fPeer.fHost, .int .i64 x273.fPeer.fPort, .int .i64 x273.fPort, .int .i64 x273.fUntil, .sl false 2 (List.map tySAddr.c x273.fOpen)] rfl 108 2 tySAddr x273.fOpen (fun _ => rfl) (fun n => .ref 108 0 n)) (.app 13008 tySAddr x273.fOpen [r269] 24 false (by intro h; cases h) (.nst 13011 tySBindingO6 (e251.1.set (0 + e251.2.toNat) (SBinding.mk x252.fInside x252.fPeer x252.fPort (wi64 (p9 + p4)) x252.fOpen)) [.str x273.fInside.fHost, .int .i64 x273.fInside.fPort, .str x273.fPeer.fHost, .int .i64 x273.fPeer.fPort, .int .i64 x273.fPort, .int .i64 x273.fUntil, .sl false 2 (List.map tySAddr.c x273.fOpen)] (0 + e251.2.toNat) 6 (SBinding.mk x273.fInside x273.fPeer x273.fPort x273.fUntil (x273.fOpen ++ [r269])) tySAddr (x273.fOpen ++ [r269]) none (.gh 16 (.len 600091 (((e251.1.set (0 + e251.2.toNat) (SBinding.mk x252.fInside x252.fPeer x252.fPort (wi64 (p9 + p4)) x252.fOpen)).set (0 + e251.2.toNat) (SBinding.mk x273.fInside x273.fPeer x273.fPort x273.fUntil (x273.fOpen ++ [r269]))).length) [(e251.1.set (0 + e251.2.toNat) (SBinding.mk x252.fInside x252.fPeer x252.fPort (wi64 (p9 + p4)) x252.fOpen)).length] (by simp)) (.rowg 16 600091 500094 tySBindingO6 ((e251.1.set (0 + e251.2.toNat) (SBinding.mk x252.fInside x252.fPeer x252.fPort (wi64 (p9 + p4)) x252.fOpen)).set (0 + e251.2.toNat) (SBinding.mk x273.fInside x273.fPeer x273.fPort x273.fUntil (x273.fOpen ++ [r269]))) (0 + e251.2.toNat) 6 2 tySAddr (fun x274 => x274.fOpen) (fun _ => rfl) (fun _ => rfl) fun x274 =>
      .hrow 14005 tySBindingO6 ((e251.1.set (0 + e251.2.toNat) (SBinding.mk x252.fInside x252.fPeer x252.fPort (wi64 (p9 + p4)) x252.fOpen)).set (0 + e251.2.toNat) (SBinding.mk x273.fInside x273.fPeer x273.fPort x273.fUntil (x273.fOpen ++ [r269]))) [.str x274.fInside.fHost, .int .i64 x274.fInside.fPort, .str x274.fPeer.fHost, .int .i64 x274.fPeer.fPort, .int .i64 x274.fPort, .int .i64 x274.fUntil, .ref 500094 0 x274.fOpen.length] (0 + e251.2.toNat) (.hrow 14009 tySBindingO6 ((e251.1.set (0 + e251.2.toNat) (SBinding.mk x252.fInside x252.fPeer x252.fPort (wi64 (p9 + p4)) x252.fOpen)).set (0 + e251.2.toNat) (SBinding.mk x273.fInside x273.fPeer x273.fPort x273.fUntil (x273.fOpen ++ [r269]))) [.str x274.fInside.fHost, .int .i64 x274.fInside.fPort, .str x274.fPeer.fHost, .int .i64 x274.fPeer.fPort, .int .i64 x274.fPort, .int .i64 x274.fUntil, .ref 500094 0 x274.fOpen.length] (0 + e251.2.toNat) (.chk 14013 (decide (0 ≤ (if (wi64 ((x274.fOpen.length : Int) - 16)) > (0 : Int) then (wi64 ((x274.fOpen.length : Int) - 16)) else (0 : Int))) && decide ((if (wi64 ((x274.fOpen.length : Int) - 16)) > (0 : Int) then (wi64 ((x274.fOpen.length : Int) - 16)) else (0 : Int)) ≤ (x274.fOpen.length : Int))) (.nst 14016 tySBindingO6 ((e251.1.set (0 + e251.2.toNat) (SBinding.mk x252.fInside x252.fPeer x252.fPort (wi64 (p9 + p4)) x252.fOpen)).set (0 + e251.2.toNat) (SBinding.mk x273.fInside x273.fPeer x273.fPort x273.fUntil (x273.fOpen ++ [r269]))) [.str x274.fInside.fHost, .int .i64 x274.fInside.fPort, .str x274.fPeer.fHost, .int .i64 x274.fPeer.fPort, .int .i64 x274.fPort, .int .i64 x274.fUntil, .ref 500094 0 x274.fOpen.length] (0 + e251.2.toNat) 6 (SBinding.mk x274.fInside x274.fPeer x274.fPort x274.fUntil (x274.fOpen.drop ((if (wi64 ((x274.fOpen.length : Int) - 16)) > (0 : Int) then (wi64 ((x274.fOpen.length : Int) - 16)) else (0 : Int)).toNat))) tySAddr x274.fOpen (some ((if (wi64 ((x274.fOpen.length : Int) - 16)) > (0 : Int) then (wi64 ((x274.fOpen.length : Int) - 16)) else (0 : Int)).toNat)) (.gh 0 (.len 600091 ((((e251.1.set (0 + e251.2.toNat) (SBinding.mk x252.fInside x252.fPeer x252.fPort (wi64 (p9 + p4)) x252.fOpen)).set (0 + e251.2.toNat) (SBinding.mk x273.fInside x273.fPeer x273.fPort x273.fUntil (x273.fOpen ++ [r269]))).set (0 + e251.2.toNat) (SBinding.mk x274.fInside x274.fPeer x274.fPort x274.fUntil (x274.fOpen.drop ((if (wi64 ((x274.fOpen.length : Int) - 16)) > (0 : Int) then (wi64 ((x274.fOpen.length : Int) - 16)) else (0 : Int)).toNat)))).length) [((e251.1.set (0 + e251.2.toNat) (SBinding.mk x252.fInside x252.fPeer x252.fPort (wi64 (p9 + p4)) x252.fOpen)).set (0 + e251.2.toNat) (SBinding.mk x273.fInside x273.fPeer x273.fPort x273.fUntil (x273.fOpen ++ [r269]))).length] (by simp)) (.done (((e251.1.set (0 + e251.2.toNat) (SBinding.mk x252.fInside x252.fPeer x252.fPort (wi64 (p9 + p4)) x252.fOpen)).set (0 + e251.2.toNat) (SBinding.mk x273.fInside x273.fPeer x273.fPort x273.fUntil (x273.fOpen ++ [r269]))).set (0 + e251.2.toNat) (SBinding.mk x274.fInside x274.fPeer x274.fPort x274.fUntil (x274.fOpen.drop ((if (wi64 ((x274.fOpen.length : Int) - 16)) > (0 : Int) then (wi64 ((x274.fOpen.length : Int) - 16)) else (0 : Int)).toNat))))))))))))))
     (.done (e251.1.set (0 + e251.2.toNat) (SBinding.mk x252.fInside x252.fPeer x252.fPort (wi64 (p9 + p4)) x252.fOpen))))
    (fun (e275 : (List SBinding)) => Ext.of .normal [(0, .ptr 1000000 0 0), (6, .ptr 6 0 0), (7, .int .i64 0), (12, .ptr 600091 (0 + e251.2.toNat) 0)] [(6, ⟨2, true, [[.str ByteArray.empty, .int .i64 0]]⟩), (1000000, ⟨9, true, [[.int .i64 p2, .int .i64 p3, .int .i64 p4, .bool p5, .str p6, .int .i64 p7, .int .i64 p8, .int .i64 p9, .ref 600091 0 e275.length]]⟩)] [BT.of 600091 tySBindingO6 7 e275 true] (by rfl))
    (fun e275 =>
     .row 15009 tySBindingO6 e275 (0 + e251.2.toNat) true fun x276 =>
     .gh 0 (.ren 600091 660000) (.done (e275, 0, p6, x276.fPort))) else .fail))))) else .fail)
theorem k58_1 (p0 : SAddr) (p1 : SAddr) (p2 : Int) (p3 : Int) (p4 : Int) (p5 : Bool) (p6 : ByteArray) (p7 : Int) (p8 : Int) (p9 : Int) (p10 : (List SBinding)) : FnB Tryd.prog GG [0, 1, 2, 4, 5, 6, 7, 8, 9, 10, 11, 12, 13, 27, 36, 103] Tryd.f58 [.ptr 1000000 0 0, .agg [.str p0.fHost, .int .i64 p0.fPort], .agg [.str p1.fHost, .int .i64 p1.fPort]] (Ext.of .normal (argTs [.ptr 1000000 0 0, .agg [.str p0.fHost, .int .i64 p0.fPort], .agg [.str p1.fHost, .int .i64 p1.fPort]]) [(1000000, ⟨9, true, [[.int .i64 p2, .int .i64 p3, .int .i64 p4, .bool p5, .str p6, .int .i64 p7, .int .i64 p8, .int .i64 p9, .ref 1000001 0 p10.length]]⟩)] [BT.of 1000001 tySBindingO6 7 p10 true] (by rfl)) (g58_1 p0 p1 p2 p3 p4 p5 p6 p7 p8 p9 p10) (fun (r : (List SBinding) × Int × ByteArray × Int) => .tup [.agg [.str r.2.2.1, .int .i64 r.2.2.2], .int .i64 r.2.1]) (fun (r : (List SBinding) × Int × ByteArray × Int) => Ext.of .normal [] [(1000000, ⟨9, true, [[.int .i64 p2, .int .i64 p3, .int .i64 p4, .bool p5, .str p6, .int .i64 p7, .int .i64 p8, .int .i64 p9, .ref 660000 0 r.1.length]]⟩)] [BT.of 660000 tySBindingO6 7 r.1 true] (by rfl)) := by unfold FnB; kernel_rfl
noncomputable def s58_1 (p0 : SAddr) (p1 : SAddr) (p2 : Int) (p3 : Int) (p4 : Int) (p5 : Bool) (p6 : ByteArray) (p7 : Int) (p8 : Int) (p9 : Int) (p10 : (List SBinding)) : EV.Spec Tryd.prog GG ((List SBinding) × Int × ByteArray × Int) := .ofFnB 58 [660000] mixed Tryd.func58 rfl (fun _ => rfl) (k58_1 p0 p1 p2 p3 p4 p5 p6 p7 p8 p9 p10)
noncomputable def g25 (p0 : SNat) (p1 : Int) (p2 : SAddr) (p3 : SAddr) : TT (SNat × SAddr × Int) :=
 .call2 1006 (s56_1 p0 p1 [p2, p3]) [(1000000, 19)] [(15, 500079), (600074, 500080)] (fun r137 =>
  .cnd 2 [31]
  (.br 2004 (r137 == 0)
   (.done (decide (p2.fHost = p0.fHost)))
   (.done false))
  (fun (c138 : Bool) => [.bool c138]) fun c138 =>
  .bind 0
  (.br 0 c138
   (.done 2)
   (.done r137))
  (fun (e139 : Int) => Ext.lit .normal [(6, .ptr 6 0 0), (7, .ptr 7 0 0), (8, .ptr 8 0 0), (9, .ptr 9 0 0), (10, .int .i64 0), (11, .nilp), (12, .int .i64 e139)] [(6, ⟨2, true, [[.str p2.fHost, .int .i64 p2.fPort]]⟩), (7, ⟨2, true, [[.str p3.fHost, .int .i64 p3.fPort]]⟩), (8, ⟨9, true, [[.int .i64 0, .int .i64 0, .int .i64 0, .bool false, .str ByteArray.empty, .int .i64 0, .int .i64 0, .int .i64 0, .nilsl]]⟩), (9, ⟨2, true, [[.str ByteArray.empty, .int .i64 0]]⟩)])
  (fun e139 =>
   .br 0 (e139 != 0)
   (.done ((SNat.mk 0 0 0 false ByteArray.empty 0 0 0 []), (SAddr.mk ByteArray.empty 0), e139))
   (.call 6004 (s58 p2 p3) [] [] fun r140 =>
    .br 0 (r140.2 != 0)
    (.done ((SNat.mk 0 0 0 false ByteArray.empty 0 0 0 []), (SAddr.mk ByteArray.empty 0), r140.2))
    (.fail))))
 (fun r141 =>
  .bind 0
  (.br 0 (decide (p2.fHost = p0.fHost))
   (.done 2)
   (.done 0))
  (fun (e142 : Int) => Ext.of .normal [(6, .ptr 6 0 0), (7, .ptr 7 0 0), (8, .ptr 8 0 0), (9, .ptr 9 0 0), (10, .int .i64 0), (11, .ptr 500079 0 0), (12, .int .i64 e142)] [(6, ⟨2, true, [[.str p2.fHost, .int .i64 p2.fPort]]⟩), (7, ⟨2, true, [[.str p3.fHost, .int .i64 p3.fPort]]⟩), (8, ⟨9, true, [[.int .i64 0, .int .i64 0, .int .i64 0, .bool false, .str ByteArray.empty, .int .i64 0, .int .i64 0, .int .i64 0, .nilsl]]⟩), (9, ⟨2, true, [[.str ByteArray.empty, .int .i64 0]]⟩), (500079, ⟨9, true, [[.int .i64 p0.fMapping, .int .i64 p0.fFilter, .int .i64 p0.fTimeout, .bool p0.fHairpin, .str p0.fHost, .int .i64 p0.fLow, .int .i64 p0.fHigh, .int .i64 p1, .ref 500080 0 r141.length]]⟩)] [BT.of 500080 tySBindingO6 7 r141 true] (by rfl))
  (fun e142 =>
   .br 0 (e142 != 0)
   (.done ((SNat.mk 0 0 0 false ByteArray.empty 0 0 0 []), (SAddr.mk ByteArray.empty 0), e142))
   (.call 6004 (s58_1 p2 p3 p0.fMapping p0.fFilter p0.fTimeout p0.fHairpin p0.fHost p0.fLow p0.fHigh p1 r141) [(1000000, 500079), (1000001, 500080)] [(660000, 500095)] fun r277 =>
    .br 0 (r277.2.1 != 0)
    (.done ((SNat.mk 0 0 0 false ByteArray.empty 0 0 0 []), (SAddr.mk ByteArray.empty 0), r277.2.1))
    (.gh 0 (.share (VwW.of 500095 tySBindingO6 r277.1) 1) (.done ((SNat.mk p0.fMapping p0.fFilter p0.fTimeout p0.fHairpin p0.fHost p0.fLow p0.fHigh p1 r277.1), (SAddr.mk r277.2.2.1 r277.2.2.2), 0))))))
theorem k25 (p0 : SNat) (p1 : Int) (p2 : SAddr) (p3 : SAddr) : FnD Tryd.prog GG [0, 1, 2, 3, 4, 6, 7, 8, 9, 10, 11, 12, 13, 31, 33, 45] Tryd.f25 [.agg [.int .i64 p0.fMapping, .int .i64 p0.fFilter, .int .i64 p0.fTimeout, .bool p0.fHairpin, .str p0.fHost, .int .i64 p0.fLow, .int .i64 p0.fHigh, .int .i64 p0.fNow, .sl false 7 (List.map tySBinding.c p0.fTable)], .int .i64 p1, .agg [.str p2.fHost, .int .i64 p2.fPort], .agg [.str p3.fHost, .int .i64 p3.fPort]] (g25 p0 p1 p2 p3) (fun r => .tup [.agg [.int .i64 r.1.fMapping, .int .i64 r.1.fFilter, .int .i64 r.1.fTimeout, .bool r.1.fHairpin, .str r.1.fHost, .int .i64 r.1.fLow, .int .i64 r.1.fHigh, .int .i64 r.1.fNow, .sl false 7 (List.map tySBinding.c r.1.fTable)], .agg [.str r.2.1.fHost, .int .i64 r.2.1.fPort], .int .i64 r.2.2]) := by unfold FnD; kernel_rfl
noncomputable def s25 (p0 : SNat) (p1 : Int) (p2 : SAddr) (p3 : SAddr) : EV.Spec Tryd.prog GG (SNat × SAddr × Int) := .ofFn 25 mixed Tryd.func25 (k25 p0 p1 p2 p3)
noncomputable def g85_1 (_ : SAddr) : TT (Int) :=
 .fail
theorem k85_1 (p0 : SAddr) : FnD Tryd.prog GG [0, 1, 4] Tryd.f85 [.nilp, .fn 90 [] [.snap [.str p0.fHost, .int .i64 p0.fPort]]] (g85_1 p0) (fun r => .int .i64 r) := by unfold FnD; kernel_rfl
noncomputable def s85_1 (p0 : SAddr) : EV.Spec Tryd.prog GG (Int) := .ofFn 85 mixed Tryd.func85 (k85_1 p0)
noncomputable def g62 (_ : SAddr) (p1 : SAddr) : TT (SAddr × Int) :=
 .view 1003 (s85_1 p1) [] fun r281 =>
 .br 2004 (decide (r281 < 0))
 (.tt (.done ((SAddr.mk ByteArray.empty 0), 4)))
 (.fail)
theorem k62 (p0 : SAddr) (p1 : SAddr) : FnD Tryd.prog GG [0, 1, 2, 4, 5, 6, 7, 8, 43] Tryd.f62 [.nilp, .agg [.str p0.fHost, .int .i64 p0.fPort], .agg [.str p1.fHost, .int .i64 p1.fPort]] (g62 p0 p1) (fun r => .tup [.agg [.str r.1.fHost, .int .i64 r.1.fPort], .int .i64 r.2]) := by unfold FnD; kernel_rfl
noncomputable def s62 (p0 : SAddr) (p1 : SAddr) : EV.Spec Tryd.prog GG (SAddr × Int) := .ofFn 62 mixed Tryd.func62 (k62 p0 p1)
noncomputable def g90 (p0 : SBinding) (p1 : SAddr) : TT (Bool) :=
 .done (p0.fPort == p1.fPort)
theorem k90 (p0 : SBinding) (p1 : SAddr) : FnD Tryd.prog GG [0, 1, 2, 3] Tryd.f90 [.agg [.str p0.fInside.fHost, .int .i64 p0.fInside.fPort, .str p0.fPeer.fHost, .int .i64 p0.fPeer.fPort, .int .i64 p0.fPort, .int .i64 p0.fUntil, .sl false 2 (List.map tySAddr.c p0.fOpen)], .snap [.str p1.fHost, .int .i64 p1.fPort]] (g90 p0 p1) (fun r => .bool r) := by unfold FnD; kernel_rfl
noncomputable def s90 (p0 : SBinding) (p1 : SAddr) : EV.Spec Tryd.prog GG (Bool) := .ofFn 90 mixed Tryd.func90 (k90 p0 p1)
noncomputable def g115_2 (p0 : (List SBinding)) (p1 : SAddr) : TT (Int) :=
 .bind2 1
 (.lp (fun (l288 : Int) => Ext.lit .normal [(0, .sl false 7 (List.map tySBinding.c p0)), (1, .fn 90 [] [.snap [.str p1.fHost, .int .i64 p1.fPort]]), (4, .int .i64 0), (7, .int .i64 (mlen tySBinding p0)), (8, .int .i64 l288)] [])
  (fun l288 =>
   .br 0 (decide (l288 < (mlen tySBinding p0)))
   (.row 4004 tySBinding p0 l288.toNat (decide (0 ≤ l288)) fun x289 =>
    .call 4006 (s90 x289 p1) [] [] fun r290 =>
    .br 0 r290
    (.done (.inr (.inl l288)))
    (.done (.inl (wi64 (l288 + 1)))))
   (.done (.inr (.inr ()))))
  0)
 (fun (e291 : Int) => Ext.lit .ret [(4, .int .i64 e291)] [])
 (fun (_ : Unit) => Ext.lit (.exit 0) [(4, .int .i64 0)] [])
 (fun e291 =>
  .done e291)
 (fun _ =>
  .done (-1))
theorem k115_2 (p0 : (List SBinding)) (p1 : SAddr) : FnD Tryd.prog GG [0, 1, 4, 5, 7, 8, 9, 16] Tryd.f115 [.sl false 7 (List.map tySBinding.c p0), .fn 90 [] [.snap [.str p1.fHost, .int .i64 p1.fPort]]] (g115_2 p0 p1) (fun r => .int .i64 r) := by unfold FnD; kernel_rfl
noncomputable def s115_2 (p0 : (List SBinding)) (p1 : SAddr) : EV.Spec Tryd.prog GG (Int) := .ofFn 115 mixed Tryd.func115 (k115_2 p0 p1)
noncomputable def g85_2 (p0 : SRouter) (p1 : SAddr) : TT (Int) :=
 .call 1007 (s115_2 p0.fNat.fTable p1) [] [] fun r293 =>
 .done r293
theorem k85_2 (p0 : SRouter) (p1 : SAddr) : FnD Tryd.prog GG [0, 1, 4] Tryd.f85 [.snap [.int .i64 p0.fNat.fMapping, .int .i64 p0.fNat.fFilter, .int .i64 p0.fNat.fTimeout, .bool p0.fNat.fHairpin, .str p0.fNat.fHost, .int .i64 p0.fNat.fLow, .int .i64 p0.fNat.fHigh, .int .i64 p0.fNat.fNow, .sl false 7 (List.map tySBinding.c p0.fNat.fTable)], .fn 90 [] [.snap [.str p1.fHost, .int .i64 p1.fPort]]] (g85_2 p0 p1) (fun r => .int .i64 r) := by unfold FnD; kernel_rfl
noncomputable def s85_2 (p0 : SRouter) (p1 : SAddr) : EV.Spec Tryd.prog GG (Int) := .ofFn 85 mixed Tryd.func85 (k85_2 p0 p1)
noncomputable def g62_1 (p0 : SRouter) (p1 : SAddr) (p2 : SAddr) : TT (SAddr × Int) :=
 .view 1003 (s85_2 p0 p2) [] fun r294 =>
 .cnd 2 [43]
 (.br 2004 (decide (r294 < 0))
  (.done true)
  (.br 2011 (p0.fNat.fFilter != 1)
   (.row 2017 tySBinding p0.fNat.fTable r294.toNat (decide (0 ≤ r294)) fun x295 =>
    .ceq 2025 p0.fNat.fFilter [0, 1, 2, 3] (fun v => bif v == 0 then .fail else bif v == 1 then .call 2028 (s146 p1) [] [] fun r296 =>
     .call 2029 (s88 x295.fOpen r296) [] [] fun r297 =>
     .done (!r297) else bif v == 2 then .call 2028 (s147 p1) [] [] fun r298 =>
     .call 2029 (s88 x295.fOpen r298) [] [] fun r299 =>
     .done (!r299) else bif v == 3 then .call 2028 (s148 p1) [] [] fun r300 =>
     .call 2029 (s88 x295.fOpen r300) [] [] fun r301 =>
     .done (!r301) else .fail))
   (.done false)))
 (fun (c302 : Bool) => [.bool c302]) fun c302 =>
 .br 0 c302
 (.done ((SAddr.mk ByteArray.empty 0), 4))
 (.row 4007 tySBinding p0.fNat.fTable r294.toNat (decide (0 ≤ r294)) fun x303 =>
  .done (x303.fInside, 0))
theorem k62_1 (p0 : SRouter) (p1 : SAddr) (p2 : SAddr) : FnD Tryd.prog GG [0, 1, 2, 4, 5, 6, 7, 8, 43] Tryd.f62 [.snap [.int .i64 p0.fNat.fMapping, .int .i64 p0.fNat.fFilter, .int .i64 p0.fNat.fTimeout, .bool p0.fNat.fHairpin, .str p0.fNat.fHost, .int .i64 p0.fNat.fLow, .int .i64 p0.fNat.fHigh, .int .i64 p0.fNat.fNow, .sl false 7 (List.map tySBinding.c p0.fNat.fTable)], .agg [.str p1.fHost, .int .i64 p1.fPort], .agg [.str p2.fHost, .int .i64 p2.fPort]] (g62_1 p0 p1 p2) (fun r => .tup [.agg [.str r.1.fHost, .int .i64 r.1.fPort], .int .i64 r.2]) := by unfold FnD; kernel_rfl
noncomputable def s62_1 (p0 : SRouter) (p1 : SAddr) (p2 : SAddr) : EV.Spec Tryd.prog GG (SAddr × Int) := .ofFn 62 mixed Tryd.func62 (k62_1 p0 p1 p2)
noncomputable def g27 (p0 : SNat) (p1 : Int) (p2 : SAddr) (p3 : SAddr) : TT (SNat × SAddr × Int) :=
 .call2 1006 (s56_1 p0 p1 [p2, p3]) [(1000000, 19)] [(15, 500096), (600074, 500097)] (fun r278 =>
  .cnd 2 [31]
  (.br 2004 (r278 == 0)
   (.done (!decide (p3.fHost = p0.fHost)))
   (.done false))
  (fun (c279 : Bool) => [.bool c279]) fun c279 =>
  .bind 0
  (.br 0 c279
   (.done 2)
   (.done r278))
  (fun (e280 : Int) => Ext.lit .normal [(6, .ptr 6 0 0), (7, .ptr 7 0 0), (8, .ptr 8 0 0), (9, .ptr 9 0 0), (10, .int .i64 0), (11, .nilp), (12, .int .i64 e280)] [(6, ⟨2, true, [[.str p2.fHost, .int .i64 p2.fPort]]⟩), (7, ⟨2, true, [[.str p3.fHost, .int .i64 p3.fPort]]⟩), (8, ⟨9, true, [[.int .i64 0, .int .i64 0, .int .i64 0, .bool false, .str ByteArray.empty, .int .i64 0, .int .i64 0, .int .i64 0, .nilsl]]⟩), (9, ⟨2, true, [[.str ByteArray.empty, .int .i64 0]]⟩)])
  (fun e280 =>
   .br 0 (e280 != 0)
   (.done ((SNat.mk 0 0 0 false ByteArray.empty 0 0 0 []), (SAddr.mk ByteArray.empty 0), e280))
   (.call 6004 (s62 p2 p3) [] [] fun r282 =>
    .br 0 (r282.2 != 0)
    (.done ((SNat.mk 0 0 0 false ByteArray.empty 0 0 0 []), (SAddr.mk ByteArray.empty 0), r282.2))
    (.fail))))
 (fun r283 =>
  .bind 0
  (.br 0 (!decide (p3.fHost = p0.fHost))
   (.done 2)
   (.done 0))
  (fun (e284 : Int) => Ext.of .normal [(6, .ptr 6 0 0), (7, .ptr 7 0 0), (8, .ptr 8 0 0), (9, .ptr 9 0 0), (10, .int .i64 0), (11, .ptr 500096 0 0), (12, .int .i64 e284)] [(6, ⟨2, true, [[.str p2.fHost, .int .i64 p2.fPort]]⟩), (7, ⟨2, true, [[.str p3.fHost, .int .i64 p3.fPort]]⟩), (8, ⟨9, true, [[.int .i64 0, .int .i64 0, .int .i64 0, .bool false, .str ByteArray.empty, .int .i64 0, .int .i64 0, .int .i64 0, .nilsl]]⟩), (9, ⟨2, true, [[.str ByteArray.empty, .int .i64 0]]⟩), (500096, ⟨9, true, [[.int .i64 p0.fMapping, .int .i64 p0.fFilter, .int .i64 p0.fTimeout, .bool p0.fHairpin, .str p0.fHost, .int .i64 p0.fLow, .int .i64 p0.fHigh, .int .i64 p1, .ref 500097 0 r283.length]]⟩)] [BT.of 500097 tySBindingO6 7 r283 true] (by rfl))
  (fun e284 =>
   .br 0 (e284 != 0)
   (.done ((SNat.mk 0 0 0 false ByteArray.empty 0 0 0 []), (SAddr.mk ByteArray.empty 0), e284))
   (.view 6004 (s62_1 (SRouter.mk (SNat.mk p0.fMapping p0.fFilter p0.fTimeout p0.fHairpin p0.fHost p0.fLow p0.fHigh p1 r283)) p2 p3) [(VwW.of 500097 tySBindingO6 r283)] fun r304 =>
    .br 0 (r304.2 != 0)
    (.done ((SNat.mk 0 0 0 false ByteArray.empty 0 0 0 []), (SAddr.mk ByteArray.empty 0), r304.2))
    (.gh 0 (.share (VwW.of 500097 tySBindingO6 r283) 1) (.done ((SNat.mk p0.fMapping p0.fFilter p0.fTimeout p0.fHairpin p0.fHost p0.fLow p0.fHigh p1 r283), r304.1, 0))))))
theorem k27 (p0 : SNat) (p1 : Int) (p2 : SAddr) (p3 : SAddr) : FnD Tryd.prog GG [0, 1, 2, 3, 4, 6, 7, 8, 9, 10, 11, 12, 13, 31, 33, 45] Tryd.f27 [.agg [.int .i64 p0.fMapping, .int .i64 p0.fFilter, .int .i64 p0.fTimeout, .bool p0.fHairpin, .str p0.fHost, .int .i64 p0.fLow, .int .i64 p0.fHigh, .int .i64 p0.fNow, .sl false 7 (List.map tySBinding.c p0.fTable)], .int .i64 p1, .agg [.str p2.fHost, .int .i64 p2.fPort], .agg [.str p3.fHost, .int .i64 p3.fPort]] (g27 p0 p1 p2 p3) (fun r => .tup [.agg [.int .i64 r.1.fMapping, .int .i64 r.1.fFilter, .int .i64 r.1.fTimeout, .bool r.1.fHairpin, .str r.1.fHost, .int .i64 r.1.fLow, .int .i64 r.1.fHigh, .int .i64 r.1.fNow, .sl false 7 (List.map tySBinding.c r.1.fTable)], .agg [.str r.2.1.fHost, .int .i64 r.2.1.fPort], .int .i64 r.2.2]) := by unfold FnD; kernel_rfl
noncomputable def s27 (p0 : SNat) (p1 : Int) (p2 : SAddr) (p3 : SAddr) : EV.Spec Tryd.prog GG (SNat × SAddr × Int) := .ofFn 27 mixed Tryd.func27 (k27 p0 p1 p2 p3)
noncomputable def g19 (p0 : SNat) : TT (Int) :=
 .view 2002 (s55 (SRouter.mk p0)) [] fun r307 =>
 .br 0 (!r307)
 (.done 130)
 (.done 0)
theorem k19 (p0 : SNat) : FnD Tryd.prog GG [0, 1, 2, 3, 9] Tryd.f19 [.agg [.int .i64 p0.fMapping, .int .i64 p0.fFilter, .int .i64 p0.fTimeout, .bool p0.fHairpin, .str p0.fHost, .int .i64 p0.fLow, .int .i64 p0.fHigh, .int .i64 p0.fNow, .sl false 7 (List.map tySBinding.c p0.fTable)]] (g19 p0) (fun r => .int .i64 r) := by unfold FnD; kernel_rfl
noncomputable def s19 (p0 : SNat) : EV.Spec Tryd.prog GG (Int) := .ofFn 19 mixed Tryd.func19 (k19 p0)
end Go.Proofs.YtdiagiflihpidaaDoor
namespace Go.Proofs.YtdiagiflihpidaaDoor
open Go Go.EV
set_option maxRecDepth 100000
structure SHost1 where
 fIp : ByteArray
 fNat : Int
 fDelay : Int
 fLose : Int
 fCount : Int
structure SFlight where
 fDue : Int
 fSerial : Int
 fVia : Int
 fWithin : Int
 fFrom : SAddr
 fTo : SAddr
 fData : ByteArray
structure SNetwork where
 fHosts : (List SHost1)
 fNats : (List SNat)
 fQueue : (List SFlight)
 fNow : Int
 fSerial : Int
structure SCarrier where
 fNetwork : SNetwork
structure SPlace where
 fnat : Int
 fip : ByteArray
structure SEnt191 where
 fk : SPlace
 fv : Bool
structure SEnt192 where
 fk : ByteArray
 fv : Bool
def tySHost1 : Ty SHost1 := ⟨fun x => [.str x.fIp, .int .i64 x.fNat, .int .i64 x.fDelay, .int .i64 x.fLose, .int .i64 x.fCount], fun x => [.str x.fIp, .int .i64 x.fNat, .int .i64 x.fDelay, .int .i64 x.fLose, .int .i64 x.fCount], fun _ => rfl, fun _ => rfl, fun _ _ => rfl, fun _ => rfl⟩
def tySNat : Ty SNat := ⟨fun x => [.int .i64 x.fMapping, .int .i64 x.fFilter, .int .i64 x.fTimeout, .bool x.fHairpin, .str x.fHost, .int .i64 x.fLow, .int .i64 x.fHigh, .int .i64 x.fNow, .sl false 7 (List.map tySBinding.c x.fTable)], fun x => [.int .i64 x.fMapping, .int .i64 x.fFilter, .int .i64 x.fTimeout, .bool x.fHairpin, .str x.fHost, .int .i64 x.fLow, .int .i64 x.fHigh, .int .i64 x.fNow, .sl false 7 (List.map tySBinding.c x.fTable)], fun _ => rfl, fun _ => rfl, fun _ _ => rfl, fun _ => rfl⟩
def tySFlight : Ty SFlight := ⟨fun x => [.int .i64 x.fDue, .int .i64 x.fSerial, .int .i64 x.fVia, .int .i64 x.fWithin, .str x.fFrom.fHost, .int .i64 x.fFrom.fPort, .str x.fTo.fHost, .int .i64 x.fTo.fPort, .str x.fData], fun x => [.int .i64 x.fDue, .int .i64 x.fSerial, .int .i64 x.fVia, .int .i64 x.fWithin, .str x.fFrom.fHost, .int .i64 x.fFrom.fPort, .str x.fTo.fHost, .int .i64 x.fTo.fPort, .str x.fData], fun _ => rfl, fun _ => rfl, fun _ _ => rfl, fun _ => rfl⟩
def tySEnt191 : Ty SEnt191 := ⟨fun x => [.int .i64 x.fk.fnat, .str x.fk.fip, .bool x.fv], fun x => [.int .i64 x.fk.fnat, .str x.fk.fip, .bool x.fv], fun _ => rfl, fun _ => rfl, fun _ _ => rfl, fun _ => rfl⟩
def tySEnt192 : Ty SEnt192 := ⟨fun x => [.str x.fk, .bool x.fv], fun x => [.str x.fk, .bool x.fv], fun _ => rfl, fun _ => rfl, fun _ _ => rfl, fun _ => rfl⟩
noncomputable def g68 (p0 : Int) (p1 : Int) (p2 : Int) : TT (Bool) :=
 .cnd 1 [6]
 (.br 1005 (decide (p1 ≤ p0))
  (.done (decide (p0 ≤ p2)))
  (.done false))
 (fun (c311 : Bool) => [.bool c311]) fun c311 =>
 .done c311
theorem k68 (p0 : Int) (p1 : Int) (p2 : Int) : FnD Tryd.prog GG [0, 1, 2, 6] Tryd.f68 [.int .i64 p0, .int .i64 p1, .int .i64 p2] (g68 p0 p1 p2) (fun r => .bool r) := by unfold FnD; kernel_rfl
noncomputable def s68 (p0 : Int) (p1 : Int) (p2 : Int) : EV.Spec Tryd.prog GG (Bool) := .ofFn 68 mixed Tryd.func68 (k68 p0 p1 p2)
noncomputable def g101 (p0 : SCarrier) : TT (Bool) :=
 .row 1006 tySHost1 p0.fNetwork.fHosts 0 true fun x308 =>
 .opr 2001 (Rule.makeMap 191 20 1114370 (by decide)) fun _ =>
 .opr 3001 (Rule.makeMap 192 21 1048833 (by decide)) fun _ =>
 .bind2 1
 (.lp (fun (l316 : (List SEnt191) × (List SEnt192) × Int) => Ext.of .normal [(0, .snap [.sl false 5 (List.map tySHost1.c p0.fNetwork.fHosts), .sl false 9 (List.map tySNat.c p0.fNetwork.fNats), .sl false 9 (List.map tySFlight.c p0.fNetwork.fQueue), .int .i64 p0.fNetwork.fNow, .int .i64 p0.fNetwork.fSerial]), (2, .bool false), (3, .int .i64 (x308.fIp.size : Int)), (4, .mp 20), (5, .mp 21), (26, .sl false 5 (List.map tySHost1.c p0.fNetwork.fHosts)), (27, .int .i64 (mlen tySHost1 p0.fNetwork.fHosts)), (28, .int .i64 l316.2.2)] [] [BT.of 20 tySEnt191 1114370 l316.1 true, BT.of 21 tySEnt192 1048833 l316.2.1 true] (by rfl))
  (fun l316 =>
   .br 0 (decide (l316.2.2 < (mlen tySHost1 p0.fNetwork.fHosts)))
   (.row 6001 tySHost1 p0.fNetwork.fHosts l316.2.2.toNat (decide (0 ≤ l316.2.2)) fun x317 =>
    .cnd 8 [77]
    (.br 8007 ((x317.fIp.size : Int) != (x308.fIp.size : Int))
     (.done true)
     (.call 8016 (s68 x317.fNat (-1) (wi64 ((mlen tySNat p0.fNetwork.fNats) - 1))) [] [] fun r318 =>
      .br 8020 (!r318)
      (.done true)
      (.call 8022 (s68 x317.fDelay 0 10000) [] [] fun r319 =>
       .br 8026 (!r319)
       (.done true)
       (.call 8028 (s68 x317.fLose 0 100) [] [] fun r320 =>
        .br 8032 (!r320)
        (.done true)
        (.call 8034 (s68 x317.fCount 0 1099511627776) [] [] fun r321 =>
         .br 8038 (!r321)
         (.done true)
         (.opr 8040 (Rule.look (mt := 191) (kt := 166) (et := 4) (z := 1114370) (ty := tySEnt191) (p := (fun x => ((x317.fNat == x.fk.fnat) && ((decide (x317.fIp = x.fk.fip)) && true)))) (kc := [.int .i64 x317.fNat, .str x317.fIp]) (.tmp 74) (.tmp 75) 76 20 true l316.1 (.bool false) (.bool (mlook l316.1 (fun x => ((x317.fNat == x.fk.fnat) && ((decide (x317.fIp = x.fk.fip)) && true))) (fun x => x.fv) false)) ⟨by kernel_rfl, by kernel_rfl, by kernel_rfl, fun _ => by kernel_rfl⟩ (by kernel_rfl) (mlook_map _ _ (fun x : SEnt191 => x.fv) false V.bool)) fun _ =>
          .done (mlook l316.1 (fun x => ((x317.fNat == x.fk.fnat) && ((decide (x317.fIp = x.fk.fip)) && true))) (fun x => x.fv) false)))))))
    (fun (c322 : Bool) => [.bool c322]) fun c322 =>
    .br 0 c322
    (.done (.inr (.inl (l316.2.1, (x308.fIp.size : Int)))))
    (.opr 10006 (Rule.put (mt := 191) (kt := 166) (et := 4) (z := 1114370) (ty := tySEnt191) (p := (fun x => ((x317.fNat == x.fk.fnat) && ((decide (x317.fIp = x.fk.fip)) && true)))) (kc := [.int .i64 x317.fNat, .str x317.fIp]) (.tmp 78) (.tmp 79) (.const (.bool true)) 20 l316.1 (SEnt191.mk (SPlace.mk x317.fNat x317.fIp) true) [.bool true] ⟨by kernel_rfl, by kernel_rfl, by kernel_rfl, fun _ => by kernel_rfl⟩ (by rfl) (by kernel_rfl) (by kernel_rfl) (by decide) (by decide)) fun _ =>
     .opr 10007 (Rule.put (mt := 192) (kt := 9) (et := 4) (z := 1048833) (ty := tySEnt192) (p := (fun x => (decide (x317.fIp = x.fk)))) (kc := [.str x317.fIp]) (.tmp 80) (.tmp 82) (.const (.bool true)) 21 l316.2.1 (SEnt192.mk x317.fIp true) [.bool true] ⟨by kernel_rfl, by kernel_rfl, by kernel_rfl, fun _ => by kernel_rfl⟩ (by rfl) (by kernel_rfl) (by kernel_rfl) (by decide) (by decide)) fun _ =>
     .done (.inl ((mput l316.1 (fun x => ((x317.fNat == x.fk.fnat) && ((decide (x317.fIp = x.fk.fip)) && true))) (SEnt191.mk (SPlace.mk x317.fNat x317.fIp) true)), (mput l316.2.1 (fun x => (decide (x317.fIp = x.fk))) (SEnt192.mk x317.fIp true)), (wi64 (l316.2.2 + 1))))))
   (.done (.inr (.inr (l316.2.1, (x308.fIp.size : Int))))))
  ([], [], 0))
 (fun (e323 : (List SEnt192) × Int) => Ext.of .ret [(0, .snap [.sl false 5 (List.map tySHost1.c p0.fNetwork.fHosts), .sl false 9 (List.map tySNat.c p0.fNetwork.fNats), .sl false 9 (List.map tySFlight.c p0.fNetwork.fQueue), .int .i64 p0.fNetwork.fNow, .int .i64 p0.fNetwork.fSerial]), (2, .bool false), (3, .int .i64 e323.2), (5, .mp 21)] [] [BT.of 21 tySEnt192 1048833 e323.1 true] (by rfl))
 (fun (e324 : (List SEnt192) × Int) => Ext.of (.exit 0) [(0, .snap [.sl false 5 (List.map tySHost1.c p0.fNetwork.fHosts), .sl false 9 (List.map tySNat.c p0.fNetwork.fNats), .sl false 9 (List.map tySFlight.c p0.fNetwork.fQueue), .int .i64 p0.fNetwork.fNow, .int .i64 p0.fNetwork.fSerial]), (2, .bool false), (3, .int .i64 e324.2), (5, .mp 21)] [] [BT.of 21 tySEnt192 1048833 e324.1 true] (by rfl))
 (fun e323 =>
  .done false)
 (fun e324 =>
  .bind2 1
  (.lp (fun (l329 : (List SEnt192) × Int) => Ext.of .normal [(0, .snap [.sl false 5 (List.map tySHost1.c p0.fNetwork.fHosts), .sl false 9 (List.map tySNat.c p0.fNetwork.fNats), .sl false 9 (List.map tySFlight.c p0.fNetwork.fQueue), .int .i64 p0.fNetwork.fNow, .int .i64 p0.fNetwork.fSerial]), (2, .bool false), (3, .int .i64 e324.2), (5, .mp 21), (88, .sl false 9 (List.map tySNat.c p0.fNetwork.fNats)), (89, .int .i64 (mlen tySNat p0.fNetwork.fNats)), (90, .int .i64 l329.2)] [] [BT.of 21 tySEnt192 1048833 l329.1 true] (by rfl))
   (fun l329 =>
    .br 0 (decide (l329.2 < (mlen tySNat p0.fNetwork.fNats)))
    (.row 14001 tySNat p0.fNetwork.fNats l329.2.toNat (decide (0 ≤ l329.2)) fun x330 =>
     .cnd 15 [119]
     (.call 15002 (s19 x330) [] [] fun r331 =>
      .br 15005 (r331 != 0)
      (.done true)
      (.br 15015 (decide (p0.fNetwork.fNow < x330.fNow))
       (.done true)
       (.br 15022 ((x330.fHost.size : Int) != e324.2)
        (.done true)
        (.opr 15025 (Rule.look (mt := 192) (kt := 9) (et := 4) (z := 1048833) (ty := tySEnt192) (p := (fun x => (decide (x330.fHost = x.fk)))) (kc := [.str x330.fHost]) (.tmp 115) (.tmp 117) 118 21 true l329.1 (.bool false) (.bool (mlook l329.1 (fun x => (decide (x330.fHost = x.fk))) (fun x => x.fv) false)) ⟨by kernel_rfl, by kernel_rfl, by kernel_rfl, fun _ => by kernel_rfl⟩ (by kernel_rfl) (mlook_map _ _ (fun x : SEnt192 => x.fv) false V.bool)) fun _ =>
         .done (mlook l329.1 (fun x => (decide (x330.fHost = x.fk))) (fun x => x.fv) false)))))
     (fun (c332 : Bool) => [.bool c332]) fun c332 =>
     .br 0 c332
     (.done (.inr (.inl e324.2)))
     (.opr 17004 (Rule.put (mt := 192) (kt := 9) (et := 4) (z := 1048833) (ty := tySEnt192) (p := (fun x => (decide (x330.fHost = x.fk)))) (kc := [.str x330.fHost]) (.tmp 120) (.tmp 122) (.const (.bool true)) 21 l329.1 (SEnt192.mk x330.fHost true) [.bool true] ⟨by kernel_rfl, by kernel_rfl, by kernel_rfl, fun _ => by kernel_rfl⟩ (by rfl) (by kernel_rfl) (by kernel_rfl) (by decide) (by decide)) fun _ =>
      .done (.inl ((mput l329.1 (fun x => (decide (x330.fHost = x.fk))) (SEnt192.mk x330.fHost true)), (wi64 (l329.2 + 1))))))
    (.done (.inr (.inr e324.2))))
   (e324.1, 0))
  (fun (e333 : Int) => Ext.lit .ret [(2, .bool false), (3, .int .i64 e333)] [])
  (fun (e334 : Int) => Ext.lit (.exit 2) [(2, .bool false), (3, .int .i64 e334)] [])
  (fun e333 =>
   .done false)
  (fun e334 =>
   .cnd 19 [2]
   (.br 19004 (e334 == 4)
    (.done true)
    (.done (e334 == 16)))
   (fun (c335 : Bool) => [.bool c335]) fun c335 =>
   .done c335))
theorem k101 (p0 : SCarrier) : FnD Tryd.prog GG [0, 2, 3, 4, 5, 7, 8, 10, 26, 27, 28, 29, 77, 88, 89, 90, 91, 119] Tryd.f101 [.snap [.sl false 5 (List.map tySHost1.c p0.fNetwork.fHosts), .sl false 9 (List.map tySNat.c p0.fNetwork.fNats), .sl false 9 (List.map tySFlight.c p0.fNetwork.fQueue), .int .i64 p0.fNetwork.fNow, .int .i64 p0.fNetwork.fSerial]] (g101 p0) (fun r => .bool r) := by unfold FnD; kernel_rfl
noncomputable def s101 (p0 : SCarrier) : EV.Spec Tryd.prog GG (Bool) := .ofFn 101 mixed Tryd.func101 (k101 p0)
noncomputable def g69 (p0 : SCarrier) (p1 : SAddr) : TT (Bool) :=
 .cnd 1 [4]
 (.call 1002 (s94 p1) [] [] fun r339 =>
  .br 1005 (r339 == 0)
  (.br 1010 (decide ((1 : Int) ≤ p1.fPort))
   (.row 1018 tySHost1 p0.fNetwork.fHosts 0 true fun x340 =>
    .done ((p1.fHost.size : Int) == (x340.fIp.size : Int)))
   (.done false))
  (.done false))
 (fun (c341 : Bool) => [.bool c341]) fun c341 =>
 .done c341
theorem k69 (p0 : SCarrier) (p1 : SAddr) : FnD Tryd.prog GG [0, 1, 3, 4] Tryd.f69 [.snap [.sl false 5 (List.map tySHost1.c p0.fNetwork.fHosts), .sl false 9 (List.map tySNat.c p0.fNetwork.fNats), .sl false 9 (List.map tySFlight.c p0.fNetwork.fQueue), .int .i64 p0.fNetwork.fNow, .int .i64 p0.fNetwork.fSerial], .agg [.str p1.fHost, .int .i64 p1.fPort]] (g69 p0 p1) (fun r => .bool r) := by unfold FnD; kernel_rfl
noncomputable def s69 (p0 : SCarrier) (p1 : SAddr) : EV.Spec Tryd.prog GG (Bool) := .ofFn 69 mixed Tryd.func69 (k69 p0 p1)
noncomputable def g102 (p0 : SCarrier) (p1 : SFlight) : TT (Bool) :=
 .cnd 1 [4]
 (.call 1003 (s68 p1.fDue 0 1099511627776) [] [] fun r336 =>
  .br 1005 r336
  (.br 1015 (decide (p1.fSerial < p0.fNetwork.fSerial))
   (.call 1024 (s68 p1.fVia (-1) (wi64 ((mlen tySNat p0.fNetwork.fNats) - 1))) [] [] fun r337 =>
    .br 1027 r337
    (.call 1036 (s68 p1.fWithin (-1) (wi64 ((mlen tySNat p0.fNetwork.fNats) - 1))) [] [] fun r338 =>
     .br 1039 r338
     (.br 1043 (p1.fVia == (-1))
      (.call 1052 (s69 p0 p1.fFrom) [] [] fun r342 =>
       .br 1055 r342
       (.call 1058 (s69 p0 p1.fTo) [] [] fun r343 =>
        .br 1061 r343
        (.done (decide ((p1.fData.size : Int) ≤ 1200)))
        (.done false))
       (.done false))
      (.br 1049 (p1.fWithin == (-1))
       (.call 1052 (s69 p0 p1.fFrom) [] [] fun r344 =>
        .br 1055 r344
        (.call 1058 (s69 p0 p1.fTo) [] [] fun r345 =>
         .br 1061 r345
         (.done (decide ((p1.fData.size : Int) ≤ 1200)))
         (.done false))
        (.done false))
       (.done false)))
     (.done false))
    (.done false))
   (.done false))
  (.done false))
 (fun (c346 : Bool) => [.bool c346]) fun c346 =>
 .done c346
theorem k102 (p0 : SCarrier) (p1 : SFlight) : FnD Tryd.prog GG [0, 1, 3, 4] Tryd.f102 [.snap [.sl false 5 (List.map tySHost1.c p0.fNetwork.fHosts), .sl false 9 (List.map tySNat.c p0.fNetwork.fNats), .sl false 9 (List.map tySFlight.c p0.fNetwork.fQueue), .int .i64 p0.fNetwork.fNow, .int .i64 p0.fNetwork.fSerial], .agg [.int .i64 p1.fDue, .int .i64 p1.fSerial, .int .i64 p1.fVia, .int .i64 p1.fWithin, .str p1.fFrom.fHost, .int .i64 p1.fFrom.fPort, .str p1.fTo.fHost, .int .i64 p1.fTo.fPort, .str p1.fData]] (g102 p0 p1) (fun r => .bool r) := by unfold FnD; kernel_rfl
noncomputable def s102 (p0 : SCarrier) (p1 : SFlight) : EV.Spec Tryd.prog GG (Bool) := .ofFn 102 mixed Tryd.func102 (k102 p0 p1)
noncomputable def g75 (p0 : SCarrier) : TT (Bool) :=
 .cnd 1 [54]
 (.call 1007 (s68 (mlen tySHost1 p0.fNetwork.fHosts) 1 8) [] [] fun r347 =>
  .br 1010 (!r347)
  (.done true)
  (.br 1019 (decide ((4 : Int) < (mlen tySNat p0.fNetwork.fNats)))
   (.done true)
   (.br 1028 (decide ((64 : Int) < (mlen tySFlight p0.fNetwork.fQueue)))
    (.done true)
    (.call 1033 (s68 p0.fNetwork.fNow 0 1099511627776) [] [] fun r348 =>
     .br 1037 (!r348)
     (.done true)
     (.call 1042 (s68 p0.fNetwork.fSerial 0 1099511627776) [] [] fun r349 =>
      .br 1046 (!r349)
      (.done true)
      (.call 1047 (s101 p0) [] [] fun r350 =>
       .done (!r350)))))))
 (fun (c351 : Bool) => [.bool c351]) fun c351 =>
 .br 0 c351
 (.done false)
 (.bind2 1
  (.lp (fun (l356 : Int × Int) => Ext.lit .normal [(0, .snap [.sl false 5 (List.map tySHost1.c p0.fNetwork.fHosts), .sl false 9 (List.map tySNat.c p0.fNetwork.fNats), .sl false 9 (List.map tySFlight.c p0.fNetwork.fQueue), .int .i64 p0.fNetwork.fNow, .int .i64 p0.fNetwork.fSerial]), (2, .bool false), (3, .int .i64 l356.1), (59, .sl false 9 (List.map tySFlight.c p0.fNetwork.fQueue)), (60, .int .i64 (mlen tySFlight p0.fNetwork.fQueue)), (61, .int .i64 l356.2)] [])
   (fun l356 =>
    .br 0 (decide (l356.2 < (mlen tySFlight p0.fNetwork.fQueue)))
    (.row 6001 tySFlight p0.fNetwork.fQueue l356.2.toNat (decide (0 ≤ l356.2)) fun x357 =>
     .cnd 7 [74]
     (.br 7006 (decide (x357.fSerial ≤ l356.1))
      (.done true)
      (.call 7008 (s102 p0 x357) [] [] fun r358 =>
       .done (!r358)))
     (fun (c359 : Bool) => [.bool c359]) fun c359 =>
     .br 0 c359
     (.done (.inr (.inl ())))
     (.done (.inl (x357.fSerial, (wi64 (l356.2 + 1))))))
    (.done (.inr (.inr ()))))
   ((-1), 0))
  (fun (_ : Unit) => Ext.lit .ret [(2, .bool false)] [])
  (fun (_ : Unit) => Ext.lit (.exit 0) [(2, .bool false)] [])
  (fun _ =>
   .done false)
  (fun _ =>
   .done true))
theorem k75 (p0 : SCarrier) : FnD Tryd.prog GG [0, 2, 3, 5, 54, 59, 60, 61, 62, 74] Tryd.f75 [.snap [.sl false 5 (List.map tySHost1.c p0.fNetwork.fHosts), .sl false 9 (List.map tySNat.c p0.fNetwork.fNats), .sl false 9 (List.map tySFlight.c p0.fNetwork.fQueue), .int .i64 p0.fNetwork.fNow, .int .i64 p0.fNetwork.fSerial]] (g75 p0) (fun r => .bool r) := by unfold FnD; kernel_rfl
noncomputable def s75 (p0 : SCarrier) : EV.Spec Tryd.prog GG (Bool) := .ofFn 75 mixed Tryd.func75 (k75 p0)
noncomputable def g43 (p0 : SNetwork) : TT (Int) :=
 .view 2002 (s75 (SCarrier.mk p0)) [] fun r362 =>
 .br 0 (!r362)
 (.done 140)
 (.done 0)
theorem k43 (p0 : SNetwork) : FnD Tryd.prog GG [0, 1, 2, 3, 9] Tryd.f43 [.agg [.sl false 5 (List.map tySHost1.c p0.fHosts), .sl false 9 (List.map tySNat.c p0.fNats), .sl false 9 (List.map tySFlight.c p0.fQueue), .int .i64 p0.fNow, .int .i64 p0.fSerial]] (g43 p0) (fun r => .int .i64 r) := by unfold FnD; kernel_rfl
noncomputable def s43 (p0 : SNetwork) : EV.Spec Tryd.prog GG (Int) := .ofFn 43 mixed Tryd.func43 (k43 p0)
end Go.Proofs.YtdiagiflihpidaaDoor
namespace Go.Proofs.YtdiagiflihpidaaDoor
open Go Go.EV
set_option maxRecDepth 100000
noncomputable def g122 (p0 : Int) : TT (Bool) :=
 .done (p0 != p0)
theorem k122 (p0 : Int) : FnD Tryd.prog GG [0, 2] Tryd.f122 [.int .i64 p0] (g122 p0) (fun r => .bool r) := by unfold FnD; kernel_rfl
noncomputable def s122 (p0 : Int) : EV.Spec Tryd.prog GG (Bool) := .ofFn 122 mixed Tryd.func122 (k122 p0)
noncomputable def g103 (p0 : Int) (p1 : Int) : TT (Int) :=
 .call 1002 (s122 p0) [] [] fun r366 =>
 .call 2002 (s122 p1) [] [] fun r367 =>
 .br 0 r366
 (.br 0 r367
  (.done 0)
  (.done (-1)))
 (.br 0 r367
  (.done 1)
  (.br 0 (decide (p0 < p1))
   (.done (-1))
   (.br 0 (decide (p1 < p0))
    (.done 1)
    (.done 0))))
theorem k103 (p0 : Int) (p1 : Int) : FnD Tryd.prog GG [0, 1, 4, 5, 6, 11, 12, 13, 16, 19] Tryd.f103 [.int .i64 p0, .int .i64 p1] (g103 p0 p1) (fun r => .int .i64 r) := by unfold FnD; kernel_rfl
noncomputable def s103 (p0 : Int) (p1 : Int) : EV.Spec Tryd.prog GG (Int) := .ofFn 103 mixed Tryd.func103 (k103 p0 p1)
noncomputable def g76 (p0 : SCarrier) : TT (Int) :=
 .bind 1
 (.lp (fun (l371 : Int × Int) => Ext.lit .normal [(0, .snap [.sl false 5 (List.map tySHost1.c p0.fNetwork.fHosts), .sl false 9 (List.map tySNat.c p0.fNetwork.fNats), .sl false 9 (List.map tySFlight.c p0.fNetwork.fQueue), .int .i64 p0.fNetwork.fNow, .int .i64 p0.fNetwork.fSerial]), (2, .int .i64 0), (3, .int .i64 l371.1), (10, .sl false 9 (List.map tySFlight.c p0.fNetwork.fQueue)), (11, .int .i64 (mlen tySFlight p0.fNetwork.fQueue)), (12, .int .i64 l371.2)] [])
  (fun l371 =>
   .br 0 (decide (l371.2 < (mlen tySFlight p0.fNetwork.fQueue)))
   (.row 4002 tySFlight p0.fNetwork.fQueue l371.2.toNat (decide (0 ≤ l371.2)) fun x372 =>
    .row 5009 tySFlight p0.fNetwork.fQueue l371.1.toNat (decide (0 ≤ l371.1)) fun x373 =>
    .call 5012 (s103 x372.fDue x373.fDue) [] [] fun r374 =>
    .br 0 (decide (r374 < 0))
    (.done (.inl (l371.2, (wi64 (l371.2 + 1)))))
    (.done (.inl (l371.1, (wi64 (l371.2 + 1))))))
   (.done (.inr l371.1)))
  (0, 0))
 (fun (e375 : Int) => Ext.lit (.exit 0) [(2, .int .i64 0), (3, .int .i64 e375)] [])
 (fun e375 =>
  .done e375)
theorem k76 (p0 : SCarrier) : FnD Tryd.prog GG [0, 2, 3, 4, 5, 10, 11, 12, 13, 29] Tryd.f76 [.snap [.sl false 5 (List.map tySHost1.c p0.fNetwork.fHosts), .sl false 9 (List.map tySNat.c p0.fNetwork.fNats), .sl false 9 (List.map tySFlight.c p0.fNetwork.fQueue), .int .i64 p0.fNetwork.fNow, .int .i64 p0.fNetwork.fSerial]] (g76 p0) (fun r => .int .i64 r) := by unfold FnD; kernel_rfl
noncomputable def s76 (p0 : SCarrier) : EV.Spec Tryd.prog GG (Int) := .ofFn 76 mixed Tryd.func76 (k76 p0)
noncomputable def g91 (p0 : (List SHost1)) : TT Unit := .app 3003 tySHost1 [] p0 48 true (by intros; rfl) (.done ())
theorem k91y : Piece Tryd.prog GG [2] 8 (cloneYes Tryd.f91.body) (Ext.lit .normal [(2, .nilsl)] []) (.done () : TT Unit) (fun _ => Ext.lit .ret [(2, .nilsl)] []) := by unfold Piece; kernel_rfl
theorem k91r (p0 : (List SHost1)) : Piece Tryd.prog GG [0, 2, 5, 6, 7] 8 (cloneRest Tryd.f91.body) (Ext.lit .normal [(0, .sl false 5 (List.map tySHost1.c p0)), (2, .nilsl)] []) (g91 p0) (fun _ => Ext.of .ret [(2, .ref 7 0 ([] ++ p0).length)] [] [BT.of 7 tySHost1 5 ([] ++ p0)] (by rfl)) := by unfold Piece; kernel_rfl
theorem k91 (p0 : (List SHost1)) {r : Unit} (h : (g91 p0).run = some r) : CallC Tryd.prog GG 91 [.sl false 5 (List.map tySHost1.c p0)] (ofL []) (.ref 7 0 p0.length) (ofL [(7, ⟨5, true, List.map tySHost1.c p0⟩)]) :=
 clone_ok (ty := tySHost1) (ops0 := cloneOps0 Tryd.f91.body) (ops1 := cloneOps1 Tryd.f91.body) (yes := cloneYes Tryd.f91.body) (rest := cloneRest Tryd.f91.body) (t := 73) mixed (by decide) Tryd.func91 (by kernel_rfl) (by kernel_rfl) (by kernel_rfl) (by kernel_rfl) (by kernel_rfl) (by kernel_rfl) (by kernel_rfl) (by kernel_rfl) (by kernel_rfl) k91y (k91r p0) (by rfl) h
noncomputable def s91 (p0 : (List SHost1)) : EV.Spec Tryd.prog GG Unit := ⟨91, [.sl false 5 (List.map tySHost1.c p0)], [], (g91 p0).run, fun _ => .ref 7 0 p0.length, fun _ => [(7, ⟨5, true, List.map tySHost1.c p0⟩)], [7], fun _ p hp _ => by
 rw [List.mem_singleton.1 hp]; exact tySHost1.data _, fun _ h => k91 p0 h⟩
noncomputable def g92 (p0 : (List SNat)) : TT Unit := .app 3003 tySNat [] p0 96 true (by intros; rfl) (.done ())
theorem k92y : Piece Tryd.prog GG [2] 8 (cloneYes Tryd.f92.body) (Ext.lit .normal [(2, .nilsl)] []) (.done () : TT Unit) (fun _ => Ext.lit .ret [(2, .nilsl)] []) := by unfold Piece; kernel_rfl
theorem k92r (p0 : (List SNat)) : Piece Tryd.prog GG [0, 2, 5, 6, 7] 8 (cloneRest Tryd.f92.body) (Ext.lit .normal [(0, .sl false 9 (List.map tySNat.c p0)), (2, .nilsl)] []) (g92 p0) (fun _ => Ext.of .ret [(2, .ref 7 0 ([] ++ p0).length)] [] [BT.of 7 tySNat 9 ([] ++ p0)] (by rfl)) := by unfold Piece; kernel_rfl
theorem k92 (p0 : (List SNat)) {r : Unit} (h : (g92 p0).run = some r) : CallC Tryd.prog GG 92 [.sl false 9 (List.map tySNat.c p0)] (ofL []) (.ref 7 0 p0.length) (ofL [(7, ⟨9, true, List.map tySNat.c p0⟩)]) :=
 clone_ok (ty := tySNat) (ops0 := cloneOps0 Tryd.f92.body) (ops1 := cloneOps1 Tryd.f92.body) (yes := cloneYes Tryd.f92.body) (rest := cloneRest Tryd.f92.body) (t := 74) mixed (by decide) Tryd.func92 (by kernel_rfl) (by kernel_rfl) (by kernel_rfl) (by kernel_rfl) (by kernel_rfl) (by kernel_rfl) (by kernel_rfl) (by kernel_rfl) (by kernel_rfl) k92y (k92r p0) (by rfl) h
noncomputable def s92 (p0 : (List SNat)) : EV.Spec Tryd.prog GG Unit := ⟨92, [.sl false 9 (List.map tySNat.c p0)], [], (g92 p0).run, fun _ => .ref 7 0 p0.length, fun _ => [(7, ⟨9, true, List.map tySNat.c p0⟩)], [7], fun _ p hp _ => by
 rw [List.mem_singleton.1 hp]; exact tySNat.data _, fun _ h => k92 p0 h⟩
noncomputable def g93 (p0 : (List SFlight)) : TT Unit := .app 3003 tySFlight [] p0 96 true (by intros; rfl) (.done ())
theorem k93y : Piece Tryd.prog GG [2] 8 (cloneYes Tryd.f93.body) (Ext.lit .normal [(2, .nilsl)] []) (.done () : TT Unit) (fun _ => Ext.lit .ret [(2, .nilsl)] []) := by unfold Piece; kernel_rfl
theorem k93r (p0 : (List SFlight)) : Piece Tryd.prog GG [0, 2, 5, 6, 7] 8 (cloneRest Tryd.f93.body) (Ext.lit .normal [(0, .sl false 9 (List.map tySFlight.c p0)), (2, .nilsl)] []) (g93 p0) (fun _ => Ext.of .ret [(2, .ref 7 0 ([] ++ p0).length)] [] [BT.of 7 tySFlight 9 ([] ++ p0)] (by rfl)) := by unfold Piece; kernel_rfl
theorem k93 (p0 : (List SFlight)) {r : Unit} (h : (g93 p0).run = some r) : CallC Tryd.prog GG 93 [.sl false 9 (List.map tySFlight.c p0)] (ofL []) (.ref 7 0 p0.length) (ofL [(7, ⟨9, true, List.map tySFlight.c p0⟩)]) :=
 clone_ok (ty := tySFlight) (ops0 := cloneOps0 Tryd.f93.body) (ops1 := cloneOps1 Tryd.f93.body) (yes := cloneYes Tryd.f93.body) (rest := cloneRest Tryd.f93.body) (t := 75) mixed (by decide) Tryd.func93 (by kernel_rfl) (by kernel_rfl) (by kernel_rfl) (by kernel_rfl) (by kernel_rfl) (by kernel_rfl) (by kernel_rfl) (by kernel_rfl) (by kernel_rfl) k93y (k93r p0) (by rfl) h
noncomputable def s93 (p0 : (List SFlight)) : EV.Spec Tryd.prog GG Unit := ⟨93, [.sl false 9 (List.map tySFlight.c p0)], [], (g93 p0).run, fun _ => .ref 7 0 p0.length, fun _ => [(7, ⟨9, true, List.map tySFlight.c p0⟩)], [7], fun _ p hp _ => by
 rw [List.mem_singleton.1 hp]; exact tySFlight.data _, fun _ h => k93 p0 h⟩
noncomputable def g67 (p0 : SNetwork) : TT ((Unit) ⊕ (Unit)) :=
 .view 2002 (s75 (SCarrier.mk p0)) [] fun r376 =>
 .br 0 (!r376)
 (.done (.inl ()))
 (.call 4006 (s91 p0.fHosts) [] [(7, 500100)] fun _ =>
  .call 4009 (s92 p0.fNats) [] [(7, 500101)] fun _ =>
  .call 4012 (s93 p0.fQueue) [] [(7, 500102)] fun _ =>
  .done (.inr ()))
theorem k67 (p0 : SNetwork) : FnB Tryd.prog GG [0, 1, 2, 3, 4, 10] Tryd.f67 [.agg [.sl false 5 (List.map tySHost1.c p0.fHosts), .sl false 9 (List.map tySNat.c p0.fNats), .sl false 9 (List.map tySFlight.c p0.fQueue), .int .i64 p0.fNow, .int .i64 p0.fSerial]] (Ext.of .normal (argTs [.agg [.sl false 5 (List.map tySHost1.c p0.fHosts), .sl false 9 (List.map tySNat.c p0.fNats), .sl false 9 (List.map tySFlight.c p0.fQueue), .int .i64 p0.fNow, .int .i64 p0.fSerial]]) [] [] (by rfl)) (g67 p0) (Sum.elim (fun (_ : Unit) => .tup [.nilp, .int .i64 140]) (fun (_ : Unit) => .tup [.ptr 7 0 0, .int .i64 0])) (Sum.elim (fun (_ : Unit) => Ext.of .normal [] [] [] (by rfl)) (fun (_ : Unit) => Ext.of .normal [] [(7, ⟨5, true, [[.ref 500100 0 p0.fHosts.length, .ref 500101 0 p0.fNats.length, .ref 500102 0 p0.fQueue.length, .int .i64 p0.fNow, .int .i64 p0.fSerial]]⟩)] [BT.of 500100 tySHost1 5 p0.fHosts true, BT.of 500101 tySNat 9 p0.fNats true, BT.of 500102 tySFlight 9 p0.fQueue true] (by rfl))) := by unfold FnB; kernel_rfl
noncomputable def s67 (p0 : SNetwork) : EV.Spec Tryd.prog GG ((Unit) ⊕ (Unit)) := .ofFnB 67 [500100, 500101, 500102] mixed Tryd.func67 rfl (fun r => by cases r <;> rfl) (k67 p0)
noncomputable def g47 (p0 : SNetwork) : TT (Int × Int) :=
 .call2 1002 (s67 p0) [] [(7, 500103), (500100, 500104), (500101, 500105), (500102, 500106)] (fun _ =>
  .tt (.done (0, 140)))
 (fun _ =>
  .ff (.br 0 ((p0.fQueue.length : Int) == 0)
  (.done (0, 4))
  (.view 6007 (s76 (SCarrier.mk p0)) [(VwW.of 500104 tySHost1 p0.fHosts), (VwW.of 500105 tySNat p0.fNats), (VwW.of 500106 tySFlight p0.fQueue)] fun r382 =>
   .chk 6008 (decide (0 ≤ r382) && decide (r382 < (p0.fQueue.length : Int))) (.row 6010 tySFlight p0.fQueue (0 + r382.toNat) true fun x383 =>
   .done (x383.fDue, 0)))))
theorem k47 (p0 : SNetwork) : FnD Tryd.prog GG [0, 1, 2, 3, 4, 5, 12, 20] Tryd.f47 [.agg [.sl false 5 (List.map tySHost1.c p0.fHosts), .sl false 9 (List.map tySNat.c p0.fNats), .sl false 9 (List.map tySFlight.c p0.fQueue), .int .i64 p0.fNow, .int .i64 p0.fSerial]] (g47 p0) (fun r => .tup [.int .i64 r.1, .int .i64 r.2]) := by unfold FnD; kernel_rfl
noncomputable def s47 (p0 : SNetwork) : EV.Spec Tryd.prog GG (Int × Int) := .ofFn 47 mixed Tryd.func47 (k47 p0)
noncomputable def g120 (p0 : SHost1) (p1 : SPlace) : TT (Bool) :=
 .done ((p0.fNat == p1.fnat) && ((decide (p0.fIp = p1.fip)) && true))
theorem k120 (p0 : SHost1) (p1 : SPlace) : FnD Tryd.prog GG [0, 1, 2, 3] Tryd.f120 [.agg [.str p0.fIp, .int .i64 p0.fNat, .int .i64 p0.fDelay, .int .i64 p0.fLose, .int .i64 p0.fCount], .snap [.int .i64 p1.fnat, .str p1.fip]] (g120 p0 p1) (fun r => .bool r) := by unfold FnD; kernel_rfl
noncomputable def s120 (p0 : SHost1) (p1 : SPlace) : EV.Spec Tryd.prog GG (Bool) := .ofFn 120 mixed Tryd.func120 (k120 p0 p1)
noncomputable def g119 (p0 : (List SHost1)) (p1 : SPlace) : TT (Int) :=
 .bind2 1
 (.lp (fun (l407 : Int) => Ext.lit .normal [(0, .sl false 5 (List.map tySHost1.c p0)), (1, .fn 120 [] [.snap [.int .i64 p1.fnat, .str p1.fip]]), (4, .int .i64 0), (7, .int .i64 (mlen tySHost1 p0)), (8, .int .i64 l407)] [])
  (fun l407 =>
   .br 0 (decide (l407 < (mlen tySHost1 p0)))
   (.row 4004 tySHost1 p0 l407.toNat (decide (0 ≤ l407)) fun x408 =>
    .call 4006 (s120 x408 p1) [] [] fun r409 =>
    .br 0 r409
    (.done (.inr (.inl l407)))
    (.done (.inl (wi64 (l407 + 1)))))
   (.done (.inr (.inr ()))))
  0)
 (fun (e410 : Int) => Ext.lit .ret [(4, .int .i64 e410)] [])
 (fun (_ : Unit) => Ext.lit (.exit 0) [(4, .int .i64 0)] [])
 (fun e410 =>
  .done e410)
 (fun _ =>
  .done (-1))
theorem k119 (p0 : (List SHost1)) (p1 : SPlace) : FnD Tryd.prog GG [0, 1, 4, 5, 7, 8, 9, 16] Tryd.f119 [.sl false 5 (List.map tySHost1.c p0), .fn 120 [] [.snap [.int .i64 p1.fnat, .str p1.fip]]] (g119 p0 p1) (fun r => .int .i64 r) := by unfold FnD; kernel_rfl
noncomputable def s119 (p0 : (List SHost1)) (p1 : SPlace) : EV.Spec Tryd.prog GG (Int) := .ofFn 119 mixed Tryd.func119 (k119 p0 p1)
noncomputable def g95 (p0 : SCarrier) (p1 : SPlace) : TT (Int) :=
 .view 1007 (s119 p0.fNetwork.fHosts p1) [] fun r412 =>
 .done r412
theorem k95 (p0 : SCarrier) (p1 : SPlace) : FnD Tryd.prog GG [0, 1, 3, 4] Tryd.f95 [.snap [.sl false 5 (List.map tySHost1.c p0.fNetwork.fHosts), .sl false 9 (List.map tySNat.c p0.fNetwork.fNats), .sl false 9 (List.map tySFlight.c p0.fNetwork.fQueue), .int .i64 p0.fNetwork.fNow, .int .i64 p0.fNetwork.fSerial], .agg [.int .i64 p1.fnat, .str p1.fip]] (g95 p0 p1) (fun r => .int .i64 r) := by unfold FnD; kernel_rfl
noncomputable def s95 (p0 : SCarrier) (p1 : SPlace) : EV.Spec Tryd.prog GG (Int) := .ofFn 95 mixed Tryd.func95 (k95 p0 p1)
noncomputable def g70 (p0 : Int) (p1 : Int) (p2 : SAddr) (p3 : ByteArray) (p4 : Int) (p5 : Int) (p6 : (List SHost1)) (p7 : (List SNat)) (p8 : (List SFlight)) : TT ((List SFlight) × Int × (List SNat) × (List SHost1)) :=
 .chk 1007 (decide (0 ≤ p0) && decide (p0 < (p6.length : Int))) (.row 2004 tySHost1 p6 (0 + p0.toNat) true fun x394 =>
 .row 2008 tySHost1 p6 (0 + p0.toNat) true fun x395 =>
 .re 2008 (ReW.put 1000001 5 tySHost1 p6 (0 + p0.toNat) (SHost1.mk x395.fIp x395.fNat x395.fDelay x395.fLose (wi64 (x394.fCount + 1)))) (.gh 5 (.len 1000001 ((p6.set (0 + p0.toNat) (SHost1.mk x395.fIp x395.fNat x395.fDelay x395.fLose (wi64 (x394.fCount + 1)))).length) [p6.length] (by simp)) (.cnd 3 [45]
 (.row 3004 tySHost1 (p6.set (0 + p0.toNat) (SHost1.mk x395.fIp x395.fNat x395.fDelay x395.fLose (wi64 (x394.fCount + 1)))) (0 + p0.toNat) true fun x396 =>
  .br 3007 (decide ((0 : Int) < x396.fLose))
  (.row 3010 tySHost1 (p6.set (0 + p0.toNat) (SHost1.mk x395.fIp x395.fNat x395.fDelay x395.fLose (wi64 (x394.fCount + 1)))) (0 + p0.toNat) true fun x397 =>
   .row 3014 tySHost1 (p6.set (0 + p0.toNat) (SHost1.mk x395.fIp x395.fNat x395.fDelay x395.fLose (wi64 (x394.fCount + 1)))) (0 + p0.toNat) true fun x398 =>
   .chk 3015 (!(x398.fLose == 0)) (.done ((Int.tmod x397.fCount x398.fLose) == 0)))
  (.done false))
 (fun (c399 : Bool) => [.bool c399]) fun c399 =>
 .br 0 c399
 (.gh 0 (.ren 1000003 660000) (.done (p8, p5, p7, (p6.set (0 + p0.toNat) (SHost1.mk x395.fIp x395.fNat x395.fDelay x395.fLose (wi64 (x394.fCount + 1)))))))
 (.row 4009 tySHost1 (p6.set (0 + p0.toNat) (SHost1.mk x395.fIp x395.fNat x395.fDelay x395.fLose (wi64 (x394.fCount + 1)))) (0 + p0.toNat) true fun x400 =>
  .row 4019 tySHost1 (p6.set (0 + p0.toNat) (SHost1.mk x395.fIp x395.fNat x395.fDelay x395.fLose (wi64 (x394.fCount + 1)))) (0 + p0.toNat) true fun x401 =>
  .bind2 0
  (.row 8004 tySHost1 (p6.set (0 + p0.toNat) (SHost1.mk x395.fIp x395.fNat x395.fDelay x395.fLose (wi64 (x394.fCount + 1)))) (0 + p0.toNat) true fun x402 =>
   .br 0 (decide (x402.fNat < 0))
   (.done (.inl ((-1), (-1), x401.fIp, p1, p7)))
   (.row 9005 tySHost1 (p6.set (0 + p0.toNat) (SHost1.mk x395.fIp x395.fNat x395.fDelay x395.fLose (wi64 (x394.fCount + 1)))) (0 + p0.toNat) true fun x403 =>
    .view 9009 (s95 (SCarrier.mk (SNetwork.mk (p6.set (0 + p0.toNat) (SHost1.mk x395.fIp x395.fNat x395.fDelay x395.fLose (wi64 (x394.fCount + 1)))) p7 p8 p4 p5)) (SPlace.mk x403.fNat p2.fHost)) [(VwW.of 1000001 tySHost1 (p6.set (0 + p0.toNat) (SHost1.mk x395.fIp x395.fNat x395.fDelay x395.fLose (wi64 (x394.fCount + 1))))), (VwW.of 1000002 tySNat p7), (VwW.of 1000003 tySFlight p8)] fun r404 =>
    .br 0 (decide ((0 : Int) ≤ r404))
    (.row 10004 tySHost1 (p6.set (0 + p0.toNat) (SHost1.mk x395.fIp x395.fNat x395.fDelay x395.fLose (wi64 (x394.fCount + 1)))) (0 + p0.toNat) true fun x405 =>
     .done (.inl ((-1), x405.fNat, x401.fIp, p1, p7)))
    (.row 5009 tySHost1 (p6.set (0 + p0.toNat) (SHost1.mk x395.fIp x395.fNat x395.fDelay x395.fLose (wi64 (x394.fCount + 1)))) (0 + p0.toNat) true fun x406 =>
     .chk 5010 (decide (0 ≤ x406.fNat) && decide (x406.fNat < (p7.length : Int))) (.row 5011 tySNat p7 (0 + x406.fNat.toNat) true fun x407 =>
     .call 5020 (s25 x407 p4 (SAddr.mk x401.fIp p1) p2) [] [] fun r408 =>
     .br 0 (r408.2.2 != 0)
     (.done (.inr ()))
     (.row 7009 tySHost1 (p6.set (0 + p0.toNat) (SHost1.mk x395.fIp x395.fNat x395.fDelay x395.fLose (wi64 (x394.fCount + 1)))) (0 + p0.toNat) true fun x409 =>
      .row 7014 tySHost1 (p6.set (0 + p0.toNat) (SHost1.mk x395.fIp x395.fNat x395.fDelay x395.fLose (wi64 (x394.fCount + 1)))) (0 + p0.toNat) true fun x410 =>
      .chk 7016 (decide (0 ≤ x409.fNat) && decide (x409.fNat < (p7.length : Int))) (.row 7017 tySNat p7 (0 + x409.fNat.toNat) true fun x411 =>
      .re 7017 (ReW.put 1000002 9 tySNat p7 (0 + x409.fNat.toNat) r408.1) (.gh 0 (.len 1000002 ((p7.set (0 + x409.fNat.toNat) r408.1).length) [p7.length] (by simp)) (.done (.inl (x410.fNat, (-1), r408.2.1.fHost, r408.2.1.fPort, (p7.set (0 + x409.fNat.toNat) r408.1)))))))))))
  (fun (e412 : Int × Int × ByteArray × Int × (List SNat)) => Ext.of .normal [(0, .ptr 1000000 0 0), (11, .ptr 11 0 0)] [(11, ⟨9, true, [[.int .i64 (wi64 (p4 + x400.fDelay)), .int .i64 p5, .int .i64 e412.1, .int .i64 e412.2.1, .str e412.2.2.1, .int .i64 e412.2.2.2.1, .str p2.fHost, .int .i64 p2.fPort, .str p3]]⟩), (1000000, ⟨5, true, [[.ref 1000001 0 ((p6.set (0 + p0.toNat) (SHost1.mk x395.fIp x395.fNat x395.fDelay x395.fLose (wi64 (x394.fCount + 1)))).length), .ref 1000002 0 e412.2.2.2.2.length, .ref 1000003 0 p8.length, .int .i64 p4, .int .i64 p5]]⟩)] [BT.of 1000001 tySHost1 5 (p6.set (0 + p0.toNat) (SHost1.mk x395.fIp x395.fNat x395.fDelay x395.fLose (wi64 (x394.fCount + 1)))) true, BT.of 1000002 tySNat 9 e412.2.2.2.2 true, BT.of 1000003 tySFlight 9 p8 true] (by rfl))
  (fun (e413 : Unit) => Ext.of .ret [(0, .ptr 1000000 0 0), (11, .ptr 11 0 0)] [(11, ⟨9, true, [[.int .i64 (wi64 (p4 + x400.fDelay)), .int .i64 p5, .int .i64 (-1), .int .i64 (-1), .str x401.fIp, .int .i64 p1, .str p2.fHost, .int .i64 p2.fPort, .str p3]]⟩), (1000000, ⟨5, true, [[.ref 1000001 0 ((p6.set (0 + p0.toNat) (SHost1.mk x395.fIp x395.fNat x395.fDelay x395.fLose (wi64 (x394.fCount + 1)))).length), .ref 1000002 0 p7.length, .ref 1000003 0 p8.length, .int .i64 p4, .int .i64 p5]]⟩)] [BT.of 1000001 tySHost1 5 (p6.set (0 + p0.toNat) (SHost1.mk x395.fIp x395.fNat x395.fDelay x395.fLose (wi64 (x394.fCount + 1)))) true, BT.of 1000002 tySNat 9 p7 true, BT.of 1000003 tySFlight 9 p8 true] (by rfl))
  (fun e412 =>
   .cnd 11 [147]
   (.br 11009 ((p8.length : Int) == 64)
    (.done true)
    (.done (decide ((1099511627776 : Int) < (wi64 (p4 + x400.fDelay))))))
   (fun (c414 : Bool) => [.bool c414]) fun c414 =>
   .br 0 c414
   (.gh 0 (.ren 1000003 660000) (.done (p8, p5, e412.2.2.2.2, (p6.set (0 + p0.toNat) (SHost1.mk x395.fIp x395.fNat x395.fDelay x395.fLose (wi64 (x394.fCount + 1)))))))
   (.app 12009 tySFlight p8 [(SFlight.mk (wi64 (p4 + x400.fDelay)) p5 e412.1 e412.2.1 (SAddr.mk e412.2.2.1 e412.2.2.2.1) p2 p3)] 96 false (by intro h; cases h) (.gh 0 (.ren 156 660000) (.done ((p8 ++ [(SFlight.mk (wi64 (p4 + x400.fDelay)) p5 e412.1 e412.2.1 (SAddr.mk e412.2.2.1 e412.2.2.2.1) p2 p3)]), (wi64 (p5 + 1)), e412.2.2.2.2, (p6.set (0 + p0.toNat) (SHost1.mk x395.fIp x395.fNat x395.fDelay x395.fLose (wi64 (x394.fCount + 1)))))))))
  (fun e413 =>
   .gh 0 (.ren 1000003 660000) (.done (p8, p5, p7, (p6.set (0 + p0.toNat) (SHost1.mk x395.fIp x395.fNat x395.fDelay x395.fLose (wi64 (x394.fCount + 1)))))))))))
theorem k70 (p0 : Int) (p1 : Int) (p2 : SAddr) (p3 : ByteArray) (p4 : Int) (p5 : Int) (p6 : (List SHost1)) (p7 : (List SNat)) (p8 : (List SFlight)) : FnB Tryd.prog GG [0, 1, 2, 3, 4, 8, 10, 11, 12, 13, 14, 45, 95, 114, 120, 147] Tryd.f70 [.ptr 1000000 0 0, .int .i64 p0, .int .i64 p1, .agg [.str p2.fHost, .int .i64 p2.fPort], .str p3] (Ext.of .normal (argTs [.ptr 1000000 0 0, .int .i64 p0, .int .i64 p1, .agg [.str p2.fHost, .int .i64 p2.fPort], .str p3]) [(1000000, ⟨5, true, [[.ref 1000001 0 p6.length, .ref 1000002 0 p7.length, .ref 1000003 0 p8.length, .int .i64 p4, .int .i64 p5]]⟩)] [BT.of 1000001 tySHost1 5 p6 true, BT.of 1000002 tySNat 9 p7 true, BT.of 1000003 tySFlight 9 p8 true] (by rfl)) (g70 p0 p1 p2 p3 p4 p5 p6 p7 p8) (fun (_ : (List SFlight) × Int × (List SNat) × (List SHost1)) => .tup []) (fun (r : (List SFlight) × Int × (List SNat) × (List SHost1)) => Ext.of .normal [] [(1000000, ⟨5, true, [[.ref 1000001 0 r.2.2.2.length, .ref 1000002 0 r.2.2.1.length, .ref 660000 0 r.1.length, .int .i64 p4, .int .i64 r.2.1]]⟩)] [BT.of 660000 tySFlight 9 r.1 true, BT.of 1000001 tySHost1 5 r.2.2.2 true, BT.of 1000002 tySNat 9 r.2.2.1 true] (by rfl)) := by unfold FnB; kernel_rfl
noncomputable def s70 (p0 : Int) (p1 : Int) (p2 : SAddr) (p3 : ByteArray) (p4 : Int) (p5 : Int) (p6 : (List SHost1)) (p7 : (List SNat)) (p8 : (List SFlight)) : EV.Spec Tryd.prog GG ((List SFlight) × Int × (List SNat) × (List SHost1)) := .ofFnB 70 [660000, 1000001, 1000002] mixed Tryd.func70 rfl (fun _ => rfl) (k70 p0 p1 p2 p3 p4 p5 p6 p7 p8)
noncomputable def g40 (p0 : SNetwork) (p1 : Int) (p2 : Int) (p3 : Int) (p4 : SAddr) (p5 : ByteArray) : TT (SNetwork × Int) :=
 .call2 1002 (s67 p0) [] [(7, 500107), (500100, 500108), (500101, 500109), (500102, 500110)] (fun _ =>
  .tt (.done ((SNetwork.mk [] [] [] 0 0), 140)))
 (fun _ =>
  .ff (.cnd 4 [26]
  (.call 4004 (s68 p1 p0.fNow 1099511627776) [] [] fun r386 =>
   .br 4007 (!r386)
   (.done true)
   (.call 4012 (s68 p2 0 (wi64 ((mlen tySHost1 p0.fHosts) - 1))) [] [] fun r387 =>
    .br 4016 (!r387)
    (.done true)
    (.call 4017 (s68 p3 1 65535) [] [] fun r388 =>
     .br 4021 (!r388)
     (.done true)
     (.view 4023 (s69 (SCarrier.mk p0) p4) [(VwW.of 500108 tySHost1 p0.fHosts), (VwW.of 500109 tySNat p0.fNats), (VwW.of 500110 tySFlight p0.fQueue)] fun r389 =>
      .done (!r389)))))
  (fun (c390 : Bool) => [.bool c390]) fun c390 =>
  .br 0 c390
  (.done ((SNetwork.mk [] [] [] 0 0), 2))
  (.br 0 (decide ((1200 : Int) < (p5.size : Int)))
   (.done ((SNetwork.mk [] [] [] 0 0), 3))
   (.cnd 8 [58]
    (.br 8005 (p0.fSerial == 1099511627776)
     (.done true)
     (.row 8008 tySHost1 p0.fHosts p2.toNat (decide (0 ≤ p2)) fun x391 =>
      .done (x391.fCount == 1099511627776)))
    (fun (c392 : Bool) => [.bool c392]) fun c392 =>
    .br 0 c392
    (.done ((SNetwork.mk [] [] [] 0 0), 6))
    (.call 11006 (s70 p2 p3 (SAddr.mk p4.fHost p4.fPort) p5 p1 p0.fSerial p0.fHosts p0.fNats p0.fQueue) [(1000000, 500107), (1000001, 500108), (1000002, 500109), (1000003, 500110)] [(660000, 500111)] fun r415 =>
     .gh 0 (.share (VwW.of 500108 tySHost1 r415.2.2.2) 1) (.gh 0 (.share (VwW.of 500109 tySNat r415.2.2.1) 1) (.gh 0 (.share (VwW.of 500111 tySFlight r415.1) 1) (.done ((SNetwork.mk r415.2.2.2 r415.2.2.1 r415.1 p1 r415.2.1), 0)))))))))
theorem k40 (p0 : SNetwork) (p1 : Int) (p2 : Int) (p3 : Int) (p4 : SAddr) (p5 : ByteArray) : FnD Tryd.prog GG [0, 1, 2, 3, 4, 5, 6, 10, 12, 13, 14, 15, 21, 26, 53, 58] Tryd.f40 [.agg [.sl false 5 (List.map tySHost1.c p0.fHosts), .sl false 9 (List.map tySNat.c p0.fNats), .sl false 9 (List.map tySFlight.c p0.fQueue), .int .i64 p0.fNow, .int .i64 p0.fSerial], .int .i64 p1, .int .i64 p2, .int .i64 p3, .agg [.str p4.fHost, .int .i64 p4.fPort], .str p5] (g40 p0 p1 p2 p3 p4 p5) (fun r => .tup [.agg [.sl false 5 (List.map tySHost1.c r.1.fHosts), .sl false 9 (List.map tySNat.c r.1.fNats), .sl false 9 (List.map tySFlight.c r.1.fQueue), .int .i64 r.1.fNow, .int .i64 r.1.fSerial], .int .i64 r.2]) := by unfold FnD; kernel_rfl
noncomputable def s40 (p0 : SNetwork) (p1 : Int) (p2 : Int) (p3 : Int) (p4 : SAddr) (p5 : ByteArray) : EV.Spec Tryd.prog GG (SNetwork × Int) := .ofFn 40 mixed Tryd.func40 (k40 p0 p1 p2 p3 p4 p5)
end Go.Proofs.YtdiagiflihpidaaDoor
namespace Go.Proofs.YtdiagiflihpidaaDoor
open Go Go.EV
set_option maxRecDepth 100000
noncomputable def g78 (p0 : SNetwork) : TT ((List SHost1) × (List SNat) × (List SFlight)) :=
 .app 4004 tySHost1 [] p0.fHosts 48 true (by intros; rfl) (.app 4008 tySNat [] p0.fNats 96 true (by intros; rfl) (.app 4012 tySFlight [] p0.fQueue 96 true (by intros; rfl) (.done (([] ++ p0.fHosts), ([] ++ p0.fNats), ([] ++ p0.fQueue)))))
theorem k78 (p0 : SNetwork) : FnB Tryd.prog GG [0, 1, 2, 3, 4, 5] Tryd.f78 [.agg [.sl false 5 (List.map tySHost1.c p0.fHosts), .sl false 9 (List.map tySNat.c p0.fNats), .sl false 9 (List.map tySFlight.c p0.fQueue), .int .i64 p0.fNow, .int .i64 p0.fSerial]] (Ext.of .normal (argTs [.agg [.sl false 5 (List.map tySHost1.c p0.fHosts), .sl false 9 (List.map tySNat.c p0.fNats), .sl false 9 (List.map tySFlight.c p0.fQueue), .int .i64 p0.fNow, .int .i64 p0.fSerial]]) [] [] (by rfl)) (g78 p0) (fun (r : (List SHost1) × (List SNat) × (List SFlight)) => .agg [.ref 9 0 r.1.length, .ref 13 0 r.2.1.length, .ref 17 0 r.2.2.length, .int .i64 p0.fNow, .int .i64 p0.fSerial]) (fun (r : (List SHost1) × (List SNat) × (List SFlight)) => Ext.of .normal [] [] [BT.of 9 tySHost1 5 r.1 true, BT.of 13 tySNat 9 r.2.1 true, BT.of 17 tySFlight 9 r.2.2 true] (by rfl)) := by unfold FnB; kernel_rfl
noncomputable def s78 (p0 : SNetwork) : EV.Spec Tryd.prog GG ((List SHost1) × (List SNat) × (List SFlight)) := .ofFnB 78 [9, 13, 17] mixed Tryd.func78 rfl (fun _ => rfl) (k78 p0)
end Go.Proofs.YtdiagiflihpidaaDoor
namespace Go.Proofs.YtdiagiflihpidaaDoor
open Go Go.EV
set_option maxRecDepth 100000
structure SDelivery where
 fHost : Int
 fFrom : SAddr
 fTo : SAddr
 fData : ByteArray
def tySDelivery : Ty SDelivery := ⟨fun x => [.int .i64 x.fHost, .str x.fFrom.fHost, .int .i64 x.fFrom.fPort, .str x.fTo.fHost, .int .i64 x.fTo.fPort, .str x.fData], fun x => [.int .i64 x.fHost, .str x.fFrom.fHost, .int .i64 x.fFrom.fPort, .str x.fTo.fHost, .int .i64 x.fTo.fPort, .str x.fData], fun _ => rfl, fun _ => rfl, fun _ _ => rfl, fun _ => rfl⟩
noncomputable def g45 (p0 : (List SDelivery)) (p1 : (List SDelivery)) : TT (Bool) :=
 .br 0 ((mlen tySDelivery p0) != (mlen tySDelivery p1))
 (.done false)
 (.bind2 1
  (.lp (fun (l580 : Int) => Ext.lit .normal [(0, .sl false 6 (List.map tySDelivery.c p0)), (1, .sl false 6 (List.map tySDelivery.c p1)), (4, .bool false), (12, .int .i64 (mlen tySDelivery p0)), (13, .int .i64 l580)] [])
   (fun l580 =>
    .br 0 (decide (l580 < (mlen tySDelivery p0)))
    (.row 6003 tySDelivery p0 l580.toNat (decide (0 ≤ l580)) fun x581 =>
     .row 6007 tySDelivery p1 l580.toNat (decide (0 ≤ l580)) fun x582 =>
     .br 0 (!((x581.fHost == x582.fHost) && ((decide (x581.fFrom.fHost = x582.fFrom.fHost)) && ((x581.fFrom.fPort == x582.fFrom.fPort) && ((decide (x581.fTo.fHost = x582.fTo.fHost)) && ((x581.fTo.fPort == x582.fTo.fPort) && ((decide (x581.fData = x582.fData)) && true)))))))
     (.done (.inr (.inl ())))
     (.done (.inl (wi64 (l580 + 1)))))
    (.done (.inr (.inr ()))))
   0)
  (fun (_ : Unit) => Ext.lit .ret [(4, .bool false)] [])
  (fun (_ : Unit) => Ext.lit (.exit 0) [(4, .bool false)] [])
  (fun _ =>
   .done false)
  (fun _ =>
   .done true))
theorem k45 (p0 : (List SDelivery)) (p1 : (List SDelivery)) : FnD Tryd.prog GG [0, 1, 4, 5, 10, 12, 13, 14, 24] Tryd.f45 [.sl false 6 (List.map tySDelivery.c p0), .sl false 6 (List.map tySDelivery.c p1)] (g45 p0 p1) (fun r => .bool r) := by unfold FnD; kernel_rfl
noncomputable def s45 (p0 : (List SDelivery)) (p1 : (List SDelivery)) : EV.Spec Tryd.prog GG (Bool) := .ofFn 45 mixed Tryd.func45 (k45 p0 p1)
noncomputable def g49 (p0 : Int) (p1 : Int) (p2 : Int) (p3 : Int) (p4 : Int) : TT (SAddr) :=
 .done (SAddr.mk (strOfNums [p0, p1, p2, p3]) p4)
theorem k49 (p0 : Int) (p1 : Int) (p2 : Int) (p3 : Int) (p4 : Int) : FnD Tryd.prog GG [0, 1, 2, 3, 4, 10] Tryd.f49 [.int .u8 p0, .int .u8 p1, .int .u8 p2, .int .u8 p3, .int .i64 p4] (g49 p0 p1 p2 p3 p4) (fun r => .agg [.str r.fHost, .int .i64 r.fPort]) := by unfold FnD; kernel_rfl
noncomputable def s49 (p0 : Int) (p1 : Int) (p2 : Int) (p3 : Int) (p4 : Int) : EV.Spec Tryd.prog GG (SAddr) := .ofFn 49 mixed Tryd.func49 (k49 p0 p1 p2 p3 p4)
noncomputable def g50  : TT (SNetwork) :=
 .call 2001 (s49 198 51 100 1 0) [] [] fun r585 =>
 .call 2004 (s49 10 0 0 1 0) [] [] fun r586 =>
 .call 2007 (s49 10 0 0 2 0) [] [] fun r587 =>
 .gh 0 (.share (VwW.of 14 tySHost1 [(SHost1.mk r585.fHost (-1) 10 0 0), (SHost1.mk r586.fHost 0 20 0 0), (SHost1.mk r587.fHost 0 5 2 0)]) 0) (.gh 0 (.tell 16 (List.map tySNat.c [(SNat.mk 1 3 1000 true (bs [192, 0, 2, 9]) 5000 5001 0 [])])) (.gh 0 (.share (VwW.of 16 tySNat [(SNat.mk 1 3 1000 true (bs [192, 0, 2, 9]) 5000 5001 0 [])]) 0) (.done (SNetwork.mk [(SHost1.mk r585.fHost (-1) 10 0 0), (SHost1.mk r586.fHost 0 20 0 0), (SHost1.mk r587.fHost 0 5 2 0)] [(SNat.mk 1 3 1000 true (bs [192, 0, 2, 9]) 5000 5001 0 [])] [] 0 0))))
theorem k50  : FnD Tryd.prog GG [0, 1] Tryd.f50 [] (g50) (fun r => .agg [.sl false 5 (List.map tySHost1.c r.fHosts), .sl false 9 (List.map tySNat.c r.fNats), .sl false 9 (List.map tySFlight.c r.fQueue), .int .i64 r.fNow, .int .i64 r.fSerial]) := by unfold FnD; kernel_rfl
noncomputable def s50  : EV.Spec Tryd.prog GG (SNetwork) := .ofFn 50 mixed Tryd.func50 (k50)
end Go.Proofs.YtdiagiflihpidaaDoor
