/- Guides and contracts, printed by a program.
   Guides and contracts, printed by a program.
   Guides and contracts, printed by a program.
   Guides and contracts, printed by a program.
   Guides and contracts, printed by a program.
   Guides and contracts, printed by a program. -/
import Derived.Test.YtioobnkmohikjaaDoorK6
import Derived.Test.YtioobnkmohikjaaDoorProg
import Derived.Test.YtioobnkmohikjaaDoorK7
import Derived.KernelRfl
namespace Go.Proofs.YtioobnkmohikjaaDoor
open Go Go.EV
set_option maxRecDepth 100000
def GG : Nat → Option (List V) := fun _ => none
abbrev TT := T Tryd.prog GG
theorem mixed : Tryd.prog.follows .mixedOrders = true := by kernel_rfl
structure SAddr where
 fHost : ByteArray
 fPort : Int
structure SCandidate where
 fKind : Int
 fComponent : Int
 fPriority : Int
 fFoundation : ByteArray
 fAddr : SAddr
 fBase : SAddr
structure SHost where
 fs : ByteArray
structure SPair where
 fLocal : Int
 fRemote : Int
 fPriority : Int
 fState : Int
structure SList where
 fControlling : Bool
 fLocals : (List SCandidate)
 fRemotes : (List SCandidate)
 fPairs : (List SPair)
structure SPlanner where
 fList : SList
structure SLike where
 fbase : SAddr
 faddr : SAddr
 fcomponent : Int
structure S2String where
 a0 : ByteArray
 a1 : ByteArray
def tySCandidate : Ty SCandidate := ⟨fun x => [.int .i64 x.fKind, .int .i64 x.fComponent, .int .i64 x.fPriority, .str x.fFoundation, .str x.fAddr.fHost, .int .i64 x.fAddr.fPort, .str x.fBase.fHost, .int .i64 x.fBase.fPort], fun x => [.int .i64 x.fKind, .int .i64 x.fComponent, .int .i64 x.fPriority, .str x.fFoundation, .str x.fAddr.fHost, .int .i64 x.fAddr.fPort, .str x.fBase.fHost, .int .i64 x.fBase.fPort], fun _ => rfl, fun _ => rfl, fun _ _ => rfl, fun _ => rfl⟩
def tySPair : Ty SPair := ⟨fun x => [.int .i64 x.fLocal, .int .i64 x.fRemote, .int .i64 x.fPriority, .int .i64 x.fState], fun x => [.int .i64 x.fLocal, .int .i64 x.fRemote, .int .i64 x.fPriority, .int .i64 x.fState], fun _ => rfl, fun _ => rfl, fun _ _ => rfl, fun _ => rfl⟩
end Go.Proofs.YtioobnkmohikjaaDoor
namespace Go.Proofs.YtioobnkmohikjaaDoor
open Go Go.EV
set_option maxRecDepth 100000
noncomputable def g33 (p0 : Int) (p1 : Int) (p2 : Int) : TT (Bool) :=
 .cnd 1 [6]
 (.br 1005 (decide (p1 ≤ p0))
  (.done (decide (p0 ≤ p2)))
  (.done false))
 (fun (c1 : Bool) => [.bool c1]) fun c1 =>
 .done c1
theorem k33 (p0 : Int) (p1 : Int) (p2 : Int) : FnD Tryd.prog GG [0, 1, 2, 6] Tryd.f33 [.int .i64 p0, .int .i64 p1, .int .i64 p2] (g33 p0 p1 p2) (fun r => .bool r) := by unfold FnD; kernel_rfl
noncomputable def s33 (p0 : Int) (p1 : Int) (p2 : Int) : EV.Spec Tryd.prog GG (Bool) := .ofFn 33 mixed Tryd.func33 (k33 p0 p1 p2)
noncomputable def g52 (p0 : Int) : TT (Bool) :=
 .done (p0 != p0)
theorem k52 (p0 : Int) : FnD Tryd.prog GG [0, 2] Tryd.f52 [.int .i64 p0] (g52 p0) (fun r => .bool r) := by unfold FnD; kernel_rfl
noncomputable def s52 (p0 : Int) : EV.Spec Tryd.prog GG (Bool) := .ofFn 52 mixed Tryd.func52 (k52 p0)
noncomputable def g28 (p0 : Int) (p1 : Int) : TT (Int) :=
 .call 1002 (s52 p0) [] [] fun r2 =>
 .call 2002 (s52 p1) [] [] fun r3 =>
 .br 0 r2
 (.br 0 r3
  (.done 0)
  (.done (-1)))
 (.br 0 r3
  (.done 1)
  (.br 0 (decide (p0 < p1))
   (.done (-1))
   (.br 0 (decide (p1 < p0))
    (.done 1)
    (.done 0))))
theorem k28 (p0 : Int) (p1 : Int) : FnD Tryd.prog GG [0, 1, 4, 5, 6, 11, 12, 13, 16, 19] Tryd.f28 [.int .i64 p0, .int .i64 p1] (g28 p0 p1) (fun r => .int .i64 r) := by unfold FnD; kernel_rfl
noncomputable def s28 (p0 : Int) (p1 : Int) : EV.Spec Tryd.prog GG (Int) := .ofFn 28 mixed Tryd.func28 (k28 p0 p1)
noncomputable def g50 (p0 : SCandidate) (p1 : SCandidate) : TT (Bool) :=
 .cnd 1 [4]
 (.br 1007 (p0.fComponent == p1.fComponent)
  (.done ((p0.fAddr.fHost.size : Int) == (p1.fAddr.fHost.size : Int)))
  (.done false))
 (fun (c4 : Bool) => [.bool c4]) fun c4 =>
 .done c4
theorem k50 (p0 : SCandidate) (p1 : SCandidate) : FnD Tryd.prog GG [0, 1, 2, 3, 4] Tryd.f50 [.agg [.int .i64 p0.fKind, .int .i64 p0.fComponent, .int .i64 p0.fPriority, .str p0.fFoundation, .str p0.fAddr.fHost, .int .i64 p0.fAddr.fPort, .str p0.fBase.fHost, .int .i64 p0.fBase.fPort], .agg [.int .i64 p1.fKind, .int .i64 p1.fComponent, .int .i64 p1.fPriority, .str p1.fFoundation, .str p1.fAddr.fHost, .int .i64 p1.fAddr.fPort, .str p1.fBase.fHost, .int .i64 p1.fBase.fPort]] (g50 p0 p1) (fun r => .bool r) := by unfold FnD; kernel_rfl
noncomputable def s50 (p0 : SCandidate) (p1 : SCandidate) : EV.Spec Tryd.prog GG (Bool) := .ofFn 50 mixed Tryd.func50 (k50 p0 p1)
noncomputable def g85 (p0 : ByteArray) : TT (SHost × Int) :=
 .cnd 1 [11]
 (.br 1005 ((p0.size : Int) != 4)
  (.done ((p0.size : Int) != 16))
  (.done false))
 (fun (c5 : Bool) => [.bool c5]) fun c5 =>
 .br 0 c5
 (.done ((SHost.mk ByteArray.empty), 2))
 (.done ((SHost.mk p0), 0))
theorem k85 (p0 : ByteArray) : FnD Tryd.prog GG [0, 2, 3, 11] Tryd.f85 [.str p0] (g85 p0) (fun r => .tup [.agg [.str r.1.fs], .int .i64 r.2]) := by unfold FnD; kernel_rfl
noncomputable def s85 (p0 : ByteArray) : EV.Spec Tryd.prog GG (SHost × Int) := .ofFn 85 mixed Tryd.func85 (k85 p0)
noncomputable def g77 (p0 : SAddr) : TT (Int) :=
 .call 1003 (s85 p0.fHost) [] [] fun r6 =>
 .cnd 2 [22]
 (.br 2004 (r6.2 != 0)
  (.done true)
  (.br 2009 (decide (p0.fPort < 0))
   (.done true)
   (.done (decide ((65535 : Int) < p0.fPort)))))
 (fun (c7 : Bool) => [.bool c7]) fun c7 =>
 .br 0 c7
 (.done 2)
 (.done 0)
theorem k77 (p0 : SAddr) : FnD Tryd.prog GG [0, 1, 2, 4, 22] Tryd.f77 [.agg [.str p0.fHost, .int .i64 p0.fPort]] (g77 p0) (fun r => .int .i64 r) := by unfold FnD; kernel_rfl
noncomputable def s77 (p0 : SAddr) : EV.Spec Tryd.prog GG (Int) := .ofFn 77 mixed Tryd.func77 (k77 p0)
noncomputable def g66 (p0 : SAddr) : TT (Bool) :=
 .cnd 1 [2]
 (.call 1002 (s77 p0) [] [] fun r8 =>
  .br 1005 (r8 == 0)
  (.done (decide ((1 : Int) ≤ p0.fPort)))
  (.done false))
 (fun (c9 : Bool) => [.bool c9]) fun c9 =>
 .done c9
theorem k66 (p0 : SAddr) : FnD Tryd.prog GG [0, 1, 2] Tryd.f66 [.agg [.str p0.fHost, .int .i64 p0.fPort]] (g66 p0) (fun r => .bool r) := by unfold FnD; kernel_rfl
noncomputable def s66 (p0 : SAddr) : EV.Spec Tryd.prog GG (Bool) := .ofFn 66 mixed Tryd.func66 (k66 p0)
noncomputable def g11 (p0 : Int) (p1 : Int) : TT (Int × Int) :=
 .cnd 1 [14]
 (.call 1002 (s33 p0 1 2147483647) [] [] fun r10 =>
  .br 1005 (!r10)
  (.done true)
  (.call 1006 (s33 p1 1 2147483647) [] [] fun r11 =>
   .done (!r11)))
 (fun (c12 : Bool) => [.bool c12]) fun c12 =>
 .br 0 c12
 (.done (0, 2))
 (.br 0 (decide (p1 < p0))
  (.done ((wi64 ((wi64 ((bShl .i64 (if p1 < p0 then p1 else p0) 32) + (wi64 ((2 : Int) * (if p1 > p0 then p1 else p0))))) + 1)), 0))
  (.done ((wi64 ((bShl .i64 (if p1 < p0 then p1 else p0) 32) + (wi64 ((2 : Int) * (if p1 > p0 then p1 else p0))))), 0)))
theorem k11 (p0 : Int) (p1 : Int) : FnD Tryd.prog GG [0, 1, 4, 5, 6, 14, 26] Tryd.f11 [.int .i64 p0, .int .i64 p1] (g11 p0 p1) (fun r => .tup [.int .i64 r.1, .int .i64 r.2]) := by unfold FnD; kernel_rfl
noncomputable def s11 (p0 : Int) (p1 : Int) : EV.Spec Tryd.prog GG (Int × Int) := .ofFn 11 mixed Tryd.func11 (k11 p0 p1)
noncomputable def g35 (p0 : SPlanner) (p1 : SPair) : TT (Int) :=
 .row 1008 tySCandidate p0.fList.fLocals p1.fLocal.toNat (decide (0 ≤ p1.fLocal)) fun x13 =>
 .row 1018 tySCandidate p0.fList.fRemotes p1.fRemote.toNat (decide (0 ≤ p1.fRemote)) fun x14 =>
 .bind 0
 (.br 0 (!p0.fList.fControlling)
  (.done (x14.fPriority, x13.fPriority))
  (.done (x13.fPriority, x14.fPriority)))
 (fun (e15 : Int × Int) => Ext.lit .normal [(4, .int .i64 0), (5, .int .i64 e15.1), (6, .int .i64 e15.2)] [])
 (fun e15 =>
  .call 4003 (s11 e15.1 e15.2) [] [] fun r16 =>
  .done r16.1)
theorem k35 (p0 : SPlanner) (p1 : SPair) : FnD Tryd.prog GG [0, 1, 3, 4, 5, 6, 7, 34] Tryd.f35 [.snap [.bool p0.fList.fControlling, .sl false 8 (List.map tySCandidate.c p0.fList.fLocals), .sl false 8 (List.map tySCandidate.c p0.fList.fRemotes), .sl false 4 (List.map tySPair.c p0.fList.fPairs)], .agg [.int .i64 p1.fLocal, .int .i64 p1.fRemote, .int .i64 p1.fPriority, .int .i64 p1.fState]] (g35 p0 p1) (fun r => .int .i64 r) := by unfold FnD; kernel_rfl
noncomputable def s35 (p0 : SPlanner) (p1 : SPair) : EV.Spec Tryd.prog GG (Int) := .ofFn 35 mixed Tryd.func35 (k35 p0 p1)
noncomputable def g29 (p0 : SPlanner) (p1 : SPair) : TT (SLike) :=
 .row 1008 tySCandidate p0.fList.fLocals p1.fLocal.toNat (decide (0 ≤ p1.fLocal)) fun x17 =>
 .row 1017 tySCandidate p0.fList.fRemotes p1.fRemote.toNat (decide (0 ≤ p1.fRemote)) fun x18 =>
 .done (SLike.mk x17.fBase x18.fAddr x17.fComponent)
theorem k29 (p0 : SPlanner) (p1 : SPair) : FnD Tryd.prog GG [0, 1, 3, 4, 5, 6] Tryd.f29 [.snap [.bool p0.fList.fControlling, .sl false 8 (List.map tySCandidate.c p0.fList.fLocals), .sl false 8 (List.map tySCandidate.c p0.fList.fRemotes), .sl false 4 (List.map tySPair.c p0.fList.fPairs)], .agg [.int .i64 p1.fLocal, .int .i64 p1.fRemote, .int .i64 p1.fPriority, .int .i64 p1.fState]] (g29 p0 p1) (fun r => .agg [.str r.fbase.fHost, .int .i64 r.fbase.fPort, .str r.faddr.fHost, .int .i64 r.faddr.fPort, .int .i64 r.fcomponent]) := by unfold FnD; kernel_rfl
noncomputable def s29 (p0 : SPlanner) (p1 : SPair) : EV.Spec Tryd.prog GG (SLike) := .ofFn 29 mixed Tryd.func29 (k29 p0 p1)
noncomputable def g30 (p0 : SPlanner) (p1 : SPair) : TT (S2String) :=
 .row 1008 tySCandidate p0.fList.fLocals p1.fLocal.toNat (decide (0 ≤ p1.fLocal)) fun x19 =>
 .row 1018 tySCandidate p0.fList.fRemotes p1.fRemote.toNat (decide (0 ≤ p1.fRemote)) fun x20 =>
 .done (S2String.mk x19.fFoundation x20.fFoundation)
theorem k30 (p0 : SPlanner) (p1 : SPair) : FnD Tryd.prog GG [0, 1, 3, 4] Tryd.f30 [.snap [.bool p0.fList.fControlling, .sl false 8 (List.map tySCandidate.c p0.fList.fLocals), .sl false 8 (List.map tySCandidate.c p0.fList.fRemotes), .sl false 4 (List.map tySPair.c p0.fList.fPairs)], .agg [.int .i64 p1.fLocal, .int .i64 p1.fRemote, .int .i64 p1.fPriority, .int .i64 p1.fState]] (g30 p0 p1) (fun r => .agg [.str r.a0, .str r.a1]) := by unfold FnD; kernel_rfl
noncomputable def s30 (p0 : SPlanner) (p1 : SPair) : EV.Spec Tryd.prog GG (S2String) := .ofFn 30 mixed Tryd.func30 (k30 p0 p1)
noncomputable def g31 (p0 : SPlanner) (p1 : SPair) : TT (Int) :=
 .row 1008 tySCandidate p0.fList.fLocals p1.fLocal.toNat (decide (0 ≤ p1.fLocal)) fun x21 =>
 .done x21.fComponent
theorem k31 (p0 : SPlanner) (p1 : SPair) : FnD Tryd.prog GG [0, 1, 3, 4] Tryd.f31 [.snap [.bool p0.fList.fControlling, .sl false 8 (List.map tySCandidate.c p0.fList.fLocals), .sl false 8 (List.map tySCandidate.c p0.fList.fRemotes), .sl false 4 (List.map tySPair.c p0.fList.fPairs)], .agg [.int .i64 p1.fLocal, .int .i64 p1.fRemote, .int .i64 p1.fPriority, .int .i64 p1.fState]] (g31 p0 p1) (fun r => .int .i64 r) := by unfold FnD; kernel_rfl
noncomputable def s31 (p0 : SPlanner) (p1 : SPair) : EV.Spec Tryd.prog GG (Int) := .ofFn 31 mixed Tryd.func31 (k31 p0 p1)
noncomputable def g21 (p0 : SList) (p1 : Int) (p2 : Int) (p3 : Int) (p4 : Int) : TT (Bool) :=
 .cnd 1 [10]
 (.br 1007 (decide (p1 < (mlen tySPair p0.fPairs)))
  (.row 1010 tySPair p0.fPairs p1.toNat (decide (0 ≤ p1)) fun x35 =>
   .br 1017 (x35.fLocal == p2)
   (.row 1020 tySPair p0.fPairs p1.toNat (decide (0 ≤ p1)) fun x36 =>
    .br 1027 (x36.fRemote == p3)
    (.row 1030 tySPair p0.fPairs p1.toNat (decide (0 ≤ p1)) fun x37 =>
     .done (x37.fState == p4))
    (.done false))
   (.done false))
  (.done false))
 (fun (c38 : Bool) => [.bool c38]) fun c38 =>
 .done c38
theorem k21 (p0 : SList) (p1 : Int) (p2 : Int) (p3 : Int) (p4 : Int) : FnD Tryd.prog GG [0, 1, 2, 3, 4, 5, 10] Tryd.f21 [.agg [.bool p0.fControlling, .sl false 8 (List.map tySCandidate.c p0.fLocals), .sl false 8 (List.map tySCandidate.c p0.fRemotes), .sl false 4 (List.map tySPair.c p0.fPairs)], .int .i64 p1, .int .i64 p2, .int .i64 p3, .int .i64 p4] (g21 p0 p1 p2 p3 p4) (fun r => .bool r) := by unfold FnD; kernel_rfl
noncomputable def s21 (p0 : SList) (p1 : Int) (p2 : Int) (p3 : Int) (p4 : Int) : EV.Spec Tryd.prog GG (Bool) := .ofFn 21 mixed Tryd.func21 (k21 p0 p1 p2 p3 p4)
noncomputable def g44 (p0 : SList) : TT ((List SPair)) :=
 .app 2004 tySPair [] p0.fPairs 32 true (by intros; rfl) (.done ([] ++ p0.fPairs))
theorem k44 (p0 : SList) : FnB Tryd.prog GG [0, 1, 2, 3] Tryd.f44 [.agg [.bool p0.fControlling, .sl false 8 (List.map tySCandidate.c p0.fLocals), .sl false 8 (List.map tySCandidate.c p0.fRemotes), .sl false 4 (List.map tySPair.c p0.fPairs)]] (Ext.of .normal (argTs [.agg [.bool p0.fControlling, .sl false 8 (List.map tySCandidate.c p0.fLocals), .sl false 8 (List.map tySCandidate.c p0.fRemotes), .sl false 4 (List.map tySPair.c p0.fPairs)]]) [] [] (by rfl)) (g44 p0) (fun (r : (List SPair)) => .agg [.bool p0.fControlling, .sl false 8 (List.map tySCandidate.c p0.fLocals), .sl false 8 (List.map tySCandidate.c p0.fRemotes), .ref 7 0 r.length]) (fun (r : (List SPair)) => Ext.of .normal [] [] [BT.of 7 tySPair 4 r true] (by rfl)) := by unfold FnB; kernel_rfl
noncomputable def s44 (p0 : SList) : EV.Spec Tryd.prog GG ((List SPair)) := .ofFnB 44 [7] mixed Tryd.func44 rfl (fun _ => rfl) (k44 p0)
noncomputable def g79 (p0 : ByteArray) : TT (Bool) :=
 .cnd 1 [2]
 (.br 1005 ((p0.size : Int) == 4)
  (.done true)
  (.done ((p0.size : Int) == 16)))
 (fun (c39 : Bool) => [.bool c39]) fun c39 =>
 .done c39
theorem k79 (p0 : ByteArray) : FnD Tryd.prog GG [0, 2] Tryd.f79 [.str p0] (g79 p0) (fun r => .bool r) := by unfold FnD; kernel_rfl
noncomputable def s79 (p0 : ByteArray) : EV.Spec Tryd.prog GG (Bool) := .ofFn 79 mixed Tryd.func79 (k79 p0)
noncomputable def g68 (p0 : SAddr) : TT (Bool) :=
 .cnd 1 [2]
 (.call 1003 (s79 p0.fHost) [] [] fun r40 =>
  .br 1005 r40
  (.br 1010 (decide ((0 : Int) ≤ p0.fPort))
   (.done (decide (p0.fPort ≤ 65535)))
   (.done false))
  (.done false))
 (fun (c41 : Bool) => [.bool c41]) fun c41 =>
 .done c41
theorem k68 (p0 : SAddr) : FnD Tryd.prog GG [0, 1, 2] Tryd.f68 [.agg [.str p0.fHost, .int .i64 p0.fPort]] (g68 p0) (fun r => .bool r) := by unfold FnD; kernel_rfl
noncomputable def s68 (p0 : SAddr) : EV.Spec Tryd.prog GG (Bool) := .ofFn 68 mixed Tryd.func68 (k68 p0)
noncomputable def g62 (p0 : SAddr) : TT (Bool) :=
 .cnd 1 [2]
 (.call 1002 (s68 p0) [] [] fun r42 =>
  .br 1004 r42
  (.done (decide ((1 : Int) ≤ p0.fPort)))
  (.done false))
 (fun (c43 : Bool) => [.bool c43]) fun c43 =>
 .done c43
theorem k62 (p0 : SAddr) : FnD Tryd.prog GG [0, 1, 2] Tryd.f62 [.agg [.str p0.fHost, .int .i64 p0.fPort]] (g62 p0) (fun r => .bool r) := by unfold FnD; kernel_rfl
noncomputable def s62 (p0 : SAddr) : EV.Spec Tryd.prog GG (Bool) := .ofFn 62 mixed Tryd.func62 (k62 p0)
noncomputable def g72  : TT (Unit) :=
 .tt (.ff (.tt (.ff (.tt (.ff (.tt (.ff (.tt (.ff (.tt (.ff (.tt (.ff (.tt (.ff (.tt (.ff (.tt (.ff (.tt (.ff (.tt (.ff (.tt (.ff (.tt (.ff (.tt (.ff (.tt (.ff (.tt (.ff (.ff (.done ())))))))))))))))))))))))))))))))))))
theorem k72  : FnB Tryd.prog GG [0, 2, 3, 4, 5, 9, 16] Tryd.f72 [.str (bs [48, 49, 50, 51, 52, 53, 54, 55, 56, 57, 97, 98, 99, 100, 101, 102, 45])] (Ext.of .normal (argTs [.str (bs [48, 49, 50, 51, 52, 53, 54, 55, 56, 57, 97, 98, 99, 100, 101, 102, 45])]) [] [] (by rfl)) (g72) (fun (_ : Unit) => .tup [.agg [.bool false, .bool false, .bool false, .bool false, .bool false, .bool false, .bool false, .bool false, .bool false, .bool false, .bool false, .bool false, .bool false, .bool false, .bool false, .bool false, .bool false, .bool false, .bool false, .bool false, .bool false, .bool false, .bool false, .bool false, .bool false, .bool false, .bool false, .bool false, .bool false, .bool false, .bool false, .bool false, .bool false, .bool false, .bool false, .bool false, .bool false, .bool false, .bool false, .bool false, .bool false, .bool false, .bool false, .bool false, .bool false, .bool true, .bool false, .bool false, .bool true, .bool true, .bool true, .bool true, .bool true, .bool true, .bool true, .bool true, .bool true, .bool true, .bool false, .bool false, .bool false, .bool false, .bool false, .bool false, .bool false, .bool false, .bool false, .bool false, .bool false, .bool false, .bool false, .bool false, .bool false, .bool false, .bool false, .bool false, .bool false, .bool false, .bool false, .bool false, .bool false, .bool false, .bool false, .bool false, .bool false, .bool false, .bool false, .bool false, .bool false, .bool false, .bool false, .bool false, .bool false, .bool false, .bool false, .bool false, .bool false, .bool true, .bool true, .bool true, .bool true, .bool true, .bool true, .bool false, .bool false, .bool false, .bool false, .bool false, .bool false, .bool false, .bool false, .bool false, .bool false, .bool false, .bool false, .bool false, .bool false, .bool false, .bool false, .bool false, .bool false, .bool false, .bool false, .bool false, .bool false, .bool false, .bool false, .bool false, .bool false, .bool false, .bool false, .bool false, .bool false, .bool false, .bool false, .bool false, .bool false, .bool false, .bool false, .bool false, .bool false, .bool false, .bool false, .bool false, .bool false, .bool false, .bool false, .bool false, .bool false, .bool false, .bool false, .bool false, .bool false, .bool false, .bool false, .bool false, .bool false, .bool false, .bool false, .bool false, .bool false, .bool false, .bool false, .bool false, .bool false, .bool false, .bool false, .bool false, .bool false, .bool false, .bool false, .bool false, .bool false, .bool false, .bool false, .bool false, .bool false, .bool false, .bool false, .bool false, .bool false, .bool false, .bool false, .bool false, .bool false, .bool false, .bool false, .bool false, .bool false, .bool false, .bool false, .bool false, .bool false, .bool false, .bool false, .bool false, .bool false, .bool false, .bool false, .bool false, .bool false, .bool false, .bool false, .bool false, .bool false, .bool false, .bool false, .bool false, .bool false, .bool false, .bool false, .bool false, .bool false, .bool false, .bool false, .bool false, .bool false, .bool false, .bool false, .bool false, .bool false, .bool false, .bool false, .bool false, .bool false, .bool false, .bool false, .bool false, .bool false, .bool false, .bool false, .bool false, .bool false, .bool false, .bool false, .bool false, .bool false, .bool false, .bool false, .bool false, .bool false, .bool false, .bool false, .bool false, .bool false, .bool false, .bool false, .bool false, .bool false, .bool false, .bool false, .bool false, .bool false, .bool false, .bool false, .bool false], .bool true]) (fun (_ : Unit) => Ext.of .normal [] [] [] (by rfl)) := by unfold FnB; kernel_rfl
noncomputable def s72  : EV.Spec Tryd.prog GG (Unit) := .ofFnB 72 [] mixed Tryd.func72 rfl (fun _ => rfl) (k72)
noncomputable def g81 (p0 : Int) : TT (Bool) :=
 .ceq 1004 p0 [0, 1, 2, 3, 4, 5, 6, 7, 8, 9, 10, 11, 12, 13, 14, 15, 16, 17, 18, 19, 20, 21, 22, 23, 24, 25, 26, 27, 28, 29, 30, 31, 32, 33, 34, 35, 36, 37, 38, 39, 40, 41, 42, 43, 44, 45, 46, 47, 48, 49, 50, 51, 52, 53, 54, 55, 56, 57, 58, 59, 60, 61, 62, 63, 64, 65, 66, 67, 68, 69, 70, 71, 72, 73, 74, 75, 76, 77, 78, 79, 80, 81, 82, 83, 84, 85, 86, 87, 88, 89, 90, 91, 92, 93, 94, 95, 96, 97, 98, 99, 100, 101, 102, 103, 104, 105, 106, 107, 108, 109, 110, 111, 112, 113, 114, 115, 116, 117, 118, 119, 120, 121, 122, 123, 124, 125, 126, 127, 128, 129, 130, 131, 132, 133, 134, 135, 136, 137, 138, 139, 140, 141, 142, 143, 144, 145, 146, 147, 148, 149, 150, 151, 152, 153, 154, 155, 156, 157, 158, 159, 160, 161, 162, 163, 164, 165, 166, 167, 168, 169, 170, 171, 172, 173, 174, 175, 176, 177, 178, 179, 180, 181, 182, 183, 184, 185, 186, 187, 188, 189, 190, 191, 192, 193, 194, 195, 196, 197, 198, 199, 200, 201, 202, 203, 204, 205, 206, 207, 208, 209, 210, 211, 212, 213, 214, 215, 216, 217, 218, 219, 220, 221, 222, 223, 224, 225, 226, 227, 228, 229, 230, 231, 232, 233, 234, 235, 236, 237, 238, 239, 240, 241, 242, 243, 244, 245, 246, 247, 248, 249, 250, 251, 252, 253, 254, 255] (fun v => bif [45, 48, 49, 50, 51, 52, 53, 54, 55, 56, 57, 97, 98, 99, 100, 101, 102].contains v then .done true else .done false)
theorem k81 (p0 : Int) : FnD Tryd.prog GG [0, 1, 4] Tryd.f81 [.snap [.bool false, .bool false, .bool false, .bool false, .bool false, .bool false, .bool false, .bool false, .bool false, .bool false, .bool false, .bool false, .bool false, .bool false, .bool false, .bool false, .bool false, .bool false, .bool false, .bool false, .bool false, .bool false, .bool false, .bool false, .bool false, .bool false, .bool false, .bool false, .bool false, .bool false, .bool false, .bool false, .bool false, .bool false, .bool false, .bool false, .bool false, .bool false, .bool false, .bool false, .bool false, .bool false, .bool false, .bool false, .bool false, .bool true, .bool false, .bool false, .bool true, .bool true, .bool true, .bool true, .bool true, .bool true, .bool true, .bool true, .bool true, .bool true, .bool false, .bool false, .bool false, .bool false, .bool false, .bool false, .bool false, .bool false, .bool false, .bool false, .bool false, .bool false, .bool false, .bool false, .bool false, .bool false, .bool false, .bool false, .bool false, .bool false, .bool false, .bool false, .bool false, .bool false, .bool false, .bool false, .bool false, .bool false, .bool false, .bool false, .bool false, .bool false, .bool false, .bool false, .bool false, .bool false, .bool false, .bool false, .bool false, .bool true, .bool true, .bool true, .bool true, .bool true, .bool true, .bool false, .bool false, .bool false, .bool false, .bool false, .bool false, .bool false, .bool false, .bool false, .bool false, .bool false, .bool false, .bool false, .bool false, .bool false, .bool false, .bool false, .bool false, .bool false, .bool false, .bool false, .bool false, .bool false, .bool false, .bool false, .bool false, .bool false, .bool false, .bool false, .bool false, .bool false, .bool false, .bool false, .bool false, .bool false, .bool false, .bool false, .bool false, .bool false, .bool false, .bool false, .bool false, .bool false, .bool false, .bool false, .bool false, .bool false, .bool false, .bool false, .bool false, .bool false, .bool false, .bool false, .bool false, .bool false, .bool false, .bool false, .bool false, .bool false, .bool false, .bool false, .bool false, .bool false, .bool false, .bool false, .bool false, .bool false, .bool false, .bool false, .bool false, .bool false, .bool false, .bool false, .bool false, .bool false, .bool false, .bool false, .bool false, .bool false, .bool false, .bool false, .bool false, .bool false, .bool false, .bool false, .bool false, .bool false, .bool false, .bool false, .bool false, .bool false, .bool false, .bool false, .bool false, .bool false, .bool false, .bool false, .bool false, .bool false, .bool false, .bool false, .bool false, .bool false, .bool false, .bool false, .bool false, .bool false, .bool false, .bool false, .bool false, .bool false, .bool false, .bool false, .bool false, .bool false, .bool false, .bool false, .bool false, .bool false, .bool false, .bool false, .bool false, .bool false, .bool false, .bool false, .bool false, .bool false, .bool false, .bool false, .bool false, .bool false, .bool false, .bool false, .bool false, .bool false, .bool false, .bool false, .bool false, .bool false, .bool false, .bool false, .bool false, .bool false, .bool false, .bool false, .bool false, .bool false, .bool false, .bool false, .bool false, .bool false, .bool false, .bool false], .int .u8 p0] (g81 p0) (fun r => .bool r) := by unfold FnD; kernel_rfl
noncomputable def s81 (p0 : Int) : EV.Spec Tryd.prog GG (Bool) := .ofFn 81 mixed Tryd.func81 (k81 p0)
noncomputable def g74 (p0 : ByteArray) : TT (ByteArray) :=
 .bind 1
 (.lp (fun (l53 : ByteArray) => Ext.lit .normal [(0, .str l53), (1, .snap [.bool false, .bool false, .bool false, .bool false, .bool false, .bool false, .bool false, .bool false, .bool false, .bool false, .bool false, .bool false, .bool false, .bool false, .bool false, .bool false, .bool false, .bool false, .bool false, .bool false, .bool false, .bool false, .bool false, .bool false, .bool false, .bool false, .bool false, .bool false, .bool false, .bool false, .bool false, .bool false, .bool false, .bool false, .bool false, .bool false, .bool false, .bool false, .bool false, .bool false, .bool false, .bool false, .bool false, .bool false, .bool false, .bool true, .bool false, .bool false, .bool true, .bool true, .bool true, .bool true, .bool true, .bool true, .bool true, .bool true, .bool true, .bool true, .bool false, .bool false, .bool false, .bool false, .bool false, .bool false, .bool false, .bool false, .bool false, .bool false, .bool false, .bool false, .bool false, .bool false, .bool false, .bool false, .bool false, .bool false, .bool false, .bool false, .bool false, .bool false, .bool false, .bool false, .bool false, .bool false, .bool false, .bool false, .bool false, .bool false, .bool false, .bool false, .bool false, .bool false, .bool false, .bool false, .bool false, .bool false, .bool false, .bool true, .bool true, .bool true, .bool true, .bool true, .bool true, .bool false, .bool false, .bool false, .bool false, .bool false, .bool false, .bool false, .bool false, .bool false, .bool false, .bool false, .bool false, .bool false, .bool false, .bool false, .bool false, .bool false, .bool false, .bool false, .bool false, .bool false, .bool false, .bool false, .bool false, .bool false, .bool false, .bool false, .bool false, .bool false, .bool false, .bool false, .bool false, .bool false, .bool false, .bool false, .bool false, .bool false, .bool false, .bool false, .bool false, .bool false, .bool false, .bool false, .bool false, .bool false, .bool false, .bool false, .bool false, .bool false, .bool false, .bool false, .bool false, .bool false, .bool false, .bool false, .bool false, .bool false, .bool false, .bool false, .bool false, .bool false, .bool false, .bool false, .bool false, .bool false, .bool false, .bool false, .bool false, .bool false, .bool false, .bool false, .bool false, .bool false, .bool false, .bool false, .bool false, .bool false, .bool false, .bool false, .bool false, .bool false, .bool false, .bool false, .bool false, .bool false, .bool false, .bool false, .bool false, .bool false, .bool false, .bool false, .bool false, .bool false, .bool false, .bool false, .bool false, .bool false, .bool false, .bool false, .bool false, .bool false, .bool false, .bool false, .bool false, .bool false, .bool false, .bool false, .bool false, .bool false, .bool false, .bool false, .bool false, .bool false, .bool false, .bool false, .bool false, .bool false, .bool false, .bool false, .bool false, .bool false, .bool false, .bool false, .bool false, .bool false, .bool false, .bool false, .bool false, .bool false, .bool false, .bool false, .bool false, .bool false, .bool false, .bool false, .bool false, .bool false, .bool false, .bool false, .bool false, .bool false, .bool false, .bool false, .bool false, .bool false, .bool false, .bool false, .bool false, .bool false, .bool false, .bool false, .bool false, .bool false]), (4, .str ByteArray.empty)] [])
  (fun l53 =>
   .br 0 (decide ((0 : Int) < (l53.size : Int)))
   (.chk 2006 (decide (0 ≤ (wi64 ((l53.size : Int) - 1)) ∧ (wi64 ((l53.size : Int) - 1)) < (l53.size : Int))) (.call 2007 (s81 (bAt l53 (wi64 ((l53.size : Int) - 1)))) [] [] fun r54 =>
    .br 0 (!r54)
    (.done (.inr l53))
    (.chk 3005 (decide (0 ≤ (wi64 ((l53.size : Int) - 1))) && decide ((wi64 ((l53.size : Int) - 1)) ≤ (l53.size : Int))) (.done (.inl (l53.extract 0 ((wi64 ((l53.size : Int) - 1)).toNat)))))))
   (.done (.inr l53)))
  p0)
 (fun (e55 : ByteArray) => Ext.lit (.exit 0) [(0, .str e55), (4, .str ByteArray.empty)] [])
 (fun e55 =>
  .done e55)
theorem k74 (p0 : ByteArray) : FnD Tryd.prog GG [0, 1, 4, 7, 15] Tryd.f74 [.str p0, .snap [.bool false, .bool false, .bool false, .bool false, .bool false, .bool false, .bool false, .bool false, .bool false, .bool false, .bool false, .bool false, .bool false, .bool false, .bool false, .bool false, .bool false, .bool false, .bool false, .bool false, .bool false, .bool false, .bool false, .bool false, .bool false, .bool false, .bool false, .bool false, .bool false, .bool false, .bool false, .bool false, .bool false, .bool false, .bool false, .bool false, .bool false, .bool false, .bool false, .bool false, .bool false, .bool false, .bool false, .bool false, .bool false, .bool true, .bool false, .bool false, .bool true, .bool true, .bool true, .bool true, .bool true, .bool true, .bool true, .bool true, .bool true, .bool true, .bool false, .bool false, .bool false, .bool false, .bool false, .bool false, .bool false, .bool false, .bool false, .bool false, .bool false, .bool false, .bool false, .bool false, .bool false, .bool false, .bool false, .bool false, .bool false, .bool false, .bool false, .bool false, .bool false, .bool false, .bool false, .bool false, .bool false, .bool false, .bool false, .bool false, .bool false, .bool false, .bool false, .bool false, .bool false, .bool false, .bool false, .bool false, .bool false, .bool true, .bool true, .bool true, .bool true, .bool true, .bool true, .bool false, .bool false, .bool false, .bool false, .bool false, .bool false, .bool false, .bool false, .bool false, .bool false, .bool false, .bool false, .bool false, .bool false, .bool false, .bool false, .bool false, .bool false, .bool false, .bool false, .bool false, .bool false, .bool false, .bool false, .bool false, .bool false, .bool false, .bool false, .bool false, .bool false, .bool false, .bool false, .bool false, .bool false, .bool false, .bool false, .bool false, .bool false, .bool false, .bool false, .bool false, .bool false, .bool false, .bool false, .bool false, .bool false, .bool false, .bool false, .bool false, .bool false, .bool false, .bool false, .bool false, .bool false, .bool false, .bool false, .bool false, .bool false, .bool false, .bool false, .bool false, .bool false, .bool false, .bool false, .bool false, .bool false, .bool false, .bool false, .bool false, .bool false, .bool false, .bool false, .bool false, .bool false, .bool false, .bool false, .bool false, .bool false, .bool false, .bool false, .bool false, .bool false, .bool false, .bool false, .bool false, .bool false, .bool false, .bool false, .bool false, .bool false, .bool false, .bool false, .bool false, .bool false, .bool false, .bool false, .bool false, .bool false, .bool false, .bool false, .bool false, .bool false, .bool false, .bool false, .bool false, .bool false, .bool false, .bool false, .bool false, .bool false, .bool false, .bool false, .bool false, .bool false, .bool false, .bool false, .bool false, .bool false, .bool false, .bool false, .bool false, .bool false, .bool false, .bool false, .bool false, .bool false, .bool false, .bool false, .bool false, .bool false, .bool false, .bool false, .bool false, .bool false, .bool false, .bool false, .bool false, .bool false, .bool false, .bool false, .bool false, .bool false, .bool false, .bool false, .bool false, .bool false, .bool false, .bool false, .bool false, .bool false, .bool false, .bool false, .bool false]] (g74 p0) (fun r => .str r) := by unfold FnD; kernel_rfl
noncomputable def s74 (p0 : ByteArray) : EV.Spec Tryd.prog GG (ByteArray) := .ofFn 74 mixed Tryd.func74 (k74 p0)
noncomputable def g73 (p0 : ByteArray) : TT (ByteArray) :=
 .bind 1
 (.lp (fun (l59 : ByteArray) => Ext.lit .normal [(0, .str l59), (1, .snap [.bool false, .bool false, .bool false, .bool false, .bool false, .bool false, .bool false, .bool false, .bool false, .bool false, .bool false, .bool false, .bool false, .bool false, .bool false, .bool false, .bool false, .bool false, .bool false, .bool false, .bool false, .bool false, .bool false, .bool false, .bool false, .bool false, .bool false, .bool false, .bool false, .bool false, .bool false, .bool false, .bool false, .bool false, .bool false, .bool false, .bool false, .bool false, .bool false, .bool false, .bool false, .bool false, .bool false, .bool false, .bool false, .bool true, .bool false, .bool false, .bool true, .bool true, .bool true, .bool true, .bool true, .bool true, .bool true, .bool true, .bool true, .bool true, .bool false, .bool false, .bool false, .bool false, .bool false, .bool false, .bool false, .bool false, .bool false, .bool false, .bool false, .bool false, .bool false, .bool false, .bool false, .bool false, .bool false, .bool false, .bool false, .bool false, .bool false, .bool false, .bool false, .bool false, .bool false, .bool false, .bool false, .bool false, .bool false, .bool false, .bool false, .bool false, .bool false, .bool false, .bool false, .bool false, .bool false, .bool false, .bool false, .bool true, .bool true, .bool true, .bool true, .bool true, .bool true, .bool false, .bool false, .bool false, .bool false, .bool false, .bool false, .bool false, .bool false, .bool false, .bool false, .bool false, .bool false, .bool false, .bool false, .bool false, .bool false, .bool false, .bool false, .bool false, .bool false, .bool false, .bool false, .bool false, .bool false, .bool false, .bool false, .bool false, .bool false, .bool false, .bool false, .bool false, .bool false, .bool false, .bool false, .bool false, .bool false, .bool false, .bool false, .bool false, .bool false, .bool false, .bool false, .bool false, .bool false, .bool false, .bool false, .bool false, .bool false, .bool false, .bool false, .bool false, .bool false, .bool false, .bool false, .bool false, .bool false, .bool false, .bool false, .bool false, .bool false, .bool false, .bool false, .bool false, .bool false, .bool false, .bool false, .bool false, .bool false, .bool false, .bool false, .bool false, .bool false, .bool false, .bool false, .bool false, .bool false, .bool false, .bool false, .bool false, .bool false, .bool false, .bool false, .bool false, .bool false, .bool false, .bool false, .bool false, .bool false, .bool false, .bool false, .bool false, .bool false, .bool false, .bool false, .bool false, .bool false, .bool false, .bool false, .bool false, .bool false, .bool false, .bool false, .bool false, .bool false, .bool false, .bool false, .bool false, .bool false, .bool false, .bool false, .bool false, .bool false, .bool false, .bool false, .bool false, .bool false, .bool false, .bool false, .bool false, .bool false, .bool false, .bool false, .bool false, .bool false, .bool false, .bool false, .bool false, .bool false, .bool false, .bool false, .bool false, .bool false, .bool false, .bool false, .bool false, .bool false, .bool false, .bool false, .bool false, .bool false, .bool false, .bool false, .bool false, .bool false, .bool false, .bool false, .bool false, .bool false, .bool false, .bool false, .bool false, .bool false, .bool false]), (4, .str ByteArray.empty)] [])
  (fun l59 =>
   .br 0 (decide ((0 : Int) < (l59.size : Int)))
   (.chk 2003 (decide (0 ≤ (0 : Int) ∧ (0 : Int) < (l59.size : Int))) (.call 2004 (s81 (bAt l59 0)) [] [] fun r60 =>
    .br 0 (!r60)
    (.done (.inr l59))
    (.chk 3002 (decide (0 ≤ (1 : Int)) && decide ((1 : Int) ≤ (l59.size : Int))) (.done (.inl (l59.extract 1 l59.size))))))
   (.done (.inr l59)))
  p0)
 (fun (e61 : ByteArray) => Ext.lit (.exit 0) [(0, .str e61), (4, .str ByteArray.empty)] [])
 (fun e61 =>
  .done e61)
theorem k73 (p0 : ByteArray) : FnD Tryd.prog GG [0, 1, 4, 7, 12] Tryd.f73 [.str p0, .snap [.bool false, .bool false, .bool false, .bool false, .bool false, .bool false, .bool false, .bool false, .bool false, .bool false, .bool false, .bool false, .bool false, .bool false, .bool false, .bool false, .bool false, .bool false, .bool false, .bool false, .bool false, .bool false, .bool false, .bool false, .bool false, .bool false, .bool false, .bool false, .bool false, .bool false, .bool false, .bool false, .bool false, .bool false, .bool false, .bool false, .bool false, .bool false, .bool false, .bool false, .bool false, .bool false, .bool false, .bool false, .bool false, .bool true, .bool false, .bool false, .bool true, .bool true, .bool true, .bool true, .bool true, .bool true, .bool true, .bool true, .bool true, .bool true, .bool false, .bool false, .bool false, .bool false, .bool false, .bool false, .bool false, .bool false, .bool false, .bool false, .bool false, .bool false, .bool false, .bool false, .bool false, .bool false, .bool false, .bool false, .bool false, .bool false, .bool false, .bool false, .bool false, .bool false, .bool false, .bool false, .bool false, .bool false, .bool false, .bool false, .bool false, .bool false, .bool false, .bool false, .bool false, .bool false, .bool false, .bool false, .bool false, .bool true, .bool true, .bool true, .bool true, .bool true, .bool true, .bool false, .bool false, .bool false, .bool false, .bool false, .bool false, .bool false, .bool false, .bool false, .bool false, .bool false, .bool false, .bool false, .bool false, .bool false, .bool false, .bool false, .bool false, .bool false, .bool false, .bool false, .bool false, .bool false, .bool false, .bool false, .bool false, .bool false, .bool false, .bool false, .bool false, .bool false, .bool false, .bool false, .bool false, .bool false, .bool false, .bool false, .bool false, .bool false, .bool false, .bool false, .bool false, .bool false, .bool false, .bool false, .bool false, .bool false, .bool false, .bool false, .bool false, .bool false, .bool false, .bool false, .bool false, .bool false, .bool false, .bool false, .bool false, .bool false, .bool false, .bool false, .bool false, .bool false, .bool false, .bool false, .bool false, .bool false, .bool false, .bool false, .bool false, .bool false, .bool false, .bool false, .bool false, .bool false, .bool false, .bool false, .bool false, .bool false, .bool false, .bool false, .bool false, .bool false, .bool false, .bool false, .bool false, .bool false, .bool false, .bool false, .bool false, .bool false, .bool false, .bool false, .bool false, .bool false, .bool false, .bool false, .bool false, .bool false, .bool false, .bool false, .bool false, .bool false, .bool false, .bool false, .bool false, .bool false, .bool false, .bool false, .bool false, .bool false, .bool false, .bool false, .bool false, .bool false, .bool false, .bool false, .bool false, .bool false, .bool false, .bool false, .bool false, .bool false, .bool false, .bool false, .bool false, .bool false, .bool false, .bool false, .bool false, .bool false, .bool false, .bool false, .bool false, .bool false, .bool false, .bool false, .bool false, .bool false, .bool false, .bool false, .bool false, .bool false, .bool false, .bool false, .bool false, .bool false, .bool false, .bool false, .bool false, .bool false, .bool false, .bool false]] (g73 p0) (fun r => .str r) := by unfold FnD; kernel_rfl
noncomputable def s73 (p0 : ByteArray) : EV.Spec Tryd.prog GG (ByteArray) := .ofFn 73 mixed Tryd.func73 (k73 p0)
noncomputable def g65 (p0 : ByteArray) : TT (ByteArray) :=
 .cnd 1 [12]
 (.br 1004 (decide (p0 = ByteArray.empty))
  (.done true)
  (.done false))
 (fun (c49 : Bool) => [.bool c49]) fun c49 =>
 .br 0 c49
 (.done p0)
 (.ff (.call 5002 s72 [] [] fun _ =>
  .tt (.view 7002 (s74 p0) [] fun r56 =>
  .view 7003 (s73 r56) [] fun r62 =>
  .done r62)))
theorem k65 (p0 : ByteArray) : FnD Tryd.prog GG [0, 1, 4, 5, 6, 12, 21, 34] Tryd.f65 [.str p0, .str (bs [48, 49, 50, 51, 52, 53, 54, 55, 56, 57, 97, 98, 99, 100, 101, 102, 45])] (g65 p0) (fun r => .str r) := by unfold FnD; kernel_rfl
noncomputable def s65 (p0 : ByteArray) : EV.Spec Tryd.prog GG (ByteArray) := .ofFn 65 mixed Tryd.func65 (k65 p0)
noncomputable def g59 (p0 : SCandidate) : TT (Bool) :=
 .cnd 1 [25]
 (.call 1003 (s33 p0.fKind 1 4) [] [] fun r44 =>
  .br 1006 (!r44)
  (.done true)
  (.call 1008 (s33 p0.fComponent 1 256) [] [] fun r45 =>
   .br 1012 (!r45)
   (.done true)
   (.call 1014 (s33 p0.fPriority 1 2147483647) [] [] fun r46 =>
    .br 1018 (!r46)
    (.done true)
    (.call 1021 (s33 (p0.fFoundation.size : Int) 1 80) [] [] fun r47 =>
     .done (!r47)))))
 (fun (c48 : Bool) => [.bool c48]) fun c48 =>
 .br 0 c48
 (.done false)
 (.cnd 3 [52]
  (.call 3003 (s65 p0.fFoundation) [] [] fun r63 =>
   .br 3006 (!decide (r63 = ByteArray.empty))
   (.done true)
   (.call 3008 (s66 p0.fAddr) [] [] fun r64 =>
    .br 3012 (!r64)
    (.done true)
    (.call 3014 (s66 p0.fBase) [] [] fun r65 =>
     .br 3018 (!r65)
     (.done true)
     (.done ((p0.fAddr.fHost.size : Int) != (p0.fBase.fHost.size : Int))))))
  (fun (c66 : Bool) => [.bool c66]) fun c66 =>
  .br 0 c66
  (.done false)
  (.cnd 5 [2]
   (.br 5007 ((decide (p0.fAddr.fHost = p0.fBase.fHost)) && ((p0.fAddr.fPort == p0.fBase.fPort) && true))
    (.done true)
    (.br 5012 (p0.fKind == 2)
     (.done true)
     (.done (p0.fKind == 3))))
   (fun (c67 : Bool) => [.bool c67]) fun c67 =>
   .done c67))
theorem k59 (p0 : SCandidate) : FnD Tryd.prog GG [0, 1, 2, 25, 52] Tryd.f59 [.agg [.int .i64 p0.fKind, .int .i64 p0.fComponent, .int .i64 p0.fPriority, .str p0.fFoundation, .str p0.fAddr.fHost, .int .i64 p0.fAddr.fPort, .str p0.fBase.fHost, .int .i64 p0.fBase.fPort]] (g59 p0) (fun r => .bool r) := by unfold FnD; kernel_rfl
noncomputable def s59 (p0 : SCandidate) : EV.Spec Tryd.prog GG (Bool) := .ofFn 59 mixed Tryd.func59 (k59 p0)
noncomputable def g49 (p0 : SCandidate) : TT (Int) :=
 .call 1002 (s59 p0) [] [] fun r68 =>
 .br 0 (!r68)
 (.done 90)
 (.done 0)
theorem k49 (p0 : SCandidate) : FnD Tryd.prog GG [0, 1, 2, 5] Tryd.f49 [.agg [.int .i64 p0.fKind, .int .i64 p0.fComponent, .int .i64 p0.fPriority, .str p0.fFoundation, .str p0.fAddr.fHost, .int .i64 p0.fAddr.fPort, .str p0.fBase.fHost, .int .i64 p0.fBase.fPort]] (g49 p0) (fun r => .int .i64 r) := by unfold FnD; kernel_rfl
noncomputable def s49 (p0 : SCandidate) : EV.Spec Tryd.prog GG (Int) := .ofFn 49 mixed Tryd.func49 (k49 p0)
end Go.Proofs.YtioobnkmohikjaaDoor
namespace Go.Proofs.YtioobnkmohikjaaDoor
open Go Go.EV
set_option maxRecDepth 100000
structure SBend where
 fWhat : Int
 fN : Int
 fS : ByteArray
 fA : SAddr
def ty_u8 : Ty Int := ⟨fun x => [.int .u8 x], fun x => [.int .u8 x], fun _ => rfl, fun _ => rfl, fun _ _ => rfl, fun _ => rfl⟩
noncomputable def g86 (p0 : Int) : TT (ByteArray) :=
 .br 0 (decide (p0 < 10))
 (.chk 2004 ((decide (0 ≤ (wi64 (p0 + 1))) && decide ((wi64 (p0 + 1)) ≤ (36 : Int))) && (decide (0 ≤ p0) && decide (p0 ≤ ((wi64 (p0 + 1)).toNat : Int)))) (.done ((bs [48, 49, 50, 51, 52, 53, 54, 55, 56, 57, 97, 98, 99, 100, 101, 102, 103, 104, 105, 106, 107, 108, 109, 110, 111, 112, 113, 114, 115, 116, 117, 118, 119, 120, 121, 122]).extract p0.toNat ((wi64 (p0 + 1)).toNat))))
 (.chk 3006 ((decide (0 ≤ (wi64 ((wi64 (p0 * 2)) + 2))) && decide ((wi64 ((wi64 (p0 * 2)) + 2)) ≤ (200 : Int))) && (decide (0 ≤ (wi64 (p0 * 2))) && decide ((wi64 (p0 * 2)) ≤ ((wi64 ((wi64 (p0 * 2)) + 2)).toNat : Int)))) (.done ((bs [48, 48, 48, 49, 48, 50, 48, 51, 48, 52, 48, 53, 48, 54, 48, 55, 48, 56, 48, 57, 49, 48, 49, 49, 49, 50, 49, 51, 49, 52, 49, 53, 49, 54, 49, 55, 49, 56, 49, 57, 50, 48, 50, 49, 50, 50, 50, 51, 50, 52, 50, 53, 50, 54, 50, 55, 50, 56, 50, 57, 51, 48, 51, 49, 51, 50, 51, 51, 51, 52, 51, 53, 51, 54, 51, 55, 51, 56, 51, 57, 52, 48, 52, 49, 52, 50, 52, 51, 52, 52, 52, 53, 52, 54, 52, 55, 52, 56, 52, 57, 53, 48, 53, 49, 53, 50, 53, 51, 53, 52, 53, 53, 53, 54, 53, 55, 53, 56, 53, 57, 54, 48, 54, 49, 54, 50, 54, 51, 54, 52, 54, 53, 54, 54, 54, 55, 54, 56, 54, 57, 55, 48, 55, 49, 55, 50, 55, 51, 55, 52, 55, 53, 55, 54, 55, 55, 55, 56, 55, 57, 56, 48, 56, 49, 56, 50, 56, 51, 56, 52, 56, 53, 56, 54, 56, 55, 56, 56, 56, 57, 57, 48, 57, 49, 57, 50, 57, 51, 57, 52, 57, 53, 57, 54, 57, 55, 57, 56, 57, 57]).extract ((wi64 (p0 * 2)).toNat) ((wi64 ((wi64 (p0 * 2)) + 2)).toNat))))
theorem k86 (p0 : Int) : FnD Tryd.prog GG [0, 2, 4] Tryd.f86 [.int .i64 p0] (g86 p0) (fun r => .str r) := by unfold FnD; kernel_rfl
noncomputable def s86 (p0 : Int) : EV.Spec Tryd.prog GG (ByteArray) := .ofFn 86 mixed Tryd.func86 (k86 p0)
noncomputable def g80 (p0 : Int) (p1 : Int) : TT (ByteArray) :=
 .br 0 (p1 == 10)
 (.cnd 2 [17]
  (.br 2004 (decide ((0 : Int) ≤ p0))
   (.done (decide (p0 < 100)))
   (.done false))
  (fun (c69 : Bool) => [.bool c69]) fun c69 =>
  .br 0 c69
  (.call 3002 (s86 p0) [] [] fun r70 =>
   .done r70)
  (.bind 0
   (.br 0 (decide (p0 < 0))
    (.done (wu64 (0 - (wu64 p0))))
    (.done (wu64 p0)))
   (fun (e71 : Int) => Ext.lit .normal [(0, .int .i64 p0), (1, .int .i64 p1), (4, .str ByteArray.empty), (5, .ptr 5 0 0), (6, .int .u64 e71)] [(5, ⟨24, true, [[.int .u8 0, .int .u8 0, .int .u8 0, .int .u8 0, .int .u8 0, .int .u8 0, .int .u8 0, .int .u8 0, .int .u8 0, .int .u8 0, .int .u8 0, .int .u8 0, .int .u8 0, .int .u8 0, .int .u8 0, .int .u8 0, .int .u8 0, .int .u8 0, .int .u8 0, .int .u8 0, .int .u8 0, .int .u8 0, .int .u8 0, .int .u8 0]]⟩)])
   (fun _ =>
    .fail)))
 (.fail)
theorem k80 (p0 : Int) (p1 : Int) : FnD Tryd.prog GG [0, 1, 4, 5, 6, 7, 9, 11, 17, 23, 34] Tryd.f80 [.int .i64 p0, .int .i64 p1] (g80 p0 p1) (fun r => .str r) := by unfold FnD; kernel_rfl
noncomputable def s80 (p0 : Int) (p1 : Int) : EV.Spec Tryd.prog GG (ByteArray) := .ofFn 80 mixed Tryd.func80 (k80 p0 p1)
noncomputable def g69 (p0 : Int) : TT (ByteArray) :=
 .call 1002 (s80 p0 10) [] [] fun r72 =>
 .done r72
theorem k69 (p0 : Int) : FnD Tryd.prog GG [0, 2] Tryd.f69 [.int .i64 p0] (g69 p0) (fun r => .str r) := by unfold FnD; kernel_rfl
noncomputable def s69 (p0 : Int) : EV.Spec Tryd.prog GG (ByteArray) := .ofFn 69 mixed Tryd.func69 (k69 p0)
noncomputable def g63 (p0 : Int) : TT (ByteArray) :=
 .call 1002 (s69 p0) [] [] fun r73 =>
 .done r73
theorem k63 (p0 : Int) : FnD Tryd.prog GG [0, 2] Tryd.f63 [.int .i64 p0] (g63 p0) (fun r => .str r) := by unfold FnD; kernel_rfl
noncomputable def s63 (p0 : Int) : EV.Spec Tryd.prog GG (ByteArray) := .ofFn 63 mixed Tryd.func63 (k63 p0)
noncomputable def g64 (p0 : ByteArray) : TT (ByteArray) :=
 .opr 1004 (Rule.makeD (ty := ty_u8) (t := 50) (e := 5) (zv := .int .u8 0) (zc := .int .u8 0) (0 : Int) (.const (.int .i64 0)) (.tmp 7) 8 0 (wi64 ((2 : Int) * (p0.size : Int))) 1 (by kernel_rfl) (by kernel_rfl) (by kernel_rfl) rfl ⟨rfl, rfl, rfl⟩ (fun _ _ => by constructor)) fun _ =>
 .gh 1 (.ren 8 600002) (.bind 0
 (.lp (fun (l75 : (List Int) × Int) => Ext.of .normal [(0, .str p0), (2, .str ByteArray.empty), (3, .ref 600002 0 l75.1.length), (4, .int .i64 l75.2)] [] [BT.of 600002 ty_u8 1 l75.1 true] (by rfl))
  (fun l75 =>
   .br 0 (decide (l75.2 < (p0.size : Int)))
   (.chk 5004 (decide (0 ≤ l75.2 ∧ l75.2 < (p0.size : Int))) (.chk 5006 (decide (0 ≤ (wu8 (Int.tdiv (bAt p0 l75.2) 16)) ∧ (wu8 (Int.tdiv (bAt p0 l75.2) 16)) < ((bs [48, 49, 50, 51, 52, 53, 54, 55, 56, 57, 97, 98, 99, 100, 101, 102]).size : Int))) (.chk 5009 (decide (0 ≤ l75.2 ∧ l75.2 < (p0.size : Int))) (.chk 5011 (decide (0 ≤ (Int.tmod (bAt p0 l75.2) 16) ∧ (Int.tmod (bAt p0 l75.2) 16) < ((bs [48, 49, 50, 51, 52, 53, 54, 55, 56, 57, 97, 98, 99, 100, 101, 102]).size : Int))) (.app 5013 ty_u8 l75.1 [(bAt (bs [48, 49, 50, 51, 52, 53, 54, 55, 56, 57, 97, 98, 99, 100, 101, 102]) (wu8 (Int.tdiv (bAt p0 l75.2) 16))), (bAt (bs [48, 49, 50, 51, 52, 53, 54, 55, 56, 57, 97, 98, 99, 100, 101, 102]) (Int.tmod (bAt p0 l75.2) 16))] 1 false (by intro h; cases h) (.gh 0 (.drop [600002]) (.gh 0 (.ren 27 600002) (.done (.inl ((l75.1 ++ [(bAt (bs [48, 49, 50, 51, 52, 53, 54, 55, 56, 57, 97, 98, 99, 100, 101, 102]) (wu8 (Int.tdiv (bAt p0 l75.2) 16))), (bAt (bs [48, 49, 50, 51, 52, 53, 54, 55, 56, 57, 97, 98, 99, 100, 101, 102]) (Int.tmod (bAt p0 l75.2) 16))]), (wi64 (l75.2 + 1))))))))))))
   (.done (.inr l75.1)))
  ([], 0))
 (fun (e76 : (List Int)) => Ext.of (.exit 0) [(2, .str ByteArray.empty), (3, .ref 600002 0 e76.length)] [] [BT.of 600002 ty_u8 1 e76 true] (by rfl))
 (fun e76 =>
  .opr 6002 (Rule.textOf (ty := ty_u8) (s := 50) (t := 9) (e := 5) (.tmp 28) 29 600002 e76 e76.length (by kernel_rfl) (by kernel_rfl) (by kernel_rfl) (by simp) (fun _ => rfl)) fun _ =>
  .done (strOfNums e76)))
theorem k64 (p0 : ByteArray) : FnD Tryd.prog GG [0, 2, 3, 4, 12] Tryd.f64 [.str p0] (g64 p0) (fun r => .str r) := by unfold FnD; kernel_rfl
noncomputable def s64 (p0 : ByteArray) : EV.Spec Tryd.prog GG (ByteArray) := .ofFn 64 mixed Tryd.func64 (k64 p0)
noncomputable def g55 (p0 : Int) (p1 : Int) (p2 : Int) : TT (Int × Int) :=
 .cnd 1 [30]
 (.br 1004 (decide (p0 < 1))
  (.done true)
  (.br 1008 (decide ((4 : Int) < p0))
   (.done true)
   (.br 1012 (decide (p1 < 0))
    (.done true)
    (.br 1016 (decide ((65535 : Int) < p1))
     (.done true)
     (.br 1020 (decide (p2 < 1))
      (.done true)
      (.done (decide ((256 : Int) < p2))))))))
 (fun (c77 : Bool) => [.bool c77]) fun c77 =>
 .br 0 c77
 (.done (0, 2))
 (.ceq 3003 p0 [0, 1, 2, 3, 4] (fun v => bif v == 0 then .br 0 ((wi64 ((wi64 ((wi64 ((0 : Int) + (wi64 ((256 : Int) * p1)))) + 256)) - p2)) == 0)
   (.done (0, 2))
   (.done ((wi64 ((wi64 ((wi64 ((0 : Int) + (wi64 ((256 : Int) * p1)))) + 256)) - p2)), 0)) else bif v == 1 then .br 0 ((wi64 ((wi64 ((wi64 ((2113929216 : Int) + (wi64 ((256 : Int) * p1)))) + 256)) - p2)) == 0)
   (.done (0, 2))
   (.done ((wi64 ((wi64 ((wi64 ((2113929216 : Int) + (wi64 ((256 : Int) * p1)))) + 256)) - p2)), 0)) else bif v == 2 then .br 0 ((wi64 ((wi64 ((wi64 ((1845493760 : Int) + (wi64 ((256 : Int) * p1)))) + 256)) - p2)) == 0)
   (.done (0, 2))
   (.done ((wi64 ((wi64 ((wi64 ((1845493760 : Int) + (wi64 ((256 : Int) * p1)))) + 256)) - p2)), 0)) else bif v == 3 then .br 0 ((wi64 ((wi64 ((wi64 ((1677721600 : Int) + (wi64 ((256 : Int) * p1)))) + 256)) - p2)) == 0)
   (.done (0, 2))
   (.done ((wi64 ((wi64 ((wi64 ((1677721600 : Int) + (wi64 ((256 : Int) * p1)))) + 256)) - p2)), 0)) else bif v == 4 then .br 0 ((wi64 ((wi64 ((wi64 ((0 : Int) + (wi64 ((256 : Int) * p1)))) + 256)) - p2)) == 0)
   (.done (0, 2))
   (.done ((wi64 ((wi64 ((wi64 ((0 : Int) + (wi64 ((256 : Int) * p1)))) + 256)) - p2)), 0)) else .fail))
theorem k55 (p0 : Int) (p1 : Int) (p2 : Int) : FnD Tryd.prog GG [0, 1, 2, 6, 7, 8, 30, 42] Tryd.f55 [.int .i64 p0, .int .i64 p1, .int .i64 p2] (g55 p0 p1 p2) (fun r => .tup [.int .i64 r.1, .int .i64 r.2]) := by unfold FnD; kernel_rfl
noncomputable def s55 (p0 : Int) (p1 : Int) (p2 : Int) : EV.Spec Tryd.prog GG (Int × Int) := .ofFn 55 mixed Tryd.func55 (k55 p0 p1 p2)
noncomputable def g54 (p0 : Int) (p1 : SAddr) (p2 : SAddr) : TT (ByteArray × Int) :=
 .cnd 1 [28]
 (.br 1004 (decide (p0 < 1))
  (.done true)
  (.br 1008 (decide ((4 : Int) < p0))
   (.done true)
   (.call 1009 (s62 p1) [] [] fun r78 =>
    .br 1013 (!r78)
    (.done true)
    (.br 1017 (!((decide (p2.fHost = ByteArray.empty)) && ((p2.fPort == 0) && true)))
     (.call 1018 (s62 p2) [] [] fun r79 =>
      .done (!r79))
     (.done false)))))
 (fun (c80 : Bool) => [.bool c80]) fun c80 =>
 .br 0 c80
 (.done (ByteArray.empty, 2))
 (.call 3002 (s63 p0) [] [] fun r81 =>
  .chk 3003 (decide (r81.size + (bs [45]).size ≤ 9223372036854775807)) (.call 3006 (s64 p1.fHost) [] [] fun r82 =>
  .chk 3007 (decide ((r81 ++ (bs [45])).size + r82.size ≤ 9223372036854775807)) (.chk 3008 (decide (((r81 ++ (bs [45])) ++ r82).size + (bs [45]).size ≤ 9223372036854775807)) (.call 3011 (s64 p2.fHost) [] [] fun r83 =>
  .chk 3012 (decide ((((r81 ++ (bs [45])) ++ r82) ++ (bs [45])).size + r83.size ≤ 9223372036854775807)) (.done (((((r81 ++ (bs [45])) ++ r82) ++ (bs [45])) ++ r83), 0))))))
theorem k54 (p0 : Int) (p1 : SAddr) (p2 : SAddr) : FnD Tryd.prog GG [0, 1, 2, 4, 5, 6, 7, 28] Tryd.f54 [.int .i64 p0, .agg [.str p1.fHost, .int .i64 p1.fPort], .agg [.str p2.fHost, .int .i64 p2.fPort]] (g54 p0 p1 p2) (fun r => .tup [.str r.1, .int .i64 r.2]) := by unfold FnD; kernel_rfl
noncomputable def s54 (p0 : Int) (p1 : SAddr) (p2 : SAddr) : EV.Spec Tryd.prog GG (ByteArray × Int) := .ofFn 54 mixed Tryd.func54 (k54 p0 p1 p2)
noncomputable def g56 (p0 : SCandidate) : TT (Bool) :=
 .cnd 1 [44]
 (.br 1005 (decide (p0.fKind < 1))
  (.done true)
  (.br 1010 (decide ((4 : Int) < p0.fKind))
   (.done true)
   (.br 1015 (decide (p0.fComponent < 1))
    (.done true)
    (.br 1020 (decide ((256 : Int) < p0.fComponent))
     (.done true)
     (.br 1025 (decide (p0.fPriority < 1))
      (.done true)
      (.br 1030 (decide ((2147483647 : Int) < p0.fPriority))
       (.done true)
       (.br 1036 (decide ((p0.fFoundation.size : Int) < 1))
        (.done true)
        (.done (decide ((80 : Int) < (p0.fFoundation.size : Int)))))))))))
 (fun (c86 : Bool) => [.bool c86]) fun c86 =>
 .br 0 c86
 (.done false)
 (.bind2 1
  (.lp (fun (l89 : Int) => Ext.lit .normal [(1, .ptr 1 0 0), (2, .bool false), (3, .int .i64 l89)] [(1, ⟨8, true, [[.int .i64 p0.fKind, .int .i64 p0.fComponent, .int .i64 p0.fPriority, .str p0.fFoundation, .str p0.fAddr.fHost, .int .i64 p0.fAddr.fPort, .str p0.fBase.fHost, .int .i64 p0.fBase.fPort]]⟩)])
   (fun l89 =>
    .br 0 (decide (l89 < (p0.fFoundation.size : Int)))
    (.chk 6004 (decide (0 ≤ l89 ∧ l89 < (p0.fFoundation.size : Int))) (.cnd 7 [75]
     (.br 7004 (decide ((48 : Int) ≤ (bAt p0.fFoundation l89)))
      (.br 7009 (!(decide ((bAt p0.fFoundation l89) ≤ 57)))
       (.br 7012 (decide ((97 : Int) ≤ (bAt p0.fFoundation l89)))
        (.br 7018 (!(decide ((bAt p0.fFoundation l89) ≤ 102)))
         (.done ((bAt p0.fFoundation l89) != 45))
         (.done false))
        (.done ((bAt p0.fFoundation l89) != 45)))
       (.done false))
      (.br 7012 (decide ((97 : Int) ≤ (bAt p0.fFoundation l89)))
       (.br 7018 (!(decide ((bAt p0.fFoundation l89) ≤ 102)))
        (.done ((bAt p0.fFoundation l89) != 45))
        (.done false))
       (.done ((bAt p0.fFoundation l89) != 45))))
     (fun (c90 : Bool) => [.bool c90]) fun c90 =>
     .br 0 c90
     (.done (.inr (.inl ())))
     (.done (.inl (wi64 (l89 + 1))))))
    (.done (.inr (.inr ()))))
   0)
  (fun (_ : Unit) => Ext.lit .ret [(1, .ptr 1 0 0), (2, .bool false)] [(1, ⟨8, true, [[.int .i64 p0.fKind, .int .i64 p0.fComponent, .int .i64 p0.fPriority, .str p0.fFoundation, .str p0.fAddr.fHost, .int .i64 p0.fAddr.fPort, .str p0.fBase.fHost, .int .i64 p0.fBase.fPort]]⟩)])
  (fun (_ : Unit) => Ext.lit (.exit 0) [(1, .ptr 1 0 0), (2, .bool false)] [(1, ⟨8, true, [[.int .i64 p0.fKind, .int .i64 p0.fComponent, .int .i64 p0.fPriority, .str p0.fFoundation, .str p0.fAddr.fHost, .int .i64 p0.fAddr.fPort, .str p0.fBase.fHost, .int .i64 p0.fBase.fPort]]⟩)])
  (fun _ =>
   .done false)
  (fun _ =>
   .cnd 9 [96]
   (.call 9003 (s62 p0.fAddr) [] [] fun r93 =>
    .br 9006 (!r93)
    (.done true)
    (.call 9008 (s62 p0.fBase) [] [] fun r94 =>
     .br 9012 (!r94)
     (.done true)
     (.done ((p0.fAddr.fHost.size : Int) != (p0.fBase.fHost.size : Int)))))
   (fun (c95 : Bool) => [.bool c95]) fun c95 =>
   .br 0 c95
   (.done false)
   (.cnd 11 [2]
    (.br 11007 ((decide (p0.fAddr.fHost = p0.fBase.fHost)) && ((p0.fAddr.fPort == p0.fBase.fPort) && true))
     (.done true)
     (.br 11011 (p0.fKind != 1)
      (.done (p0.fKind != 4))
      (.done false)))
    (fun (c96 : Bool) => [.bool c96]) fun c96 =>
    .done c96)))
theorem k56 (p0 : SCandidate) : FnD Tryd.prog GG [0, 1, 2, 3, 4, 44, 49, 75, 96] Tryd.f56 [.agg [.int .i64 p0.fKind, .int .i64 p0.fComponent, .int .i64 p0.fPriority, .str p0.fFoundation, .str p0.fAddr.fHost, .int .i64 p0.fAddr.fPort, .str p0.fBase.fHost, .int .i64 p0.fBase.fPort]] (g56 p0) (fun r => .bool r) := by unfold FnD; kernel_rfl
noncomputable def s56 (p0 : SCandidate) : EV.Spec Tryd.prog GG (Bool) := .ofFn 56 mixed Tryd.func56 (k56 p0)
noncomputable def g36 (p0 : Int) (p1 : SAddr) (p2 : SAddr) (p3 : SAddr) (p4 : Int) (p5 : Int) : TT (SCandidate × Int) :=
 .call 1004 (s54 p0 p2 p3) [] [] fun r84 =>
 .br 0 (r84.2 != 0)
 (.done ((SCandidate.mk 0 0 0 ByteArray.empty (SAddr.mk ByteArray.empty 0) (SAddr.mk ByteArray.empty 0)), r84.2))
 (.call 4004 (s55 p0 p4 p5) [] [] fun r85 =>
  .br 0 (r85.2 != 0)
  (.done ((SCandidate.mk 0 0 0 ByteArray.empty (SAddr.mk ByteArray.empty 0) (SAddr.mk ByteArray.empty 0)), r85.2))
  (.call 8002 (s56 (SCandidate.mk p0 p5 r85.1 r84.1 p1 p2)) [] [] fun r97 =>
   .br 0 (!r97)
   (.done ((SCandidate.mk 0 0 0 ByteArray.empty (SAddr.mk ByteArray.empty 0) (SAddr.mk ByteArray.empty 0)), 90))
   (.done ((SCandidate.mk p0 p5 r85.1 r84.1 p1 p2), 0))))
theorem k36 (p0 : Int) (p1 : SAddr) (p2 : SAddr) (p3 : SAddr) (p4 : Int) (p5 : Int) : FnD Tryd.prog GG [0, 1, 2, 3, 4, 5, 7, 8, 9, 12, 13, 14, 15, 16, 17, 26, 37, 49] Tryd.f36 [.int .i64 p0, .agg [.str p1.fHost, .int .i64 p1.fPort], .agg [.str p2.fHost, .int .i64 p2.fPort], .agg [.str p3.fHost, .int .i64 p3.fPort], .int .i64 p4, .int .i64 p5] (g36 p0 p1 p2 p3 p4 p5) (fun r => .tup [.agg [.int .i64 r.1.fKind, .int .i64 r.1.fComponent, .int .i64 r.1.fPriority, .str r.1.fFoundation, .str r.1.fAddr.fHost, .int .i64 r.1.fAddr.fPort, .str r.1.fBase.fHost, .int .i64 r.1.fBase.fPort], .int .i64 r.2]) := by unfold FnD; kernel_rfl
noncomputable def s36 (p0 : Int) (p1 : SAddr) (p2 : SAddr) (p3 : SAddr) (p4 : Int) (p5 : Int) : EV.Spec Tryd.prog GG (SCandidate × Int) := .ofFn 36 mixed Tryd.func36 (k36 p0 p1 p2 p3 p4 p5)
noncomputable def g15 (p0 : Int) (p1 : Int) (p2 : Int) : TT (SCandidate) :=
 .call 2005 (s36 1 (SAddr.mk (strOfNums [10, 0, 0, p0]) p1) (SAddr.mk (strOfNums [10, 0, 0, p0]) p1) (SAddr.mk ByteArray.empty 0) p2 1) [] [] fun r106 =>
 .done r106.1
theorem k15 (p0 : Int) (p1 : Int) (p2 : Int) : FnD Tryd.prog GG [0, 1, 2, 6, 7, 8] Tryd.f15 [.int .u8 p0, .int .i64 p1, .int .i64 p2] (g15 p0 p1 p2) (fun r => .agg [.int .i64 r.fKind, .int .i64 r.fComponent, .int .i64 r.fPriority, .str r.fFoundation, .str r.fAddr.fHost, .int .i64 r.fAddr.fPort, .str r.fBase.fHost, .int .i64 r.fBase.fPort]) := by unfold FnD; kernel_rfl
noncomputable def s15 (p0 : Int) (p1 : Int) (p2 : Int) : EV.Spec Tryd.prog GG (SCandidate) := .ofFn 15 mixed Tryd.func15 (k15 p0 p1 p2)
noncomputable def g45 (p0 : SBend) (p1 : SCandidate) : TT (SCandidate) :=
 .br 0 ((Int.tmod p0.fWhat 6) == 0)
 (.done (SCandidate.mk p0.fN p1.fComponent p1.fPriority p1.fFoundation p1.fAddr p1.fBase))
 (.br 0 ((Int.tmod p0.fWhat 6) == 1)
  (.done (SCandidate.mk p1.fKind p0.fN p1.fPriority p1.fFoundation p1.fAddr p1.fBase))
  (.br 0 ((Int.tmod p0.fWhat 6) == 2)
   (.done (SCandidate.mk p1.fKind p1.fComponent p0.fN p1.fFoundation p1.fAddr p1.fBase))
   (.br 0 ((Int.tmod p0.fWhat 6) == 3)
    (.done (SCandidate.mk p1.fKind p1.fComponent p1.fPriority p0.fS p1.fAddr p1.fBase))
    (.br 0 ((Int.tmod p0.fWhat 6) == 4)
     (.done (SCandidate.mk p1.fKind p1.fComponent p1.fPriority p1.fFoundation p0.fA p1.fBase))
     (.done (SCandidate.mk p1.fKind p1.fComponent p1.fPriority p1.fFoundation p1.fAddr p0.fA))))))
theorem k45 (p0 : SBend) (p1 : SCandidate) : FnD Tryd.prog GG [0, 1, 2, 3, 4, 7, 11, 16, 21, 26, 31] Tryd.f45 [.agg [.int .u8 p0.fWhat, .int .i64 p0.fN, .str p0.fS, .str p0.fA.fHost, .int .i64 p0.fA.fPort], .agg [.int .i64 p1.fKind, .int .i64 p1.fComponent, .int .i64 p1.fPriority, .str p1.fFoundation, .str p1.fAddr.fHost, .int .i64 p1.fAddr.fPort, .str p1.fBase.fHost, .int .i64 p1.fBase.fPort]] (g45 p0 p1) (fun r => .agg [.int .i64 r.fKind, .int .i64 r.fComponent, .int .i64 r.fPriority, .str r.fFoundation, .str r.fAddr.fHost, .int .i64 r.fAddr.fPort, .str r.fBase.fHost, .int .i64 r.fBase.fPort]) := by unfold FnD; kernel_rfl
noncomputable def s45 (p0 : SBend) (p1 : SCandidate) : EV.Spec Tryd.prog GG (SCandidate) := .ofFn 45 mixed Tryd.func45 (k45 p0 p1)
end Go.Proofs.YtioobnkmohikjaaDoor
namespace Go.Proofs.YtioobnkmohikjaaDoor
open Go Go.EV
set_option maxRecDepth 100000
structure SBend1 where
 fWhat : Int
 fAt : Int
 fN : Int
 fC : SBend
noncomputable def g20 (p0 : SBend1) (p1 : SList) : TT (SList) :=
 .call 1002 (s44 p1) [] [(7, 500005)] fun r116 =>
 .app 3004 tySCandidate [] p1.fLocals 88 true (by intros; rfl) (.app 3008 tySCandidate [] p1.fRemotes 88 true (by intros; rfl) (.bind 0
 (.br 0 (decide ((0 : Int) < (r116.length : Int)))
  (.chk 6007 (!((r116.length : Int) == 0)) (.chk 6008 (decide (0 ≤ (Int.tmod (wi64 p0.fAt) (r116.length : Int))) && decide ((Int.tmod (wi64 p0.fAt) (r116.length : Int)) < (r116.length : Int))) (.br 0 ((Int.tmod p0.fWhat 11) == 0)
   (.row 9006 tySPair r116 (0 + (Int.tmod (wi64 p0.fAt) (r116.length : Int)).toNat) true fun x117 =>
    .re 9006 (ReW.put 500005 4 tySPair r116 (0 + (Int.tmod (wi64 p0.fAt) (r116.length : Int)).toNat) (SPair.mk p0.fN x117.fRemote x117.fPriority x117.fState)) (.gh 0 (.len 500005 ((r116.set (0 + (Int.tmod (wi64 p0.fAt) (r116.length : Int)).toNat) (SPair.mk p0.fN x117.fRemote x117.fPriority x117.fState)).length) [r116.length] (by simp)) (.gh 0 (.ren 500005 600006) (.done (r116.set (0 + (Int.tmod (wi64 p0.fAt) (r116.length : Int)).toNat) (SPair.mk p0.fN x117.fRemote x117.fPriority x117.fState))))))
   (.br 0 ((Int.tmod p0.fWhat 11) == 1)
    (.row 11006 tySPair r116 (0 + (Int.tmod (wi64 p0.fAt) (r116.length : Int)).toNat) true fun x118 =>
     .re 11006 (ReW.put 500005 4 tySPair r116 (0 + (Int.tmod (wi64 p0.fAt) (r116.length : Int)).toNat) (SPair.mk x118.fLocal p0.fN x118.fPriority x118.fState)) (.gh 0 (.len 500005 ((r116.set (0 + (Int.tmod (wi64 p0.fAt) (r116.length : Int)).toNat) (SPair.mk x118.fLocal p0.fN x118.fPriority x118.fState)).length) [r116.length] (by simp)) (.gh 0 (.ren 500005 600006) (.done (r116.set (0 + (Int.tmod (wi64 p0.fAt) (r116.length : Int)).toNat) (SPair.mk x118.fLocal p0.fN x118.fPriority x118.fState))))))
    (.br 0 ((Int.tmod p0.fWhat 11) == 2)
     (.row 13006 tySPair r116 (0 + (Int.tmod (wi64 p0.fAt) (r116.length : Int)).toNat) true fun x119 =>
      .re 13006 (ReW.put 500005 4 tySPair r116 (0 + (Int.tmod (wi64 p0.fAt) (r116.length : Int)).toNat) (SPair.mk x119.fLocal x119.fRemote p0.fN x119.fState)) (.gh 0 (.len 500005 ((r116.set (0 + (Int.tmod (wi64 p0.fAt) (r116.length : Int)).toNat) (SPair.mk x119.fLocal x119.fRemote p0.fN x119.fState)).length) [r116.length] (by simp)) (.gh 0 (.ren 500005 600006) (.done (r116.set (0 + (Int.tmod (wi64 p0.fAt) (r116.length : Int)).toNat) (SPair.mk x119.fLocal x119.fRemote p0.fN x119.fState))))))
     (.br 0 ((Int.tmod p0.fWhat 11) == 3)
      (.row 15006 tySPair r116 (0 + (Int.tmod (wi64 p0.fAt) (r116.length : Int)).toNat) true fun x120 =>
       .re 15006 (ReW.put 500005 4 tySPair r116 (0 + (Int.tmod (wi64 p0.fAt) (r116.length : Int)).toNat) (SPair.mk x120.fLocal x120.fRemote x120.fPriority p0.fN)) (.gh 0 (.len 500005 ((r116.set (0 + (Int.tmod (wi64 p0.fAt) (r116.length : Int)).toNat) (SPair.mk x120.fLocal x120.fRemote x120.fPriority p0.fN)).length) [r116.length] (by simp)) (.gh 0 (.ren 500005 600006) (.done (r116.set (0 + (Int.tmod (wi64 p0.fAt) (r116.length : Int)).toNat) (SPair.mk x120.fLocal x120.fRemote x120.fPriority p0.fN))))))
      (.br 0 ((Int.tmod p0.fWhat 11) == 4)
       (.row 17005 tySPair r116 (0 + (Int.tmod (wi64 p0.fAt) (r116.length : Int)).toNat) true fun x121 =>
        .app 17007 tySPair r116 [x121] 32 false (by intro h; cases h) (.gh 0 (.ren 75 600006) (.done (r116 ++ [x121]))))
       (.br 0 ((Int.tmod p0.fWhat 11) == 5)
        (.chk 19007 (!((r116.length : Int) == 0)) (.chk 19008 (decide (0 ≤ (Int.tmod (wi64 p0.fAt) (r116.length : Int))) && decide ((Int.tmod (wi64 p0.fAt) (r116.length : Int)) ≤ (r116.length : Int))) (.chk 19015 (!((r116.length : Int) == 0)) (.chk 19017 (decide (0 ≤ (wi64 ((Int.tmod (wi64 p0.fAt) (r116.length : Int)) + 1))) && decide ((wi64 ((Int.tmod (wi64 p0.fAt) (r116.length : Int)) + 1)) ≤ (r116.length : Int))) (.opr 19018 (Rule.appCut (ty := tySPair) (t := 29) (t2 := 29) (e := 37) (e2 := 37) (z := 4) (bytes := 32) (.tmp 86) (.tmp 95) 96 500005 ((Int.tmod (wi64 p0.fAt) (r116.length : Int)).toNat) ((wi64 ((Int.tmod (wi64 p0.fAt) (r116.length : Int)) + 1)).toNat) (r116.length - (wi64 ((Int.tmod (wi64 p0.fAt) (r116.length : Int)) + 1)).toNat) r116 (by kernel_rfl) (by kernel_rfl) (by kernel_rfl) (by decide) (by kernel_rfl) (fun _ => rfl)) fun _ =>
         .gh 0 (.ren 96 600006) (.done (r116.take ((Int.tmod (wi64 p0.fAt) (r116.length : Int)).toNat) ++ (r116.drop ((wi64 ((Int.tmod (wi64 p0.fAt) (r116.length : Int)) + 1)).toNat)).take (r116.length - (wi64 ((Int.tmod (wi64 p0.fAt) (r116.length : Int)) + 1)).toNat))))))))
        (.gh 0 (.ren 500005 600006) (.done r116))))))))))
  (.gh 0 (.ren 500005 600006) (.done r116)))
 (fun (e122 : (List SPair)) => Ext.of .normal [(2, .ptr 2 0 0), (3, .ptr 3 0 0), (4, .ptr 4 0 0), (7, .int .i64 (wi64 p0.fAt))] [(2, ⟨8, true, [[.int .u8 p0.fWhat, .int .u8 p0.fAt, .int .i64 p0.fN, .int .u8 p0.fC.fWhat, .int .i64 p0.fC.fN, .str p0.fC.fS, .str p0.fC.fA.fHost, .int .i64 p0.fC.fA.fPort]]⟩), (3, ⟨4, true, [[.bool p1.fControlling, .ref 14 0 (([] ++ p1.fLocals).length), .ref 18 0 (([] ++ p1.fRemotes).length), .ref 600006 0 e122.length]]⟩), (4, ⟨4, true, [[.bool false, .nilsl, .nilsl, .nilsl]]⟩)] [BT.of 14 tySCandidate 8 ([] ++ p1.fLocals) true, BT.of 18 tySCandidate 8 ([] ++ p1.fRemotes) true, BT.of 600006 tySPair 4 e122 true] (by rfl))
 (fun e122 =>
  .br 0 ((Int.tmod p0.fWhat 11) == 6)
  (.gh 0 (.share (VwW.of 14 tySCandidate ([] ++ p1.fLocals)) 1) (.gh 0 (.share (VwW.of 18 tySCandidate ([] ++ p1.fRemotes)) 1) (.gh 0 (.share (VwW.of 600006 tySPair e122) 1) (.done (SList.mk (!p1.fControlling) ([] ++ p1.fLocals) ([] ++ p1.fRemotes) e122)))))
  (.br 0 ((Int.tmod p0.fWhat 11) == 7)
   (.br 0 (decide ((0 : Int) < (([] ++ p1.fLocals).length : Int)))
    (.chk 25007 (!((([] ++ p1.fLocals).length : Int) == 0)) (.chk 25016 (!((([] ++ p1.fLocals).length : Int) == 0)) (.chk 25017 (decide (0 ≤ (Int.tmod (wi64 p0.fAt) (([] ++ p1.fLocals).length : Int))) && decide ((Int.tmod (wi64 p0.fAt) (([] ++ p1.fLocals).length : Int)) < (([] ++ p1.fLocals).length : Int))) (.row 25018 tySCandidate ([] ++ p1.fLocals) (0 + (Int.tmod (wi64 p0.fAt) (([] ++ p1.fLocals).length : Int)).toNat) true fun x123 =>
     .call 25019 (s45 p0.fC x123) [] [] fun r124 =>
     .chk 25020 (decide (0 ≤ (Int.tmod (wi64 p0.fAt) (([] ++ p1.fLocals).length : Int))) && decide ((Int.tmod (wi64 p0.fAt) (([] ++ p1.fLocals).length : Int)) < (([] ++ p1.fLocals).length : Int))) (.row 25021 tySCandidate ([] ++ p1.fLocals) (0 + (Int.tmod (wi64 p0.fAt) (([] ++ p1.fLocals).length : Int)).toNat) true fun x125 =>
     .re 25021 (ReW.put 14 8 tySCandidate ([] ++ p1.fLocals) (0 + (Int.tmod (wi64 p0.fAt) (([] ++ p1.fLocals).length : Int)).toNat) r124) (.gh 36 (.len 14 ((([] ++ p1.fLocals).set (0 + (Int.tmod (wi64 p0.fAt) (([] ++ p1.fLocals).length : Int)).toNat) r124).length) [([] ++ p1.fLocals).length] (by simp)) (.gh 0 (.share (VwW.of 14 tySCandidate (([] ++ p1.fLocals).set (0 + (Int.tmod (wi64 p0.fAt) (([] ++ p1.fLocals).length : Int)).toNat) r124)) 1) (.gh 0 (.share (VwW.of 18 tySCandidate ([] ++ p1.fRemotes)) 1) (.gh 0 (.share (VwW.of 600006 tySPair e122) 1) (.done (SList.mk p1.fControlling (([] ++ p1.fLocals).set (0 + (Int.tmod (wi64 p0.fAt) (([] ++ p1.fLocals).length : Int)).toNat) r124) ([] ++ p1.fRemotes) e122)))))))))))
    (.gh 0 (.share (VwW.of 14 tySCandidate ([] ++ p1.fLocals)) 1) (.gh 0 (.share (VwW.of 18 tySCandidate ([] ++ p1.fRemotes)) 1) (.gh 0 (.share (VwW.of 600006 tySPair e122) 1) (.done (SList.mk p1.fControlling ([] ++ p1.fLocals) ([] ++ p1.fRemotes) e122))))))
   (.br 0 ((Int.tmod p0.fWhat 11) == 8)
    (.br 0 (decide ((0 : Int) < (([] ++ p1.fRemotes).length : Int)))
     (.chk 28007 (!((([] ++ p1.fRemotes).length : Int) == 0)) (.chk 28016 (!((([] ++ p1.fRemotes).length : Int) == 0)) (.chk 28017 (decide (0 ≤ (Int.tmod (wi64 p0.fAt) (([] ++ p1.fRemotes).length : Int))) && decide ((Int.tmod (wi64 p0.fAt) (([] ++ p1.fRemotes).length : Int)) < (([] ++ p1.fRemotes).length : Int))) (.row 28018 tySCandidate ([] ++ p1.fRemotes) (0 + (Int.tmod (wi64 p0.fAt) (([] ++ p1.fRemotes).length : Int)).toNat) true fun x126 =>
      .call 28019 (s45 p0.fC x126) [] [] fun r127 =>
      .chk 28020 (decide (0 ≤ (Int.tmod (wi64 p0.fAt) (([] ++ p1.fRemotes).length : Int))) && decide ((Int.tmod (wi64 p0.fAt) (([] ++ p1.fRemotes).length : Int)) < (([] ++ p1.fRemotes).length : Int))) (.row 28021 tySCandidate ([] ++ p1.fRemotes) (0 + (Int.tmod (wi64 p0.fAt) (([] ++ p1.fRemotes).length : Int)).toNat) true fun x128 =>
      .re 28021 (ReW.put 18 8 tySCandidate ([] ++ p1.fRemotes) (0 + (Int.tmod (wi64 p0.fAt) (([] ++ p1.fRemotes).length : Int)).toNat) r127) (.gh 36 (.len 18 ((([] ++ p1.fRemotes).set (0 + (Int.tmod (wi64 p0.fAt) (([] ++ p1.fRemotes).length : Int)).toNat) r127).length) [([] ++ p1.fRemotes).length] (by simp)) (.gh 0 (.share (VwW.of 14 tySCandidate ([] ++ p1.fLocals)) 1) (.gh 0 (.share (VwW.of 18 tySCandidate (([] ++ p1.fRemotes).set (0 + (Int.tmod (wi64 p0.fAt) (([] ++ p1.fRemotes).length : Int)).toNat) r127)) 1) (.gh 0 (.share (VwW.of 600006 tySPair e122) 1) (.done (SList.mk p1.fControlling ([] ++ p1.fLocals) (([] ++ p1.fRemotes).set (0 + (Int.tmod (wi64 p0.fAt) (([] ++ p1.fRemotes).length : Int)).toNat) r127) e122)))))))))))
     (.gh 0 (.share (VwW.of 14 tySCandidate ([] ++ p1.fLocals)) 1) (.gh 0 (.share (VwW.of 18 tySCandidate ([] ++ p1.fRemotes)) 1) (.gh 0 (.share (VwW.of 600006 tySPair e122) 1) (.done (SList.mk p1.fControlling ([] ++ p1.fLocals) ([] ++ p1.fRemotes) e122))))))
    (.br 0 ((Int.tmod p0.fWhat 11) == 9)
     (.br 0 (decide ((0 : Int) < (([] ++ p1.fLocals).length : Int)))
      (.chk 31003 (decide (0 ≤ (1 : Int)) && decide ((1 : Int) ≤ (([] ++ p1.fLocals).length : Int))) (.cutg 0 14 tySCandidate ([] ++ p1.fLocals) 1 (fun _ => rfl) (.gh 0 (.len 14 ((([] ++ p1.fLocals).drop 1).length) [(([] ++ p1.fLocals).length - 1), (([] ++ p1.fLocals).length - 1)] (by simp)) (.gh 0 (.share (VwW.of 14 tySCandidate (([] ++ p1.fLocals).drop 1)) 1) (.gh 0 (.share (VwW.of 18 tySCandidate ([] ++ p1.fRemotes)) 1) (.gh 0 (.share (VwW.of 600006 tySPair e122) 1) (.done (SList.mk p1.fControlling (([] ++ p1.fLocals).drop 1) ([] ++ p1.fRemotes) e122))))))))
      (.gh 0 (.share (VwW.of 14 tySCandidate ([] ++ p1.fLocals)) 1) (.gh 0 (.share (VwW.of 18 tySCandidate ([] ++ p1.fRemotes)) 1) (.gh 0 (.share (VwW.of 600006 tySPair e122) 1) (.done (SList.mk p1.fControlling ([] ++ p1.fLocals) ([] ++ p1.fRemotes) e122))))))
     (.br 0 ((Int.tmod p0.fWhat 11) == 10)
      (.opr 33005 (Rule.appCut (ty := tySCandidate) (t := 27) (t2 := 27) (e := 42) (e2 := 42) (z := 8) (bytes := 88) (.tmp 172) (.tmp 174) 175 18 (([] ++ p1.fRemotes).length) 0 (([] ++ p1.fRemotes).length) ([] ++ p1.fRemotes) (by kernel_rfl) (by kernel_rfl) (by kernel_rfl) (by decide) (by kernel_rfl) (fun _ => rfl)) fun _ =>
       .gh 0 (.share (VwW.of 14 tySCandidate ([] ++ p1.fLocals)) 1) (.gh 0 (.share (VwW.of 175 tySCandidate (([] ++ p1.fRemotes).take (([] ++ p1.fRemotes).length) ++ (([] ++ p1.fRemotes).drop 0).take (([] ++ p1.fRemotes).length))) 1) (.gh 0 (.share (VwW.of 600006 tySPair e122) 1) (.done (SList.mk p1.fControlling ([] ++ p1.fLocals) (([] ++ p1.fRemotes).take (([] ++ p1.fRemotes).length) ++ (([] ++ p1.fRemotes).drop 0).take (([] ++ p1.fRemotes).length)) e122)))))
      (.gh 0 (.share (VwW.of 14 tySCandidate ([] ++ p1.fLocals)) 1) (.gh 0 (.share (VwW.of 18 tySCandidate ([] ++ p1.fRemotes)) 1) (.gh 0 (.share (VwW.of 600006 tySPair e122) 1) (.done (SList.mk p1.fControlling ([] ++ p1.fLocals) ([] ++ p1.fRemotes) e122))))))))))))
theorem k20 (p0 : SBend1) (p1 : SList) : FnD Tryd.prog GG [0, 1, 2, 3, 4, 5, 6, 7, 8, 27, 38, 39, 46, 53, 60, 67, 77, 100, 101, 107, 112, 133, 138, 159, 164, 169] Tryd.f20 [.agg [.int .u8 p0.fWhat, .int .u8 p0.fAt, .int .i64 p0.fN, .int .u8 p0.fC.fWhat, .int .i64 p0.fC.fN, .str p0.fC.fS, .str p0.fC.fA.fHost, .int .i64 p0.fC.fA.fPort], .agg [.bool p1.fControlling, .sl false 8 (List.map tySCandidate.c p1.fLocals), .sl false 8 (List.map tySCandidate.c p1.fRemotes), .sl false 4 (List.map tySPair.c p1.fPairs)]] (g20 p0 p1) (fun r => .agg [.bool r.fControlling, .sl false 8 (List.map tySCandidate.c r.fLocals), .sl false 8 (List.map tySCandidate.c r.fRemotes), .sl false 4 (List.map tySPair.c r.fPairs)]) := by unfold FnD; kernel_rfl
noncomputable def s20 (p0 : SBend1) (p1 : SList) : EV.Spec Tryd.prog GG (SList) := .ofFn 20 mixed Tryd.func20 (k20 p0 p1)
end Go.Proofs.YtioobnkmohikjaaDoor
namespace Go.Proofs.YtioobnkmohikjaaDoor
open Go Go.EV
set_option maxRecDepth 100000
structure SEnt76 where
 fk : SLike
 fv : Bool
structure SEnt94 where
 fk : S2String
 fv : Bool
def tySEnt76 : Ty SEnt76 := ⟨fun x => [.str x.fk.fbase.fHost, .int .i64 x.fk.fbase.fPort, .str x.fk.faddr.fHost, .int .i64 x.fk.faddr.fPort, .int .i64 x.fk.fcomponent, .bool x.fv], fun x => [.str x.fk.fbase.fHost, .int .i64 x.fk.fbase.fPort, .str x.fk.faddr.fHost, .int .i64 x.fk.faddr.fPort, .int .i64 x.fk.fcomponent, .bool x.fv], fun _ => rfl, fun _ => rfl, fun _ _ => rfl, fun _ => rfl⟩
def tySEnt94 : Ty SEnt94 := ⟨fun x => [.str x.fk.a0, .str x.fk.a1, .bool x.fv], fun x => [.str x.fk.a0, .str x.fk.a1, .bool x.fv], fun _ => rfl, fun _ => rfl, fun _ _ => rfl, fun _ => rfl⟩
noncomputable def g48 (p0 : SCandidate) : TT (Bool) :=
 .call 1002 (s49 p0) [] [] fun r131 =>
 .done (r131 != 0)
theorem k48 (p0 : SCandidate) : FnD Tryd.prog GG [0, 1, 2] Tryd.f48 [.agg [.int .i64 p0.fKind, .int .i64 p0.fComponent, .int .i64 p0.fPriority, .str p0.fFoundation, .str p0.fAddr.fHost, .int .i64 p0.fAddr.fPort, .str p0.fBase.fHost, .int .i64 p0.fBase.fPort]] (g48 p0) (fun r => .bool r) := by unfold FnD; kernel_rfl
noncomputable def s48 (p0 : SCandidate) : EV.Spec Tryd.prog GG (Bool) := .ofFn 48 mixed Tryd.func48 (k48 p0)
noncomputable def g58 (p0 : (List SCandidate)) : TT (Int) :=
 .bind2 1
 (.lp (fun (l132 : Int) => Ext.lit .normal [(0, .sl false 8 (List.map tySCandidate.c p0)), (1, .fn 48 [] []), (4, .int .i64 0), (7, .int .i64 (mlen tySCandidate p0)), (8, .int .i64 l132)] [])
  (fun l132 =>
   .br 0 (decide (l132 < (mlen tySCandidate p0)))
   (.row 4004 tySCandidate p0 l132.toNat (decide (0 ≤ l132)) fun x133 =>
    .call 4006 (s48 x133) [] [] fun r134 =>
    .br 0 r134
    (.done (.inr (.inl l132)))
    (.done (.inl (wi64 (l132 + 1)))))
   (.done (.inr (.inr ()))))
  0)
 (fun (e135 : Int) => Ext.lit .ret [(4, .int .i64 e135)] [])
 (fun (_ : Unit) => Ext.lit (.exit 0) [(4, .int .i64 0)] [])
 (fun e135 =>
  .done e135)
 (fun _ =>
  .done (-1))
theorem k58 (p0 : (List SCandidate)) : FnD Tryd.prog GG [0, 1, 4, 5, 7, 8, 9, 16] Tryd.f58 [.sl false 8 (List.map tySCandidate.c p0), .fn 48 [] []] (g58 p0) (fun r => .int .i64 r) := by unfold FnD; kernel_rfl
noncomputable def s58 (p0 : (List SCandidate)) : EV.Spec Tryd.prog GG (Int) := .ofFn 58 mixed Tryd.func58 (k58 p0)
noncomputable def g47 (p0 : (List SCandidate)) : TT (Bool) :=
 .call 1003 (s58 p0) [] [] fun r137 =>
 .done (decide ((0 : Int) ≤ r137))
theorem k47 (p0 : (List SCandidate)) : FnD Tryd.prog GG [0, 1, 4] Tryd.f47 [.sl false 8 (List.map tySCandidate.c p0), .fn 48 [] []] (g47 p0) (fun r => .bool r) := by unfold FnD; kernel_rfl
noncomputable def s47 (p0 : (List SCandidate)) : EV.Spec Tryd.prog GG (Bool) := .ofFn 47 mixed Tryd.func47 (k47 p0)
noncomputable def g23 (p0 : (List SCandidate)) : TT (Bool) :=
 .call 1002 (s47 p0) [] [] fun r138 =>
 .done (!r138)
theorem k23 (p0 : (List SCandidate)) : FnD Tryd.prog GG [0, 2] Tryd.f23 [.sl false 8 (List.map tySCandidate.c p0)] (g23 p0) (fun r => .bool r) := by unfold FnD; kernel_rfl
noncomputable def s23 (p0 : (List SCandidate)) : EV.Spec Tryd.prog GG (Bool) := .ofFn 23 mixed Tryd.func23 (k23 p0)
noncomputable def g37 (p0 : SPair) : TT (Int) :=
 .done p0.fPriority
theorem k37 (p0 : SPair) : FnD Tryd.prog GG [0, 1, 2] Tryd.f37 [.agg [.int .i64 p0.fLocal, .int .i64 p0.fRemote, .int .i64 p0.fPriority, .int .i64 p0.fState]] (g37 p0) (fun r => .int .i64 r) := by unfold FnD; kernel_rfl
noncomputable def s37 (p0 : SPair) : EV.Spec Tryd.prog GG (Int) := .ofFn 37 mixed Tryd.func37 (k37 p0)
noncomputable def g39 (p0 : SPair) : TT (Bool) :=
 .done (p0.fState == 1)
theorem k39 (p0 : SPair) : FnD Tryd.prog GG [0, 1, 2] Tryd.f39 [.agg [.int .i64 p0.fLocal, .int .i64 p0.fRemote, .int .i64 p0.fPriority, .int .i64 p0.fState]] (g39 p0) (fun r => .bool r) := by unfold FnD; kernel_rfl
noncomputable def s39 (p0 : SPair) : EV.Spec Tryd.prog GG (Bool) := .ofFn 39 mixed Tryd.func39 (k39 p0)
noncomputable def g41 (p0 : SPair) : TT (Bool) :=
 .done (decide (p0.fState < 3))
theorem k41 (p0 : SPair) : FnD Tryd.prog GG [0, 1, 2] Tryd.f41 [.agg [.int .i64 p0.fLocal, .int .i64 p0.fRemote, .int .i64 p0.fPriority, .int .i64 p0.fState]] (g41 p0) (fun r => .bool r) := by unfold FnD; kernel_rfl
noncomputable def s41 (p0 : SPair) : EV.Spec Tryd.prog GG (Bool) := .ofFn 41 mixed Tryd.func41 (k41 p0)
noncomputable def g43 (p0 : SPlanner) : TT (Bool) :=
 .cnd 1 [48]
 (.br 1009 (decide ((12 : Int) < (mlen tySCandidate p0.fList.fLocals)))
  (.done true)
  (.br 1018 (decide ((12 : Int) < (mlen tySCandidate p0.fList.fRemotes)))
   (.done true)
   (.br 1027 (decide ((36 : Int) < (mlen tySPair p0.fList.fPairs)))
    (.done true)
    (.call 1032 (s23 p0.fList.fLocals) [] [] fun r139 =>
     .br 1036 (!r139)
     (.done true)
     (.call 1041 (s23 p0.fList.fRemotes) [] [] fun r140 =>
      .done (!r140))))))
 (fun (c141 : Bool) => [.bool c141]) fun c141 =>
 .br 0 c141
 (.done false)
 (.opr 3001 (Rule.makeMap 76 49 1114373 (by decide)) fun _ =>
  .bind2 1
  (.lp (fun (l152 : (List SEnt76) × Int) => Ext.of .normal [(0, .snap [.bool p0.fList.fControlling, .sl false 8 (List.map tySCandidate.c p0.fList.fLocals), .sl false 8 (List.map tySCandidate.c p0.fList.fRemotes), .sl false 4 (List.map tySPair.c p0.fList.fPairs)]), (2, .bool false), (3, .mp 49), (54, .sl false 4 (List.map tySPair.c p0.fList.fPairs)), (55, .int .i64 (mlen tySPair p0.fList.fPairs)), (56, .int .i64 l152.2)] [] [BT.of 49 tySEnt76 1114373 l152.1 true] (by rfl))
   (fun l152 =>
    .br 0 (decide (l152.2 < (mlen tySPair p0.fList.fPairs)))
    (.row 6001 tySPair p0.fList.fPairs l152.2.toNat (decide (0 ≤ l152.2)) fun x153 =>
     .cnd 7 [99]
     (.br 7005 (decide (x153.fLocal < 0))
      (.done true)
      (.br 7016 (decide ((mlen tySCandidate p0.fList.fLocals) ≤ x153.fLocal))
       (.done true)
       (.br 7021 (decide (x153.fRemote < 0))
        (.done true)
        (.br 7032 (decide ((mlen tySCandidate p0.fList.fRemotes) ≤ x153.fRemote))
         (.done true)
         (.br 7037 (decide (x153.fState < 0))
          (.done true)
          (.done (decide ((4 : Int) < x153.fState))))))))
     (fun (c154 : Bool) => [.bool c154]) fun c154 =>
     .br 0 c154
     (.done (.inr (.inl ())))
     (.cnd 9 [134]
      (.row 9008 tySCandidate p0.fList.fLocals x153.fLocal.toNat (decide (0 ≤ x153.fLocal)) fun x155 =>
       .row 9017 tySCandidate p0.fList.fRemotes x153.fRemote.toNat (decide (0 ≤ x153.fRemote)) fun x156 =>
       .call 9019 (s50 x155 x156) [] [] fun r157 =>
       .br 9022 (!r157)
       (.done true)
       (.call 9026 (s35 p0 x153) [] [] fun r158 =>
        .br 9030 (x153.fPriority != r158)
        (.done true)
        (.call 9033 (s29 p0 x153) [] [] fun r159 =>
         .opr 9034 (Rule.look (mt := 76) (kt := 78) (et := 4) (z := 1114373) (ty := tySEnt76) (p := (fun x => ((decide (r159.fbase.fHost = x.fk.fbase.fHost)) && ((r159.fbase.fPort == x.fk.fbase.fPort) && ((decide (r159.faddr.fHost = x.fk.faddr.fHost)) && ((r159.faddr.fPort == x.fk.faddr.fPort) && ((r159.fcomponent == x.fk.fcomponent) && true))))))) (kc := [.str r159.fbase.fHost, .int .i64 r159.fbase.fPort, .str r159.faddr.fHost, .int .i64 r159.faddr.fPort, .int .i64 r159.fcomponent]) (.tmp 129) (.tmp 132) 133 49 true l152.1 (.bool false) (.bool (mlook l152.1 (fun x => ((decide (r159.fbase.fHost = x.fk.fbase.fHost)) && ((r159.fbase.fPort == x.fk.fbase.fPort) && ((decide (r159.faddr.fHost = x.fk.faddr.fHost)) && ((r159.faddr.fPort == x.fk.faddr.fPort) && ((r159.fcomponent == x.fk.fcomponent) && true)))))) (fun x => x.fv) false)) ⟨by kernel_rfl, by kernel_rfl, by kernel_rfl, fun _ => by kernel_rfl⟩ (by kernel_rfl) (mlook_map _ _ (fun x : SEnt76 => x.fv) false V.bool)) fun _ =>
         .done (mlook l152.1 (fun x => ((decide (r159.fbase.fHost = x.fk.fbase.fHost)) && ((r159.fbase.fPort == x.fk.fbase.fPort) && ((decide (r159.faddr.fHost = x.fk.faddr.fHost)) && ((r159.faddr.fPort == x.fk.faddr.fPort) && ((r159.fcomponent == x.fk.fcomponent) && true)))))) (fun x => x.fv) false))))
      (fun (c160 : Bool) => [.bool c160]) fun c160 =>
      .br 0 c160
      (.done (.inr (.inl ())))
      (.call 11004 (s29 p0 x153) [] [] fun r161 =>
       .opr 11005 (Rule.put (mt := 76) (kt := 78) (et := 4) (z := 1114373) (ty := tySEnt76) (p := (fun x => ((decide (r161.fbase.fHost = x.fk.fbase.fHost)) && ((r161.fbase.fPort == x.fk.fbase.fPort) && ((decide (r161.faddr.fHost = x.fk.faddr.fHost)) && ((r161.faddr.fPort == x.fk.faddr.fPort) && ((r161.fcomponent == x.fk.fcomponent) && true))))))) (kc := [.str r161.fbase.fHost, .int .i64 r161.fbase.fPort, .str r161.faddr.fHost, .int .i64 r161.faddr.fPort, .int .i64 r161.fcomponent]) (.tmp 135) (.tmp 138) (.const (.bool true)) 49 l152.1 (SEnt76.mk r161 true) [.bool true] ⟨by kernel_rfl, by kernel_rfl, by kernel_rfl, fun _ => by kernel_rfl⟩ (by rfl) (by kernel_rfl) (by kernel_rfl) (by decide) (by decide)) fun _ =>
       .done (.inl ((mput l152.1 (fun x => ((decide (r161.fbase.fHost = x.fk.fbase.fHost)) && ((r161.fbase.fPort == x.fk.fbase.fPort) && ((decide (r161.faddr.fHost = x.fk.faddr.fHost)) && ((r161.faddr.fPort == x.fk.faddr.fPort) && ((r161.fcomponent == x.fk.fcomponent) && true)))))) (SEnt76.mk r161 true)), (wi64 (l152.2 + 1)))))))
    (.done (.inr (.inr ()))))
   ([], 0))
  (fun (e162 : Unit) => Ext.lit .ret [(2, .bool false)] [])
  (fun (e163 : Unit) => Ext.lit (.exit 0) [(2, .bool false)] [])
  (fun e162 =>
   .done false)
  (fun e163 =>
   .done true))
theorem k43 (p0 : SPlanner) : FnD Tryd.prog GG [0, 2, 3, 5, 48, 54, 55, 56, 57, 99, 134] Tryd.f43 [.snap [.bool p0.fList.fControlling, .sl false 8 (List.map tySCandidate.c p0.fList.fLocals), .sl false 8 (List.map tySCandidate.c p0.fList.fRemotes), .sl false 4 (List.map tySPair.c p0.fList.fPairs)]] (g43 p0) (fun r => .bool r) := by unfold FnD; kernel_rfl
noncomputable def s43 (p0 : SPlanner) : EV.Spec Tryd.prog GG (Bool) := .ofFn 43 mixed Tryd.func43 (k43 p0)
noncomputable def g53 (p0 : (List SPair)) : TT Unit := .app 3003 tySPair [] p0 32 true (by intros; rfl) (.done ())
theorem k53y : Piece Tryd.prog GG [2] 8 (cloneYes Tryd.f53.body) (Ext.lit .normal [(2, .nilsl)] []) (.done () : TT Unit) (fun _ => Ext.lit .ret [(2, .nilsl)] []) := by unfold Piece; kernel_rfl
theorem k53r (p0 : (List SPair)) : Piece Tryd.prog GG [0, 2, 5, 6, 7] 8 (cloneRest Tryd.f53.body) (Ext.lit .normal [(0, .sl false 4 (List.map tySPair.c p0)), (2, .nilsl)] []) (g53 p0) (fun _ => Ext.of .ret [(2, .ref 7 0 ([] ++ p0).length)] [] [BT.of 7 tySPair 4 ([] ++ p0)] (by rfl)) := by unfold Piece; kernel_rfl
theorem k53 (p0 : (List SPair)) {r : Unit} (h : (g53 p0).run = some r) : CallC Tryd.prog GG 53 [.sl false 4 (List.map tySPair.c p0)] (ofL []) (.ref 7 0 p0.length) (ofL [(7, ⟨4, true, List.map tySPair.c p0⟩)]) :=
 clone_ok (ty := tySPair) (ops0 := cloneOps0 Tryd.f53.body) (ops1 := cloneOps1 Tryd.f53.body) (yes := cloneYes Tryd.f53.body) (rest := cloneRest Tryd.f53.body) (t := 29) mixed (by decide) Tryd.func53 (by kernel_rfl) (by kernel_rfl) (by kernel_rfl) (by kernel_rfl) (by kernel_rfl) (by kernel_rfl) (by kernel_rfl) (by kernel_rfl) (by kernel_rfl) k53y (k53r p0) (by rfl) h
noncomputable def s53 (p0 : (List SPair)) : EV.Spec Tryd.prog GG Unit := ⟨53, [.sl false 4 (List.map tySPair.c p0)], [], (g53 p0).run, fun _ => .ref 7 0 p0.length, fun _ => [(7, ⟨4, true, List.map tySPair.c p0⟩)], [7], fun _ p hp _ => by
 rw [List.mem_singleton.1 hp]; exact tySPair.data _, fun _ h => k53 p0 h⟩
noncomputable def g34 (p0 : SList) : TT ((Unit) ⊕ (Unit)) :=
 .view 2002 (s43 (SPlanner.mk p0)) [] fun r164 =>
 .br 0 (!r164)
 (.done (.inl ()))
 (.call 4004 (s53 p0.fPairs) [] [(7, 500007)] fun _ =>
  .done (.inr ()))
theorem k34 (p0 : SList) : FnB Tryd.prog GG [0, 1, 2, 3, 4, 10] Tryd.f34 [.agg [.bool p0.fControlling, .sl false 8 (List.map tySCandidate.c p0.fLocals), .sl false 8 (List.map tySCandidate.c p0.fRemotes), .sl false 4 (List.map tySPair.c p0.fPairs)]] (Ext.of .normal (argTs [.agg [.bool p0.fControlling, .sl false 8 (List.map tySCandidate.c p0.fLocals), .sl false 8 (List.map tySCandidate.c p0.fRemotes), .sl false 4 (List.map tySPair.c p0.fPairs)]]) [] [] (by rfl)) (g34 p0) (Sum.elim (fun (_ : Unit) => .tup [.nilp, .int .i64 100]) (fun (_ : Unit) => .tup [.ptr 7 0 0, .int .i64 0])) (Sum.elim (fun (_ : Unit) => Ext.of .normal [] [] [] (by rfl)) (fun (_ : Unit) => Ext.of .normal [] [(7, ⟨4, true, [[.bool p0.fControlling, .sl false 8 (List.map tySCandidate.c p0.fLocals), .sl false 8 (List.map tySCandidate.c p0.fRemotes), .ref 500007 0 p0.fPairs.length]]⟩)] [BT.of 500007 tySPair 4 p0.fPairs true] (by rfl))) := by unfold FnB; kernel_rfl
noncomputable def s34 (p0 : SList) : EV.Spec Tryd.prog GG ((Unit) ⊕ (Unit)) := .ofFnB 34 [500007] mixed Tryd.func34 rfl (fun r => by cases r <;> rfl) (k34 p0)
noncomputable def g19 (p0 : SList) : TT (Int) :=
 .view 2002 (s43 (SPlanner.mk p0)) [] fun r166 =>
 .br 0 (!r166)
 (.done 100)
 (.done 0)
theorem k19 (p0 : SList) : FnD Tryd.prog GG [0, 1, 2, 3, 9] Tryd.f19 [.agg [.bool p0.fControlling, .sl false 8 (List.map tySCandidate.c p0.fLocals), .sl false 8 (List.map tySCandidate.c p0.fRemotes), .sl false 4 (List.map tySPair.c p0.fPairs)]] (g19 p0) (fun r => .int .i64 r) := by unfold FnD; kernel_rfl
noncomputable def s19 (p0 : SList) : EV.Spec Tryd.prog GG (Int) := .ofFn 19 mixed Tryd.func19 (k19 p0)
noncomputable def g38 (p0 : (List SPair)) : TT (Int) :=
 .bind 1
 (.lp (fun (l173 : Int × Int) => Ext.lit .normal [(0, .sl false 4 (List.map tySPair.c p0)), (1, .fn 39 [] []), (2, .fn 37 [] []), (6, .int .i64 0), (7, .int .i64 l173.1), (10, .sl false 4 (List.map tySPair.c p0)), (11, .int .i64 (mlen tySPair p0)), (12, .int .i64 l173.2)] [])
  (fun l173 =>
   .br 0 (decide (l173.2 < (mlen tySPair p0)))
   (.row 4002 tySPair p0 l173.2.toNat (decide (0 ≤ l173.2)) fun x174 =>
    .cnd 5 [35]
    (.call 5003 (s39 x174) [] [] fun r175 =>
     .br 5005 r175
     (.br 5008 (decide (l173.1 < 0))
      (.done true)
      (.call 5010 (s37 x174) [] [] fun r176 =>
       .row 5014 tySPair p0 l173.1.toNat (decide (0 ≤ l173.1)) fun x177 =>
       .call 5016 (s37 x177) [] [] fun r178 =>
       .done (decide (r178 < r176))))
     (.done false))
    (fun (c179 : Bool) => [.bool c179]) fun c179 =>
    .br 0 c179
    (.done (.inl (l173.2, (wi64 (l173.2 + 1)))))
    (.done (.inl (l173.1, (wi64 (l173.2 + 1))))))
   (.done (.inr l173.1)))
  ((-1), 0))
 (fun (e180 : Int) => Ext.lit (.exit 0) [(6, .int .i64 0), (7, .int .i64 e180)] [])
 (fun e180 =>
  .done e180)
theorem k38 (p0 : (List SPair)) : FnD Tryd.prog GG [0, 1, 2, 6, 7, 8, 9, 10, 11, 12, 13, 35] Tryd.f38 [.sl false 4 (List.map tySPair.c p0), .fn 39 [] [], .fn 37 [] []] (g38 p0) (fun r => .int .i64 r) := by unfold FnD; kernel_rfl
noncomputable def s38 (p0 : (List SPair)) : EV.Spec Tryd.prog GG (Int) := .ofFn 38 mixed Tryd.func38 (k38 p0)
noncomputable def g40 (p0 : SPair) (p1 : (List SEnt94)) (p2 : Bool) (p3 : (List SCandidate)) (p4 : (List SCandidate)) (p5 : (List SPair)) : TT (Bool) :=
 .cnd 1 [4]
 (.br 1005 (p0.fState == 0)
  (.view 1008 (s30 (SPlanner.mk (SList.mk p2 p3 p4 p5)) p0) [(VwW.of 1000004 tySPair p5)] fun r191 =>
   .opr 1009 (Rule.look (mt := 94) (kt := 81) (et := 4) (z := 1114370) (ty := tySEnt94) (p := (fun x => ((decide (r191.a0 = x.fk.a0)) && ((decide (r191.a1 = x.fk.a1)) && true)))) (kc := [.str r191.a0, .str r191.a1]) (.tmp 9) (.tmp 12) 13 1000002 true p1 (.bool false) (.bool (mlook p1 (fun x => ((decide (r191.a0 = x.fk.a0)) && ((decide (r191.a1 = x.fk.a1)) && true))) (fun x => x.fv) false)) ⟨by kernel_rfl, by kernel_rfl, by kernel_rfl, fun _ => by kernel_rfl⟩ (by kernel_rfl) (mlook_map _ _ (fun x : SEnt94 => x.fv) false V.bool)) fun _ =>
   .done (!(mlook p1 (fun x => ((decide (r191.a0 = x.fk.a0)) && ((decide (r191.a1 = x.fk.a1)) && true))) (fun x => x.fv) false)))
  (.done false))
 (fun (c192 : Bool) => [.bool c192]) fun c192 =>
 .done c192
theorem k40 (p0 : SPair) (p1 : (List SEnt94)) (p2 : Bool) (p3 : (List SCandidate)) (p4 : (List SCandidate)) (p5 : (List SPair)) : FnB Tryd.prog GG [0, 1, 2, 3, 4] Tryd.f40 [.agg [.int .i64 p0.fLocal, .int .i64 p0.fRemote, .int .i64 p0.fPriority, .int .i64 p0.fState], .ptr 1000000 0 0, .ptr 1000001 0 0] (Ext.of .normal (argTs [.agg [.int .i64 p0.fLocal, .int .i64 p0.fRemote, .int .i64 p0.fPriority, .int .i64 p0.fState], .ptr 1000000 0 0, .ptr 1000001 0 0]) [(1000000, ⟨1, true, [[.mp 1000002]]⟩), (1000001, ⟨1, true, [[.ptr 1000003 0 0]]⟩), (1000003, ⟨4, true, [[.bool p2, .sl false 8 (List.map tySCandidate.c p3), .sl false 8 (List.map tySCandidate.c p4), .ref 1000004 0 p5.length]]⟩)] [BT.of 1000002 tySEnt94 1114370 p1 true, BT.of 1000004 tySPair 4 p5 true] (by rfl)) (g40 p0 p1 p2 p3 p4 p5) (fun (r : Bool) => .bool r) (fun (_ : Bool) => Ext.of .normal [] [(1000000, ⟨1, true, [[.mp 1000002]]⟩), (1000001, ⟨1, true, [[.ptr 1000003 0 0]]⟩), (1000003, ⟨4, true, [[.bool p2, .sl false 8 (List.map tySCandidate.c p3), .sl false 8 (List.map tySCandidate.c p4), .ref 1000004 0 p5.length]]⟩)] [BT.of 1000002 tySEnt94 1114370 p1 true, BT.of 1000004 tySPair 4 p5 true] (by rfl)) := by unfold FnB; kernel_rfl
noncomputable def s40 (p0 : SPair) (p1 : (List SEnt94)) (p2 : Bool) (p3 : (List SCandidate)) (p4 : (List SCandidate)) (p5 : (List SPair)) : EV.Spec Tryd.prog GG (Bool) := .ofFnB 40 [1000002, 1000004] mixed Tryd.func40 rfl (fun _ => rfl) (k40 p0 p1 p2 p3 p4 p5)
noncomputable def g38_1 (p0 : (List SPair)) (p1 : (List SEnt94)) (p2 : Bool) (p3 : (List SCandidate)) (p4 : (List SCandidate)) : TT (Int) :=
 .bind 1
 (.lp (fun (l193 : Int × Int) => Ext.of .normal [(0, .ref 1000000 0 p0.length), (1, .fn 40 [] [.ptr 1000001 0 0, .ptr 1000002 0 0]), (2, .fn 37 [] []), (6, .int .i64 0), (7, .int .i64 l193.1), (10, .ref 1000000 0 p0.length), (11, .int .i64 (p0.length : Int)), (12, .int .i64 l193.2)] [(1000001, ⟨1, true, [[.mp 1000003]]⟩), (1000002, ⟨1, true, [[.ptr 1000004 0 0]]⟩), (1000004, ⟨4, true, [[.bool p2, .sl false 8 (List.map tySCandidate.c p3), .sl false 8 (List.map tySCandidate.c p4), .ref 1000000 0 p0.length]]⟩)] [BT.of 1000000 tySPair 4 p0 true, BT.of 1000003 tySEnt94 1114370 p1 true] (by rfl))
  (fun l193 =>
   .br 0 (decide (l193.2 < (p0.length : Int)))
   (.chk 4002 (decide (0 ≤ l193.2) && decide (l193.2 < (p0.length : Int))) (.row 4003 tySPair p0 (0 + l193.2.toNat) true fun x194 =>
    .cnd 5 [35]
    (.opr 5003 (Rule.callRead (s40 x194 p1 p2 p3 p4 p0) (.tmp 17) #[.tmp 18] #[37] 19 [] [.agg [.int .i64 x194.fLocal, .int .i64 x194.fRemote, .int .i64 x194.fPriority, .int .i64 x194.fState]] [.ptr 1000001 0 0, .ptr 1000002 0 0] [(1000000, 1000001, ⟨1, true, [[.mp 1000003]]⟩), (1000001, 1000002, ⟨1, true, [[.ptr 1000004 0 0]]⟩), (1000003, 1000004, ⟨4, true, [[.bool p2, .sl false 8 (List.map tySCandidate.c p3), .sl false 8 (List.map tySCandidate.c p4), .ref 1000000 0 p0.length]]⟩)] [(1000002, BT.of 1000003 tySEnt94 1114370 p1 true), (1000004, BT.of 1000000 tySPair 4 p0 true)] [(1000000, 1000001), (1000001, 1000002), (1000003, 1000004), (1000002, 1000003), (1000004, 1000000)] (by kernel_rfl) (by kernel_rfl) (by kernel_rfl) (by kernel_rfl) (by kernel_rfl) (by kernel_rfl) (by kernel_rfl) (by kernel_rfl) (by kernel_rfl) (by kernel_rfl) (fun _ => by kernel_rfl) (fun _ => ⟨by kernel_rfl, by kernel_rfl⟩)) fun r195 =>
     .br 5005 r195
     (.br 5008 (decide (l193.1 < 0))
      (.done true)
      (.call 5010 (s37 x194) [] [] fun r196 =>
       .chk 5014 (decide (0 ≤ l193.1) && decide (l193.1 < (p0.length : Int))) (.row 5015 tySPair p0 (0 + l193.1.toNat) true fun x197 =>
       .call 5016 (s37 x197) [] [] fun r198 =>
       .done (decide (r198 < r196)))))
     (.done false))
    (fun (c199 : Bool) => [.bool c199]) fun c199 =>
    .br 0 c199
    (.done (.inl (l193.2, (wi64 (l193.2 + 1)))))
    (.done (.inl (l193.1, (wi64 (l193.2 + 1)))))))
   (.done (.inr l193.1)))
  ((-1), 0))
 (fun (e200 : Int) => Ext.lit (.exit 0) [(6, .int .i64 0), (7, .int .i64 e200)] [])
 (fun e200 =>
  .done e200)
theorem k38_1 (p0 : (List SPair)) (p1 : (List SEnt94)) (p2 : Bool) (p3 : (List SCandidate)) (p4 : (List SCandidate)) : FnB Tryd.prog GG [0, 1, 2, 6, 7, 8, 9, 10, 11, 12, 13, 35] Tryd.f38 [.ref 1000000 0 p0.length, .fn 40 [] [.ptr 1000001 0 0, .ptr 1000002 0 0], .fn 37 [] []] (Ext.of .normal (argTs [.ref 1000000 0 p0.length, .fn 40 [] [.ptr 1000001 0 0, .ptr 1000002 0 0], .fn 37 [] []]) [(1000001, ⟨1, true, [[.mp 1000003]]⟩), (1000002, ⟨1, true, [[.ptr 1000004 0 0]]⟩), (1000004, ⟨4, true, [[.bool p2, .sl false 8 (List.map tySCandidate.c p3), .sl false 8 (List.map tySCandidate.c p4), .ref 1000000 0 p0.length]]⟩)] [BT.of 1000000 tySPair 4 p0 true, BT.of 1000003 tySEnt94 1114370 p1 true] (by rfl)) (g38_1 p0 p1 p2 p3 p4) (fun (r : Int) => .int .i64 r) (fun (_ : Int) => Ext.of .normal [] [] [] (by rfl)) := by unfold FnB; kernel_rfl
noncomputable def s38_1 (p0 : (List SPair)) (p1 : (List SEnt94)) (p2 : Bool) (p3 : (List SCandidate)) (p4 : (List SCandidate)) : EV.Spec Tryd.prog GG (Int) := .ofFnB 38 [] mixed Tryd.func38 rfl (fun _ => rfl) (k38_1 p0 p1 p2 p3 p4)
noncomputable def g17 (p0 : SList) : TT (Int × Int) :=
 .call2 1002 (s34 p0) [] [(7, 500008), (500007, 500009)] (fun r167 =>
  .tt (.done (0, 100)))
 (fun r168 =>
  .ff (.view 5007 (s38 p0.fPairs) [(VwW.of 500009 tySPair p0.fPairs)] fun r181 =>
  .bind 0
  (.br 0 (decide (r181 < 0))
   (.opr 7001 (Rule.makeMap 94 28 1114370 (by decide)) fun _ =>
    .opr 7002 (Rule.allocAny 94 8 (by kernel_rfl)) fun _ =>
    .bind 1
    (.lp (fun (l185 : (List SEnt94) × Int) => Ext.of .normal [(2, .int .i64 0), (3, .int .i64 0), (4, .ptr 4 0 0), (6, .fn 37 [] []), (7, .int .i64 r181), (8, .ptr 8 0 0), (33, .ref 500009 0 p0.fPairs.length), (34, .int .i64 (p0.fPairs.length : Int)), (35, .int .i64 l185.2)] [(4, ⟨1, true, [[.ptr 500008 0 0]]⟩), (8, ⟨1, true, [[.mp 28]]⟩), (500008, ⟨4, true, [[.bool p0.fControlling, .sl false 8 (List.map tySCandidate.c p0.fLocals), .sl false 8 (List.map tySCandidate.c p0.fRemotes), .ref 500009 0 p0.fPairs.length]]⟩)] [BT.of 28 tySEnt94 1114370 l185.1 true, BT.of 500009 tySPair 4 p0.fPairs true] (by rfl))
     (fun l185 =>
      .br 0 (decide (l185.2 < (p0.fPairs.length : Int)))
      (.chk 10001 (decide (0 ≤ l185.2) && decide (l185.2 < (p0.fPairs.length : Int))) (.row 10002 tySPair p0.fPairs (0 + l185.2.toNat) true fun x186 =>
       .br 0 (x186.fState == 2)
       (.view 12004 (s30 (SPlanner.mk p0) x186) [(VwW.of 500009 tySPair p0.fPairs)] fun r187 =>
        .opr 12005 (Rule.put (mt := 94) (kt := 81) (et := 4) (z := 1114370) (ty := tySEnt94) (p := (fun x => ((decide (r187.a0 = x.fk.a0)) && ((decide (r187.a1 = x.fk.a1)) && true)))) (kc := [.str r187.a0, .str r187.a1]) (.tmp 42) (.tmp 45) (.const (.bool true)) 28 l185.1 (SEnt94.mk r187 true) [.bool true] ⟨by kernel_rfl, by kernel_rfl, by kernel_rfl, fun _ => by kernel_rfl⟩ (by rfl) (by kernel_rfl) (by kernel_rfl) (by decide) (by decide)) fun _ =>
        .done (.inl ((mput l185.1 (fun x => ((decide (r187.a0 = x.fk.a0)) && ((decide (r187.a1 = x.fk.a1)) && true))) (SEnt94.mk r187 true)), (wi64 (l185.2 + 1)))))
       (.done (.inl (l185.1, (wi64 (l185.2 + 1)))))))
      (.done (.inr (l185.1, r181))))
     ([], 0))
    (fun (e188 : (List SEnt94) × Int) => Ext.of (.exit 0) [(2, .int .i64 0), (3, .int .i64 0), (4, .ptr 4 0 0), (6, .fn 37 [] []), (7, .int .i64 e188.2), (8, .ptr 8 0 0)] [(4, ⟨1, true, [[.ptr 500008 0 0]]⟩), (8, ⟨1, true, [[.mp 28]]⟩), (500008, ⟨4, true, [[.bool p0.fControlling, .sl false 8 (List.map tySCandidate.c p0.fLocals), .sl false 8 (List.map tySCandidate.c p0.fRemotes), .ref 500009 0 p0.fPairs.length]]⟩)] [BT.of 28 tySEnt94 1114370 e188.1 true, BT.of 500009 tySPair 4 p0.fPairs true] (by rfl))
    (fun e188 =>
     .call 14008 (s38_1 p0.fPairs e188.1 p0.fControlling p0.fLocals p0.fRemotes) [(1000001, 8), (1000002, 4), (1000004, 500008), (1000000, 500009), (1000003, 28)] [] fun r201 =>
     .done r201))
   (.done r181))
  (fun (e202 : Int) => Ext.lit .normal [(2, .int .i64 0), (3, .int .i64 0), (7, .int .i64 e202)] [])
  (fun e202 =>
   .br 0 (decide (e202 < 0))
   (.done (0, 4))
   (.done (e202, 0)))))
theorem k17 (p0 : SList) : FnD Tryd.prog GG [0, 1, 2, 3, 4, 5, 6, 7, 8, 10, 17, 27, 33, 34, 35, 36, 41, 56] Tryd.f17 [.agg [.bool p0.fControlling, .sl false 8 (List.map tySCandidate.c p0.fLocals), .sl false 8 (List.map tySCandidate.c p0.fRemotes), .sl false 4 (List.map tySPair.c p0.fPairs)]] (g17 p0) (fun r => .tup [.int .i64 r.1, .int .i64 r.2]) := by unfold FnD; kernel_rfl
noncomputable def s17 (p0 : SList) : EV.Spec Tryd.prog GG (Int × Int) := .ofFn 17 mixed Tryd.func17 (k17 p0)
noncomputable def g57 (p0 : (List SPair)) : TT (Int) :=
 .bind2 1
 (.lp (fun (l208 : Int) => Ext.lit .normal [(0, .sl false 4 (List.map tySPair.c p0)), (1, .fn 41 [] []), (4, .int .i64 0), (7, .int .i64 (mlen tySPair p0)), (8, .int .i64 l208)] [])
  (fun l208 =>
   .br 0 (decide (l208 < (mlen tySPair p0)))
   (.row 4004 tySPair p0 l208.toNat (decide (0 ≤ l208)) fun x209 =>
    .call 4006 (s41 x209) [] [] fun r210 =>
    .br 0 r210
    (.done (.inr (.inl l208)))
    (.done (.inl (wi64 (l208 + 1)))))
   (.done (.inr (.inr ()))))
  0)
 (fun (e211 : Int) => Ext.lit .ret [(4, .int .i64 e211)] [])
 (fun (_ : Unit) => Ext.lit (.exit 0) [(4, .int .i64 0)] [])
 (fun e211 =>
  .done e211)
 (fun _ =>
  .done (-1))
theorem k57 (p0 : (List SPair)) : FnD Tryd.prog GG [0, 1, 4, 5, 7, 8, 9, 16] Tryd.f57 [.sl false 4 (List.map tySPair.c p0), .fn 41 [] []] (g57 p0) (fun r => .int .i64 r) := by unfold FnD; kernel_rfl
noncomputable def s57 (p0 : (List SPair)) : EV.Spec Tryd.prog GG (Int) := .ofFn 57 mixed Tryd.func57 (k57 p0)
noncomputable def g42 (p0 : (List SPair)) : TT (Bool) :=
 .call 1003 (s57 p0) [] [] fun r213 =>
 .done (decide ((0 : Int) ≤ r213))
theorem k42 (p0 : (List SPair)) : FnD Tryd.prog GG [0, 1, 4] Tryd.f42 [.sl false 4 (List.map tySPair.c p0), .fn 41 [] []] (g42 p0) (fun r => .bool r) := by unfold FnD; kernel_rfl
noncomputable def s42 (p0 : (List SPair)) : EV.Spec Tryd.prog GG (Bool) := .ofFn 42 mixed Tryd.func42 (k42 p0)
noncomputable def g18 (p0 : SList) : TT (Bool × Int) :=
 .call2 1002 (s34 p0) [] [(7, 500010), (500007, 500011)] (fun _ =>
  .tt (.done (false, 100)))
 (fun _ =>
  .ff (.view 5007 (s42 p0.fPairs) [(VwW.of 500011 tySPair p0.fPairs)] fun r214 =>
  .done ((!r214), 0)))
theorem k18 (p0 : SList) : FnD Tryd.prog GG [0, 1, 2, 3, 4, 5, 6, 13] Tryd.f18 [.agg [.bool p0.fControlling, .sl false 8 (List.map tySCandidate.c p0.fLocals), .sl false 8 (List.map tySCandidate.c p0.fRemotes), .sl false 4 (List.map tySPair.c p0.fPairs)]] (g18 p0) (fun r => .tup [.bool r.1, .int .i64 r.2]) := by unfold FnD; kernel_rfl
noncomputable def s18 (p0 : SList) : EV.Spec Tryd.prog GG (Bool × Int) := .ofFn 18 mixed Tryd.func18 (k18 p0)
noncomputable def g12 (p0 : SList) : TT (SList × Int) :=
 .call2 1002 (s34 p0) [] [(7, 500012), (500007, 500013)] (fun r215 =>
  .tt (.done ((SList.mk false [] [] []), 100)))
 (fun r216 =>
  .ff (.bind 1
  (.lp (fun (l221 : (List SPair) × Int) => Ext.of .normal [(2, .ptr 2 0 0), (3, .int .i64 0), (4, .ptr 500012 0 0), (31, .ref 500013 0 l221.1.length), (32, .int .i64 (p0.fPairs.length : Int)), (33, .int .i64 l221.2)] [(2, ⟨4, true, [[.bool false, .nilsl, .nilsl, .nilsl]]⟩), (500012, ⟨4, true, [[.bool (!p0.fControlling), .sl false 8 (List.map tySCandidate.c p0.fLocals), .sl false 8 (List.map tySCandidate.c p0.fRemotes), .ref 500013 0 l221.1.length]]⟩)] [BT.of 500013 tySPair 4 l221.1 true] (by rfl))
   (fun l221 =>
    .br 0 (decide (l221.2 < (p0.fPairs.length : Int)))
    (.chk 7002 (decide (0 ≤ l221.2) && decide (l221.2 < (l221.1.length : Int))) (.row 7003 tySPair l221.1 (0 + l221.2.toNat) true fun x222 =>
     .view 8009 (s35 (SPlanner.mk (SList.mk (!p0.fControlling) p0.fLocals p0.fRemotes l221.1)) x222) [(VwW.of 500013 tySPair l221.1)] fun r223 =>
     .chk 8010 (decide (0 ≤ l221.2) && decide (l221.2 < (l221.1.length : Int))) (.row 8012 tySPair l221.1 (0 + l221.2.toNat) true fun x224 =>
     .re 8012 (ReW.put 500013 4 tySPair l221.1 (0 + l221.2.toNat) (SPair.mk x224.fLocal x224.fRemote r223 x224.fState)) (.gh 11 (.len 500013 ((l221.1.set (0 + l221.2.toNat) (SPair.mk x224.fLocal x224.fRemote r223 x224.fState)).length) [l221.1.length, l221.1.length] (by simp)) (.done (.inl ((l221.1.set (0 + l221.2.toNat) (SPair.mk x224.fLocal x224.fRemote r223 x224.fState)), (wi64 (l221.2 + 1)))))))))
    (.done (.inr l221.1)))
   (p0.fPairs, 0))
  (fun (e225 : (List SPair)) => Ext.of (.exit 0) [(2, .ptr 2 0 0), (3, .int .i64 0), (4, .ptr 500012 0 0)] [(2, ⟨4, true, [[.bool false, .nilsl, .nilsl, .nilsl]]⟩), (500012, ⟨4, true, [[.bool (!p0.fControlling), .sl false 8 (List.map tySCandidate.c p0.fLocals), .sl false 8 (List.map tySCandidate.c p0.fRemotes), .ref 500013 0 e225.length]]⟩)] [BT.of 500013 tySPair 4 e225 true] (by rfl))
  (fun e225 =>
   .gh 0 (.share (VwW.of 500013 tySPair e225) 1) (.done ((SList.mk (!p0.fControlling) p0.fLocals p0.fRemotes e225), 0)))))
theorem k12 (p0 : SList) : FnD Tryd.prog GG [0, 1, 2, 3, 4, 5, 6, 7, 14, 31, 32, 33, 34] Tryd.f12 [.agg [.bool p0.fControlling, .sl false 8 (List.map tySCandidate.c p0.fLocals), .sl false 8 (List.map tySCandidate.c p0.fRemotes), .sl false 4 (List.map tySPair.c p0.fPairs)]] (g12 p0) (fun r => .tup [.agg [.bool r.1.fControlling, .sl false 8 (List.map tySCandidate.c r.1.fLocals), .sl false 8 (List.map tySCandidate.c r.1.fRemotes), .sl false 4 (List.map tySPair.c r.1.fPairs)], .int .i64 r.2]) := by unfold FnD; kernel_rfl
noncomputable def s12 (p0 : SList) : EV.Spec Tryd.prog GG (SList × Int) := .ofFn 12 mixed Tryd.func12 (k12 p0)
noncomputable def g16 (p0 : SList) (p1 : Int) (p2 : Int) : TT (SList × Int) :=
 .call2 1002 (s34 p0) [] [(7, 500014), (500007, 500015)] (fun r226 =>
  .tt (.done ((SList.mk false [] [] []), 100)))
 (fun r227 =>
  .ff (.cnd 4 [40]
  (.br 4004 (decide (p1 < 0))
   (.done true)
   (.br 4014 (decide ((p0.fPairs.length : Int) ≤ p1))
    (.done true)
    (.br 4018 (decide (p2 < 0))
     (.done true)
     (.done (decide ((4 : Int) < p2))))))
  (fun (c228 : Bool) => [.bool c228]) fun c228 =>
  .br 0 c228
  (.done ((SList.mk false [] [] []), 2))
  (.chk 6008 (decide (0 ≤ p1) && decide (p1 < (p0.fPairs.length : Int))) (.row 6010 tySPair p0.fPairs (0 + p1.toNat) true fun x229 =>
   .re 6010 (ReW.put 500015 4 tySPair p0.fPairs (0 + p1.toNat) (SPair.mk x229.fLocal x229.fRemote x229.fPriority p2)) (.gh 9 (.len 500015 ((p0.fPairs.set (0 + p1.toNat) (SPair.mk x229.fLocal x229.fRemote x229.fPriority p2)).length) [p0.fPairs.length] (by simp)) (.bind 1
   (.lp (fun (l237 : (List SPair) × Int) => Ext.of .normal [(1, .int .i64 p1), (2, .int .i64 p2), (6, .ptr 6 0 0), (7, .int .i64 0), (8, .ptr 500014 0 0), (55, .ref 500015 0 l237.1.length), (56, .int .i64 ((p0.fPairs.set (0 + p1.toNat) (SPair.mk x229.fLocal x229.fRemote x229.fPriority p2)).length : Int)), (57, .int .i64 l237.2)] [(6, ⟨4, true, [[.bool false, .nilsl, .nilsl, .nilsl]]⟩), (500014, ⟨4, true, [[.bool p0.fControlling, .sl false 8 (List.map tySCandidate.c p0.fLocals), .sl false 8 (List.map tySCandidate.c p0.fRemotes), .ref 500015 0 l237.1.length]]⟩)] [BT.of 500015 tySPair 4 l237.1 true] (by rfl))
    (fun l237 =>
     .br 0 (decide (l237.2 < ((p0.fPairs.set (0 + p1.toNat) (SPair.mk x229.fLocal x229.fRemote x229.fPriority p2)).length : Int)))
     (.chk 9002 (decide (0 ≤ l237.2) && decide (l237.2 < (l237.1.length : Int))) (.row 9003 tySPair l237.1 (0 + l237.2.toNat) true fun x238 =>
      .cnd 10 [84]
      (.br 10004 (p2 == 3)
       (.br 10009 (x238.fState == 0)
        (.view 10011 (s30 (SPlanner.mk (SList.mk p0.fControlling p0.fLocals p0.fRemotes l237.1)) x238) [(VwW.of 500015 tySPair l237.1)] fun r239 =>
         .chk 10019 (decide (0 ≤ p1) && decide (p1 < (l237.1.length : Int))) (.row 10020 tySPair l237.1 (0 + p1.toNat) true fun x240 =>
         .view 10021 (s30 (SPlanner.mk (SList.mk p0.fControlling p0.fLocals p0.fRemotes l237.1)) x240) [(VwW.of 500015 tySPair l237.1)] fun r241 =>
         .done ((decide (r239.a0 = r241.a0)) && ((decide (r239.a1 = r241.a1)) && true))))
        (.done false))
       (.done false))
      (fun (c242 : Bool) => [.bool c242]) fun c242 =>
      .br 0 c242
      (.chk 11007 (decide (0 ≤ l237.2) && decide (l237.2 < (l237.1.length : Int))) (.row 11009 tySPair l237.1 (0 + l237.2.toNat) true fun x243 =>
       .re 11009 (ReW.put 500015 4 tySPair l237.1 (0 + l237.2.toNat) (SPair.mk x243.fLocal x243.fRemote x243.fPriority 1)) (.gh 14 (.len 500015 ((l237.1.set (0 + l237.2.toNat) (SPair.mk x243.fLocal x243.fRemote x243.fPriority 1)).length) [l237.1.length, l237.1.length] (by simp)) (.done (.inl ((l237.1.set (0 + l237.2.toNat) (SPair.mk x243.fLocal x243.fRemote x243.fPriority 1)), (wi64 (l237.2 + 1))))))))
      (.done (.inl (l237.1, (wi64 (l237.2 + 1)))))))
     (.done (.inr l237.1)))
    ((p0.fPairs.set (0 + p1.toNat) (SPair.mk x229.fLocal x229.fRemote x229.fPriority p2)), 0))
   (fun (e244 : (List SPair)) => Ext.of (.exit 0) [(6, .ptr 6 0 0), (7, .int .i64 0), (8, .ptr 500014 0 0)] [(6, ⟨4, true, [[.bool false, .nilsl, .nilsl, .nilsl]]⟩), (500014, ⟨4, true, [[.bool p0.fControlling, .sl false 8 (List.map tySCandidate.c p0.fLocals), .sl false 8 (List.map tySCandidate.c p0.fRemotes), .ref 500015 0 e244.length]]⟩)] [BT.of 500015 tySPair 4 e244 true] (by rfl))
   (fun e244 =>
    .gh 0 (.share (VwW.of 500015 tySPair e244) 1) (.done ((SList.mk p0.fControlling p0.fLocals p0.fRemotes e244), 0)))))))))
theorem k16 (p0 : SList) (p1 : Int) (p2 : Int) : FnD Tryd.prog GG [0, 1, 2, 3, 6, 7, 8, 9, 10, 11, 18, 40, 55, 56, 57, 58, 84] Tryd.f16 [.agg [.bool p0.fControlling, .sl false 8 (List.map tySCandidate.c p0.fLocals), .sl false 8 (List.map tySCandidate.c p0.fRemotes), .sl false 4 (List.map tySPair.c p0.fPairs)], .int .i64 p1, .int .i64 p2] (g16 p0 p1 p2) (fun r => .tup [.agg [.bool r.1.fControlling, .sl false 8 (List.map tySCandidate.c r.1.fLocals), .sl false 8 (List.map tySCandidate.c r.1.fRemotes), .sl false 4 (List.map tySPair.c r.1.fPairs)], .int .i64 r.2]) := by unfold FnD; kernel_rfl
noncomputable def s16 (p0 : SList) (p1 : Int) (p2 : Int) : EV.Spec Tryd.prog GG (SList × Int) := .ofFn 16 mixed Tryd.func16 (k16 p0 p1 p2)
end Go.Proofs.YtioobnkmohikjaaDoor
namespace Go.Proofs.YtioobnkmohikjaaDoor
open Go Go.EV
set_option maxRecDepth 100000
structure SEnt80 where
 fk : S2String
 fv : Int
def tySEnt80 : Ty SEnt80 := ⟨fun x => [.str x.fk.a0, .str x.fk.a1, .int .i64 x.fv], fun x => [.str x.fk.a0, .str x.fk.a1, .int .i64 x.fv], fun _ => rfl, fun _ => rfl, fun _ _ => rfl, fun _ => rfl⟩
noncomputable def g35_1 (p0 : Bool) (p1 : (List SCandidate)) (p2 : (List SCandidate)) (p3 : SPair) : TT (Int) :=
 .row 1008 tySCandidate p1 p3.fLocal.toNat (decide (0 ≤ p3.fLocal)) fun x256 =>
 .row 1018 tySCandidate p2 p3.fRemote.toNat (decide (0 ≤ p3.fRemote)) fun x257 =>
 .bind 0
 (.br 0 (!p0)
  (.done (x257.fPriority, x256.fPriority))
  (.done (x256.fPriority, x257.fPriority)))
 (fun (e258 : Int × Int) => Ext.lit .normal [(4, .int .i64 0), (5, .int .i64 e258.1), (6, .int .i64 e258.2)] [])
 (fun e258 =>
  .call 4003 (s11 e258.1 e258.2) [] [] fun r259 =>
  .done r259.1)
theorem k35_1 (p0 : Bool) (p1 : (List SCandidate)) (p2 : (List SCandidate)) (p3 : SPair) : FnD Tryd.prog GG [0, 1, 3, 4, 5, 6, 7, 34] Tryd.f35 [.snap [.bool p0, .sl false 8 (List.map tySCandidate.c p1), .sl false 8 (List.map tySCandidate.c p2), .nilsl], .agg [.int .i64 p3.fLocal, .int .i64 p3.fRemote, .int .i64 p3.fPriority, .int .i64 p3.fState]] (g35_1 p0 p1 p2 p3) (fun r => .int .i64 r) := by unfold FnD; kernel_rfl
noncomputable def s35_1 (p0 : Bool) (p1 : (List SCandidate)) (p2 : (List SCandidate)) (p3 : SPair) : EV.Spec Tryd.prog GG (Int) := .ofFn 35 mixed Tryd.func35 (k35_1 p0 p1 p2 p3)
noncomputable def g27 (p0 : SPair) (p1 : SPair) : TT (Int) :=
 .call 1005 (s28 p1.fPriority p0.fPriority) [] [] fun r265 =>
 .done r265
theorem k27 (p0 : SPair) (p1 : SPair) : FnD Tryd.prog GG [0, 1, 2, 3, 4] Tryd.f27 [.agg [.int .i64 p0.fLocal, .int .i64 p0.fRemote, .int .i64 p0.fPriority, .int .i64 p0.fState], .agg [.int .i64 p1.fLocal, .int .i64 p1.fRemote, .int .i64 p1.fPriority, .int .i64 p1.fState]] (g27 p0 p1) (fun r => .int .i64 r) := by unfold FnD; kernel_rfl
noncomputable def s27 (p0 : SPair) (p1 : SPair) : EV.Spec Tryd.prog GG (Int) := .ofFn 27 mixed Tryd.func27 (k27 p0 p1)
noncomputable def g60 (p0 : Nat) (p1 : Int) (p2 : Int) (p3 : (List SPair)) : TT ((List SPair)) :=
 .bind 1
 (.lp (fun (l301 : (List SPair) × Int) => Ext.of .normal [(0, .ref 1000000 0 p0), (1, .int .i64 p1), (2, .int .i64 p2), (3, .fn 27 [] []), (8, .int .i64 l301.2)] [] [BT.of 1000000 tySPair 4 l301.1 true] (by rfl))
  (fun l301 =>
   .br 0 (decide (l301.2 < p2))
   (.bind 2
    (.lp (fun (l311 : (List SPair) × Int) => Ext.of .normal [(0, .ref 1000000 0 p0), (1, .int .i64 p1), (2, .int .i64 p2), (3, .fn 27 [] []), (8, .int .i64 l301.2), (9, .int .i64 l311.2)] [] [BT.of 1000000 tySPair 4 l311.1 true] (by rfl))
     (fun l311 =>
      .cnd 4 [34]
      (.br 4005 (decide (p1 < l311.2))
       (.chk 4008 (decide (0 ≤ l311.2) && decide (l311.2 < (p0 : Int))) (.row 4009 tySPair l311.1 (0 + l311.2.toNat) true fun x312 =>
        .chk 4013 (decide (0 ≤ (wi64 (l311.2 - 1))) && decide ((wi64 (l311.2 - 1)) < (p0 : Int))) (.row 4014 tySPair l311.1 (0 + (wi64 (l311.2 - 1)).toNat) true fun x313 =>
        .call 4015 (s27 x312 x313) [] [] fun r314 =>
        .done (decide (r314 < 0)))))
       (.done false))
      (fun (c315 : Bool) => [.bool c315]) fun c315 =>
      .br 0 c315
      (.chk 6009 (decide (0 ≤ (wi64 (l311.2 - 1))) && decide ((wi64 (l311.2 - 1)) < (p0 : Int))) (.row 6010 tySPair l311.1 (0 + (wi64 (l311.2 - 1)).toNat) true fun x316 =>
       .chk 6013 (decide (0 ≤ l311.2) && decide (l311.2 < (p0 : Int))) (.row 6014 tySPair l311.1 (0 + l311.2.toNat) true fun x317 =>
       .chk 6015 (decide (0 ≤ l311.2) && decide (l311.2 < (p0 : Int))) (.row 6016 tySPair l311.1 (0 + l311.2.toNat) true fun x318 =>
       .re 6016 (ReW.put 1000000 4 tySPair l311.1 (0 + l311.2.toNat) x316) (.chk 6017 (decide (0 ≤ (wi64 (l311.2 - 1))) && decide ((wi64 (l311.2 - 1)) < (p0 : Int))) (.row 6018 tySPair (l311.1.set (0 + l311.2.toNat) x316) (0 + (wi64 (l311.2 - 1)).toNat) true fun x319 =>
       .re 6018 (ReW.put 1000000 4 tySPair (l311.1.set (0 + l311.2.toNat) x316) (0 + (wi64 (l311.2 - 1)).toNat) x317) (.done (.inl (((l311.1.set (0 + l311.2.toNat) x316).set (0 + (wi64 (l311.2 - 1)).toNat) x317), (wi64 (l311.2 - 1)))))))))))
      (.done (.inr l311.1)))
     (l301.1, l301.2))
    (fun (e320 : (List SPair)) => Ext.of (.exit 2) [(0, .ref 1000000 0 p0), (1, .int .i64 p1), (2, .int .i64 p2), (3, .fn 27 [] []), (8, .int .i64 l301.2)] [] [BT.of 1000000 tySPair 4 e320 true] (by rfl))
    (fun e320 =>
     .done (.inl (e320, (wi64 (l301.2 + 1))))))
   (.done (.inr l301.1)))
  (p3, (wi64 (p1 + 1))))
 (fun (e321 : (List SPair)) => Ext.of (.exit 0) [] [] [BT.of 1000000 tySPair 4 e321 true] (by rfl))
 (fun e321 =>
  .done e321)
theorem k60 (p0 : Nat) (p1 : Int) (p2 : Int) (p3 : (List SPair)) : FnB Tryd.prog GG [0, 1, 2, 3, 8, 9, 14, 34] Tryd.f60 [.ref 1000000 0 p0, .int .i64 p1, .int .i64 p2, .fn 27 [] []] (Ext.of .normal (argTs [.ref 1000000 0 p0, .int .i64 p1, .int .i64 p2, .fn 27 [] []]) [] [BT.of 1000000 tySPair 4 p3 true] (by rfl)) (g60 p0 p1 p2 p3) (fun (_ : (List SPair)) => .tup []) (fun (r : (List SPair)) => Ext.of .normal [] [] [BT.of 1000000 tySPair 4 r true] (by rfl)) := by unfold FnB; kernel_rfl
noncomputable def s60 (p0 : Nat) (p1 : Int) (p2 : Int) (p3 : (List SPair)) : EV.Spec Tryd.prog GG ((List SPair)) := .ofFnB 60 [1000000] mixed Tryd.func60 rfl (fun _ => rfl) (k60 p0 p1 p2 p3)
noncomputable def g78 (p0 : Nat) (p1 : Int) (p2 : Int) (p3 : Int) (p4 : (List SPair)) : TT ((List SPair)) :=
 .bind 1
 (.lp (fun (l385 : (List SPair) × Int) => Ext.of .normal [(0, .ref 1000000 0 p0), (1, .int .i64 p1), (2, .int .i64 p2), (3, .int .i64 p3), (10, .int .i64 l385.2)] [] [BT.of 1000000 tySPair 4 l385.1 true] (by rfl))
  (fun l385 =>
   .br 0 (decide (l385.2 < p3))
   (.chk 3013 (decide (0 ≤ (wi64 (p2 + l385.2))) && decide ((wi64 (p2 + l385.2)) < (p0 : Int))) (.row 3014 tySPair l385.1 (0 + (wi64 (p2 + l385.2)).toNat) true fun x386 =>
    .chk 3019 (decide (0 ≤ (wi64 (p1 + l385.2))) && decide ((wi64 (p1 + l385.2)) < (p0 : Int))) (.row 3020 tySPair l385.1 (0 + (wi64 (p1 + l385.2)).toNat) true fun x387 =>
    .chk 3021 (decide (0 ≤ (wi64 (p1 + l385.2))) && decide ((wi64 (p1 + l385.2)) < (p0 : Int))) (.row 3022 tySPair l385.1 (0 + (wi64 (p1 + l385.2)).toNat) true fun x388 =>
    .re 3022 (ReW.put 1000000 4 tySPair l385.1 (0 + (wi64 (p1 + l385.2)).toNat) x386) (.chk 3023 (decide (0 ≤ (wi64 (p2 + l385.2))) && decide ((wi64 (p2 + l385.2)) < (p0 : Int))) (.row 3024 tySPair (l385.1.set (0 + (wi64 (p1 + l385.2)).toNat) x386) (0 + (wi64 (p2 + l385.2)).toNat) true fun x389 =>
    .re 3024 (ReW.put 1000000 4 tySPair (l385.1.set (0 + (wi64 (p1 + l385.2)).toNat) x386) (0 + (wi64 (p2 + l385.2)).toNat) x387) (.done (.inl (((l385.1.set (0 + (wi64 (p1 + l385.2)).toNat) x386).set (0 + (wi64 (p2 + l385.2)).toNat) x387), (wi64 (l385.2 + 1)))))))))))
   (.done (.inr l385.1)))
  (p4, 0))
 (fun (e390 : (List SPair)) => Ext.of (.exit 0) [] [] [BT.of 1000000 tySPair 4 e390 true] (by rfl))
 (fun e390 =>
  .done e390)
theorem k78 (p0 : Nat) (p1 : Int) (p2 : Int) (p3 : Int) (p4 : (List SPair)) : FnB Tryd.prog GG [0, 1, 2, 3, 10, 13] Tryd.f78 [.ref 1000000 0 p0, .int .i64 p1, .int .i64 p2, .int .i64 p3, .fn 27 [] []] (Ext.of .normal (argTs [.ref 1000000 0 p0, .int .i64 p1, .int .i64 p2, .int .i64 p3, .fn 27 [] []]) [] [BT.of 1000000 tySPair 4 p4 true] (by rfl)) (g78 p0 p1 p2 p3 p4) (fun (_ : (List SPair)) => .tup []) (fun (r : (List SPair)) => Ext.of .normal [] [] [BT.of 1000000 tySPair 4 r true] (by rfl)) := by unfold FnB; kernel_rfl
noncomputable def s78 (p0 : Nat) (p1 : Int) (p2 : Int) (p3 : Int) (p4 : (List SPair)) : EV.Spec Tryd.prog GG ((List SPair)) := .ofFnB 78 [1000000] mixed Tryd.func78 rfl (fun _ => rfl) (k78 p0 p1 p2 p3 p4)
noncomputable def g67 (p0 : Nat) (p1 : Int) (p2 : Int) (p3 : Int) (p4 : (List SPair)) : TT ((List SPair)) :=
 .bind 1
 (.lp (fun (l386 : (List SPair) × Int × Int) => Ext.of .normal [(0, .ref 1000000 0 p0), (2, .int .i64 p2), (4, .fn 27 [] []), (10, .int .i64 l386.2.1), (11, .int .i64 l386.2.2)] [] [BT.of 1000000 tySPair 4 l386.1 true] (by rfl))
  (fun l386 =>
   .br 0 (l386.2.1 != l386.2.2)
   (.br 0 (decide (l386.2.2 < l386.2.1))
    (.call 4008 (s78 p0 (wi64 (p2 - l386.2.1)) p2 l386.2.2 l386.1) [(1000000, 1000000)] [] fun r391 =>
     .done (.inl (r391, (wi64 (l386.2.1 - l386.2.2)), l386.2.2)))
    (.call 6012 (s78 p0 (wi64 (p2 - l386.2.1)) (wi64 ((wi64 (p2 + l386.2.2)) - l386.2.1)) l386.2.1 l386.1) [(1000000, 1000000)] [] fun r396 =>
     .done (.inl (r396, l386.2.1, (wi64 (l386.2.2 - l386.2.1))))))
   (.done (.inr (l386.1, l386.2.1))))
  (p4, (wi64 (p2 - p1)), (wi64 (p3 - p2))))
 (fun (e397 : (List SPair) × Int) => Ext.of (.exit 0) [(0, .ref 1000000 0 p0), (2, .int .i64 p2), (4, .fn 27 [] []), (10, .int .i64 e397.2)] [] [BT.of 1000000 tySPair 4 e397.1 true] (by rfl))
 (fun e397 =>
  .call 8008 (s78 p0 (wi64 (p2 - e397.2)) p2 e397.2 e397.1) [(1000000, 1000000)] [] fun r402 =>
  .done r402)
theorem k67 (p0 : Nat) (p1 : Int) (p2 : Int) (p3 : Int) (p4 : (List SPair)) : FnB Tryd.prog GG [0, 1, 2, 3, 4, 10, 11, 20, 23] Tryd.f67 [.ref 1000000 0 p0, .int .i64 p1, .int .i64 p2, .int .i64 p3, .fn 27 [] []] (Ext.of .normal (argTs [.ref 1000000 0 p0, .int .i64 p1, .int .i64 p2, .int .i64 p3, .fn 27 [] []]) [] [BT.of 1000000 tySPair 4 p4 true] (by rfl)) (g67 p0 p1 p2 p3 p4) (fun (_ : (List SPair)) => .tup []) (fun (r : (List SPair)) => Ext.of .normal [] [] [BT.of 1000000 tySPair 4 r true] (by rfl)) := by unfold FnB; kernel_rfl
noncomputable def s67 (p0 : Nat) (p1 : Int) (p2 : Int) (p3 : Int) (p4 : (List SPair)) : EV.Spec Tryd.prog GG ((List SPair)) := .ofFnB 67 [1000000] mixed Tryd.func67 rfl (fun _ => rfl) (k67 p0 p1 p2 p3 p4)
noncomputable def symSh : Shape Tryd.prog GG (Nat × Int × Int × Int × (List SPair)) ((List SPair)) := {
 f := 61
 args := fun a => [.ref 1000000 0 a.1, .int .i64 a.2.1, .int .i64 a.2.2.1, .int .i64 a.2.2.2.1, .fn 27 [] []]
 X := fun a => Ext.of .normal (argTs [.ref 1000000 0 a.1, .int .i64 a.2.1, .int .i64 a.2.2.1, .int .i64 a.2.2.2.1, .fn 27 [] []]) [] [BT.of 1000000 tySPair 4 a.2.2.2.2 true] (by rfl)
 res := fun _ r => .tup []
 O := fun _ r => Ext.of .normal [] [] [BT.of 1000000 tySPair 4 r true] (by rfl)
 dt := [1000000]
 hdt := fun _ _ => rfl }
abbrev SymR : Type := symSh.R
noncomputable def g61 (R : SymR) (p0 : Nat) (p1 : Int) (p2 : Int) (p3 : Int) (p4 : (List SPair)) : TT ((List SPair)) :=
 .br 0 ((wi64 (p2 - p1)) == 1)
 (.bind 1
  (.lp (fun (l323 : Int × Int) => Ext.of .normal [(0, .ref 1000000 0 p0), (1, .int .i64 p1), (2, .int .i64 p2), (3, .int .i64 p3), (4, .fn 27 [] []), (10, .int .i64 l323.1), (11, .int .i64 l323.2)] [] [BT.of 1000000 tySPair 4 p4 true] (by rfl))
   (fun l323 =>
    .br 0 (decide (l323.1 < l323.2))
    (.chk 5004 (decide (0 ≤ (wi64 (bShr .u64 (wu64 (wi64 (l323.1 + l323.2))) 1))) && decide ((wi64 (bShr .u64 (wu64 (wi64 (l323.1 + l323.2))) 1)) < (p0 : Int))) (.row 5005 tySPair p4 (0 + (wi64 (bShr .u64 (wu64 (wi64 (l323.1 + l323.2))) 1)).toNat) true fun x324 =>
     .chk 5008 (decide (0 ≤ p1) && decide (p1 < (p0 : Int))) (.row 5009 tySPair p4 (0 + p1.toNat) true fun x325 =>
     .call 5010 (s27 x324 x325) [] [] fun r326 =>
     .br 0 (decide (r326 < 0))
     (.done (.inl ((wi64 ((wi64 (bShr .u64 (wu64 (wi64 (l323.1 + l323.2))) 1)) + 1)), l323.2)))
     (.done (.inl (l323.1, (wi64 (bShr .u64 (wu64 (wi64 (l323.1 + l323.2))) 1))))))))
    (.done (.inr l323.1)))
   (p2, p3))
  (fun (e327 : Int) => Ext.of (.exit 0) [(0, .ref 1000000 0 p0), (1, .int .i64 p1), (2, .int .i64 p2), (3, .int .i64 p3), (4, .fn 27 [] []), (10, .int .i64 e327)] [] [BT.of 1000000 tySPair 4 p4 true] (by rfl))
  (fun e327 =>
   .bind 1
   (.lp (fun (l333 : (List SPair) × Int) => Ext.of .normal [(0, .ref 1000000 0 p0), (1, .int .i64 p1), (2, .int .i64 p2), (3, .int .i64 p3), (4, .fn 27 [] []), (10, .int .i64 e327), (13, .int .i64 l333.2)] [] [BT.of 1000000 tySPair 4 l333.1 true] (by rfl))
    (fun l333 =>
     .br 0 (decide (l333.2 < (wi64 (e327 - 1))))
     (.chk 11009 (decide (0 ≤ (wi64 (l333.2 + 1))) && decide ((wi64 (l333.2 + 1)) < (p0 : Int))) (.row 11010 tySPair l333.1 (0 + (wi64 (l333.2 + 1)).toNat) true fun x334 =>
      .chk 11013 (decide (0 ≤ l333.2) && decide (l333.2 < (p0 : Int))) (.row 11014 tySPair l333.1 (0 + l333.2.toNat) true fun x335 =>
      .chk 11015 (decide (0 ≤ l333.2) && decide (l333.2 < (p0 : Int))) (.row 11016 tySPair l333.1 (0 + l333.2.toNat) true fun x336 =>
      .re 11016 (ReW.put 1000000 4 tySPair l333.1 (0 + l333.2.toNat) x334) (.chk 11017 (decide (0 ≤ (wi64 (l333.2 + 1))) && decide ((wi64 (l333.2 + 1)) < (p0 : Int))) (.row 11018 tySPair (l333.1.set (0 + l333.2.toNat) x334) (0 + (wi64 (l333.2 + 1)).toNat) true fun x337 =>
      .re 11018 (ReW.put 1000000 4 tySPair (l333.1.set (0 + l333.2.toNat) x334) (0 + (wi64 (l333.2 + 1)).toNat) x335) (.done (.inl (((l333.1.set (0 + l333.2.toNat) x334).set (0 + (wi64 (l333.2 + 1)).toNat) x335), (wi64 (l333.2 + 1)))))))))))
     (.done (.inr l333.1)))
    (p4, p1))
   (fun (e338 : (List SPair)) => Ext.of (.exit 2) [(0, .ref 1000000 0 p0), (1, .int .i64 p1), (2, .int .i64 p2), (3, .int .i64 p3), (4, .fn 27 [] [])] [] [BT.of 1000000 tySPair 4 e338 true] (by rfl))
   (fun e338 =>
    .done e338)))
 (.br 0 ((wi64 (p3 - p2)) == 1)
  (.bind 1
   (.lp (fun (l343 : Int × Int) => Ext.of .normal [(0, .ref 1000000 0 p0), (1, .int .i64 p1), (2, .int .i64 p2), (3, .int .i64 p3), (4, .fn 27 [] []), (14, .int .i64 l343.1), (15, .int .i64 l343.2)] [] [BT.of 1000000 tySPair 4 p4 true] (by rfl))
    (fun l343 =>
     .br 0 (decide (l343.1 < l343.2))
     (.chk 17004 (decide (0 ≤ p2) && decide (p2 < (p0 : Int))) (.row 17005 tySPair p4 (0 + p2.toNat) true fun x344 =>
      .chk 17008 (decide (0 ≤ (wi64 (bShr .u64 (wu64 (wi64 (l343.1 + l343.2))) 1))) && decide ((wi64 (bShr .u64 (wu64 (wi64 (l343.1 + l343.2))) 1)) < (p0 : Int))) (.row 17009 tySPair p4 (0 + (wi64 (bShr .u64 (wu64 (wi64 (l343.1 + l343.2))) 1)).toNat) true fun x345 =>
      .call 17010 (s27 x344 x345) [] [] fun r346 =>
      .br 0 (!(decide (r346 < 0)))
      (.done (.inl ((wi64 ((wi64 (bShr .u64 (wu64 (wi64 (l343.1 + l343.2))) 1)) + 1)), l343.2)))
      (.done (.inl (l343.1, (wi64 (bShr .u64 (wu64 (wi64 (l343.1 + l343.2))) 1))))))))
     (.done (.inr l343.1)))
    (p1, p2))
   (fun (e347 : Int) => Ext.of (.exit 4) [(0, .ref 1000000 0 p0), (1, .int .i64 p1), (2, .int .i64 p2), (3, .int .i64 p3), (4, .fn 27 [] []), (14, .int .i64 e347)] [] [BT.of 1000000 tySPair 4 p4 true] (by rfl))
   (fun e347 =>
    .bind 1
    (.lp (fun (l353 : (List SPair) × Int) => Ext.of .normal [(0, .ref 1000000 0 p0), (1, .int .i64 p1), (2, .int .i64 p2), (3, .int .i64 p3), (4, .fn 27 [] []), (14, .int .i64 e347), (17, .int .i64 l353.2)] [] [BT.of 1000000 tySPair 4 l353.1 true] (by rfl))
     (fun l353 =>
      .br 0 (decide (e347 < l353.2))
      (.chk 23009 (decide (0 ≤ (wi64 (l353.2 - 1))) && decide ((wi64 (l353.2 - 1)) < (p0 : Int))) (.row 23010 tySPair l353.1 (0 + (wi64 (l353.2 - 1)).toNat) true fun x354 =>
       .chk 23013 (decide (0 ≤ l353.2) && decide (l353.2 < (p0 : Int))) (.row 23014 tySPair l353.1 (0 + l353.2.toNat) true fun x355 =>
       .chk 23015 (decide (0 ≤ l353.2) && decide (l353.2 < (p0 : Int))) (.row 23016 tySPair l353.1 (0 + l353.2.toNat) true fun x356 =>
       .re 23016 (ReW.put 1000000 4 tySPair l353.1 (0 + l353.2.toNat) x354) (.chk 23017 (decide (0 ≤ (wi64 (l353.2 - 1))) && decide ((wi64 (l353.2 - 1)) < (p0 : Int))) (.row 23018 tySPair (l353.1.set (0 + l353.2.toNat) x354) (0 + (wi64 (l353.2 - 1)).toNat) true fun x357 =>
       .re 23018 (ReW.put 1000000 4 tySPair (l353.1.set (0 + l353.2.toNat) x354) (0 + (wi64 (l353.2 - 1)).toNat) x355) (.done (.inl (((l353.1.set (0 + l353.2.toNat) x354).set (0 + (wi64 (l353.2 - 1)).toNat) x355), (wi64 (l353.2 - 1)))))))))))
      (.done (.inr l353.1)))
     (p4, p2))
    (fun (e358 : (List SPair)) => Ext.of (.exit 6) [(0, .ref 1000000 0 p0), (1, .int .i64 p1), (2, .int .i64 p2), (3, .int .i64 p3), (4, .fn 27 [] [])] [] [BT.of 1000000 tySPair 4 e358 true] (by rfl))
    (fun e358 =>
     .done e358)))
  (.bind 0
   (.br 0 (decide ((wi64 (bShr .u64 (wu64 (wi64 (p1 + p3))) 1)) < p2))
    (.done ((wi64 ((wi64 ((wi64 (bShr .u64 (wu64 (wi64 (p1 + p3))) 1)) + p2)) - p3)), (wi64 (bShr .u64 (wu64 (wi64 (p1 + p3))) 1))))
    (.done (p1, p2)))
   (fun (e359 : Int × Int) => Ext.of .normal [(0, .ref 1000000 0 p0), (1, .int .i64 p1), (2, .int .i64 p2), (3, .int .i64 p3), (4, .fn 27 [] []), (18, .int .i64 (wi64 (bShr .u64 (wu64 (wi64 (p1 + p3))) 1))), (19, .int .i64 (wi64 ((wi64 (bShr .u64 (wu64 (wi64 (p1 + p3))) 1)) + p2))), (20, .int .i64 e359.1), (21, .int .i64 e359.2)] [] [BT.of 1000000 tySPair 4 p4 true] (by rfl))
   (fun e359 =>
    .bind 1
    (.lp (fun (l364 : Int × Int) => Ext.of .normal [(0, .ref 1000000 0 p0), (1, .int .i64 p1), (2, .int .i64 p2), (3, .int .i64 p3), (4, .fn 27 [] []), (18, .int .i64 (wi64 (bShr .u64 (wu64 (wi64 (p1 + p3))) 1))), (19, .int .i64 (wi64 ((wi64 (bShr .u64 (wu64 (wi64 (p1 + p3))) 1)) + p2))), (20, .int .i64 l364.1), (21, .int .i64 l364.2), (22, .int .i64 (wi64 ((wi64 ((wi64 (bShr .u64 (wu64 (wi64 (p1 + p3))) 1)) + p2)) - 1)))] [] [BT.of 1000000 tySPair 4 p4 true] (by rfl))
     (fun l364 =>
      .br 0 (decide (l364.1 < l364.2))
      (.chk 35006 (decide (0 ≤ (wi64 ((wi64 ((wi64 ((wi64 (bShr .u64 (wu64 (wi64 (p1 + p3))) 1)) + p2)) - 1)) - (wi64 (bShr .u64 (wu64 (wi64 (l364.1 + l364.2))) 1))))) && decide ((wi64 ((wi64 ((wi64 ((wi64 (bShr .u64 (wu64 (wi64 (p1 + p3))) 1)) + p2)) - 1)) - (wi64 (bShr .u64 (wu64 (wi64 (l364.1 + l364.2))) 1)))) < (p0 : Int))) (.row 35007 tySPair p4 (0 + (wi64 ((wi64 ((wi64 ((wi64 (bShr .u64 (wu64 (wi64 (p1 + p3))) 1)) + p2)) - 1)) - (wi64 (bShr .u64 (wu64 (wi64 (l364.1 + l364.2))) 1)))).toNat) true fun x365 =>
       .chk 35010 (decide (0 ≤ (wi64 (bShr .u64 (wu64 (wi64 (l364.1 + l364.2))) 1))) && decide ((wi64 (bShr .u64 (wu64 (wi64 (l364.1 + l364.2))) 1)) < (p0 : Int))) (.row 35011 tySPair p4 (0 + (wi64 (bShr .u64 (wu64 (wi64 (l364.1 + l364.2))) 1)).toNat) true fun x366 =>
       .call 35012 (s27 x365 x366) [] [] fun r367 =>
       .br 0 (!(decide (r367 < 0)))
       (.done (.inl ((wi64 ((wi64 (bShr .u64 (wu64 (wi64 (l364.1 + l364.2))) 1)) + 1)), l364.2)))
       (.done (.inl (l364.1, (wi64 (bShr .u64 (wu64 (wi64 (l364.1 + l364.2))) 1))))))))
      (.done (.inr l364.1)))
     (e359.1, e359.2))
    (fun (e368 : Int) => Ext.of (.exit 8) [(0, .ref 1000000 0 p0), (1, .int .i64 p1), (2, .int .i64 p2), (3, .int .i64 p3), (4, .fn 27 [] []), (18, .int .i64 (wi64 (bShr .u64 (wu64 (wi64 (p1 + p3))) 1))), (19, .int .i64 (wi64 ((wi64 (bShr .u64 (wu64 (wi64 (p1 + p3))) 1)) + p2))), (20, .int .i64 e368)] [] [BT.of 1000000 tySPair 4 p4 true] (by rfl))
    (fun e368 =>
     .cnd 39 [185]
     (.br 39005 (decide (e368 < p2))
      (.done (decide (p2 < (wi64 ((wi64 ((wi64 (bShr .u64 (wu64 (wi64 (p1 + p3))) 1)) + p2)) - e368)))))
      (.done false))
     (fun (c369 : Bool) => [.bool c369]) fun c369 =>
     .bind 0
     (.br 0 c369
      (.call 40006 (s67 p0 e368 p2 (wi64 ((wi64 ((wi64 (bShr .u64 (wu64 (wi64 (p1 + p3))) 1)) + p2)) - e368)) p4) [(1000000, 1000000)] [] fun r403 =>
       .done r403)
      (.done p4))
     (fun (e404 : (List SPair)) => Ext.of .normal [(0, .ref 1000000 0 p0), (1, .int .i64 p1), (3, .int .i64 p3), (4, .fn 27 [] []), (18, .int .i64 (wi64 (bShr .u64 (wu64 (wi64 (p1 + p3))) 1))), (20, .int .i64 e368), (24, .int .i64 (wi64 ((wi64 ((wi64 (bShr .u64 (wu64 (wi64 (p1 + p3))) 1)) + p2)) - e368)))] [] [BT.of 1000000 tySPair 4 e404 true] (by rfl))
     (fun e404 =>
      .cnd 41 [199]
      (.br 41005 (decide (p1 < e368))
       (.done (decide (e368 < (wi64 (bShr .u64 (wu64 (wi64 (p1 + p3))) 1)))))
       (.done false))
      (fun (c405 : Bool) => [.bool c405]) fun c405 =>
      .bind 0
      (.br 0 c405
       (.call 42006 (symSh.spec R (p0, p1, e368, (wi64 (bShr .u64 (wu64 (wi64 (p1 + p3))) 1)), e404)) [(1000000, 1000000)] [] fun r419 =>
        .done r419)
       (.done e404))
      (fun (e420 : (List SPair)) => Ext.of .normal [(0, .ref 1000000 0 p0), (3, .int .i64 p3), (4, .fn 27 [] []), (18, .int .i64 (wi64 (bShr .u64 (wu64 (wi64 (p1 + p3))) 1))), (24, .int .i64 (wi64 ((wi64 ((wi64 (bShr .u64 (wu64 (wi64 (p1 + p3))) 1)) + p2)) - e368)))] [] [BT.of 1000000 tySPair 4 e420 true] (by rfl))
      (fun e420 =>
       .cnd 43 [213]
       (.br 43005 (decide ((wi64 (bShr .u64 (wu64 (wi64 (p1 + p3))) 1)) < (wi64 ((wi64 ((wi64 (bShr .u64 (wu64 (wi64 (p1 + p3))) 1)) + p2)) - e368))))
        (.done (decide ((wi64 ((wi64 ((wi64 (bShr .u64 (wu64 (wi64 (p1 + p3))) 1)) + p2)) - e368)) < p3)))
        (.done false))
       (fun (c421 : Bool) => [.bool c421]) fun c421 =>
       .br 0 c421
       (.call 44006 (symSh.spec R (p0, (wi64 (bShr .u64 (wu64 (wi64 (p1 + p3))) 1)), (wi64 ((wi64 ((wi64 (bShr .u64 (wu64 (wi64 (p1 + p3))) 1)) + p2)) - e368)), p3, e420)) [(1000000, 1000000)] [] fun r435 =>
        .done r435)
       (.done e420)))))))
theorem k61 (R : SymR) (p0 : Nat) (p1 : Int) (p2 : Int) (p3 : Int) (p4 : (List SPair)) : FnB Tryd.prog GG [0, 1, 2, 3, 4, 10, 11, 12, 13, 14, 15, 16, 17, 18, 19, 20, 21, 22, 23, 24, 28, 33, 50, 58, 80, 85, 103, 110, 140, 151, 171, 185, 199, 213] Tryd.f61 [.ref 1000000 0 p0, .int .i64 p1, .int .i64 p2, .int .i64 p3, .fn 27 [] []] (Ext.of .normal (argTs [.ref 1000000 0 p0, .int .i64 p1, .int .i64 p2, .int .i64 p3, .fn 27 [] []]) [] [BT.of 1000000 tySPair 4 p4 true] (by rfl)) (g61 R p0 p1 p2 p3 p4) (fun (_ : (List SPair)) => .tup []) (fun (r : (List SPair)) => Ext.of .normal [] [] [BT.of 1000000 tySPair 4 r true] (by rfl)) := by unfold FnB; kernel_rfl
noncomputable def s61 (R : SymR) (p0 : Nat) (p1 : Int) (p2 : Int) (p3 : Int) (p4 : (List SPair)) : EV.Spec Tryd.prog GG ((List SPair)) := .ofFnB 61 [1000000] mixed Tryd.func61 rfl (fun _ => rfl) (k61 R p0 p1 p2 p3 p4)
noncomputable def symAll : SymR := symSh.fix (fun R a => (s61 R a.1 a.2.1 a.2.2.1 a.2.2.2.1 a.2.2.2.2)) (fun R a r h => (s61 R a.1 a.2.1 a.2.2.1 a.2.2.2.1 a.2.2.2.2).ok r h) 60
noncomputable def g51 (p0 : Nat) (p1 : Int) (p2 : (List SPair)) : TT ((List SPair)) :=
 .bind 1
 (.lp (fun (l282 : (List SPair) × Int × Int) => Ext.of .normal [(0, .ref 1000000 0 p0), (1, .int .i64 p1), (2, .fn 27 [] []), (6, .int .i64 20), (7, .int .i64 l282.2.1), (8, .int .i64 l282.2.2)] [] [BT.of 1000000 tySPair 4 l282.1 true] (by rfl))
  (fun l282 =>
   .br 0 (decide (l282.2.2 ≤ p1))
   (.call 3005 (s60 p0 l282.2.1 l282.2.2 l282.1) [(1000000, 1000000)] [] fun r292 =>
    .done (.inl (r292, l282.2.2, (wi64 (l282.2.2 + 20)))))
   (.done (.inr (l282.1, l282.2.1))))
  (p2, 0, 20))
 (fun (e293 : (List SPair) × Int) => Ext.of (.exit 0) [(0, .ref 1000000 0 p0), (1, .int .i64 p1), (2, .fn 27 [] []), (6, .int .i64 20), (7, .int .i64 e293.2)] [] [BT.of 1000000 tySPair 4 e293.1 true] (by rfl))
 (fun e293 =>
  .call 6005 (s60 p0 e293.2 p1 e293.1) [(1000000, 1000000)] [] fun r303 =>
  .bind 1
  (.lp (fun (l350 : (List SPair) × Int) => Ext.of .normal [(0, .ref 1000000 0 p0), (1, .int .i64 p1), (2, .fn 27 [] []), (6, .int .i64 l350.2)] [] [BT.of 1000000 tySPair 4 l350.1 true] (by rfl))
   (fun l350 =>
    .br 0 (decide (l350.2 < p1))
    (.bind 2
     (.lp (fun (l366 : (List SPair) × Int × Int) => Ext.of .normal [(0, .ref 1000000 0 p0), (1, .int .i64 p1), (2, .fn 27 [] []), (6, .int .i64 l350.2), (7, .int .i64 l366.2.1), (8, .int .i64 l366.2.2)] [] [BT.of 1000000 tySPair 4 l366.1 true] (by rfl))
      (fun l366 =>
       .br 0 (decide (l366.2.2 ≤ p1))
       (.call 10008 (s61 symAll p0 l366.2.1 (wi64 (l366.2.1 + l350.2)) l366.2.2 l366.1) [(1000000, 1000000)] [] fun r380 =>
        .done (.inl (r380, l366.2.2, (wi64 (l366.2.2 + (wi64 ((2 : Int) * l350.2)))))))
       (.done (.inr (l366.1, l366.2.1))))
      (l350.1, 0, (wi64 ((2 : Int) * l350.2))))
     (fun (e381 : (List SPair) × Int) => Ext.of (.exit 4) [(0, .ref 1000000 0 p0), (1, .int .i64 p1), (2, .fn 27 [] []), (6, .int .i64 l350.2), (7, .int .i64 e381.2)] [] [BT.of 1000000 tySPair 4 e381.1 true] (by rfl))
     (fun e381 =>
      .br 0 (decide ((wi64 (e381.2 + l350.2)) < p1))
      (.call 15006 (s61 symAll p0 e381.2 (wi64 (e381.2 + l350.2)) p1 e381.1) [(1000000, 1000000)] [] fun r395 =>
       .done (.inl (r395, (wi64 (l350.2 * 2)))))
      (.done (.inl (e381.1, (wi64 (l350.2 * 2)))))))
    (.done (.inr l350.1)))
   (r303, 20))
  (fun (e396 : (List SPair)) => Ext.of (.exit 2) [] [] [BT.of 1000000 tySPair 4 e396 true] (by rfl))
  (fun e396 =>
   .done e396))
theorem k51 (p0 : Nat) (p1 : Int) (p2 : (List SPair)) : FnB Tryd.prog GG [0, 1, 2, 6, 7, 8, 9, 13, 30, 35, 54] Tryd.f51 [.ref 1000000 0 p0, .int .i64 p1, .fn 27 [] []] (Ext.of .normal (argTs [.ref 1000000 0 p0, .int .i64 p1, .fn 27 [] []]) [] [BT.of 1000000 tySPair 4 p2 true] (by rfl)) (g51 p0 p1 p2) (fun (_ : (List SPair)) => .tup []) (fun (r : (List SPair)) => Ext.of .normal [] [] [BT.of 1000000 tySPair 4 r true] (by rfl)) := by unfold FnB; kernel_rfl
noncomputable def s51 (p0 : Nat) (p1 : Int) (p2 : (List SPair)) : EV.Spec Tryd.prog GG ((List SPair)) := .ofFnB 51 [1000000] mixed Tryd.func51 rfl (fun _ => rfl) (k51 p0 p1 p2)
noncomputable def g26 (p0 : Nat) (p1 : (List SPair)) : TT ((List SPair)) :=
 .call 5 (s51 p0 (p0 : Int) p1) [(1000000, 1000000)] [] fun r397 =>
 .done r397
theorem k26 (p0 : Nat) (p1 : (List SPair)) : FnB Tryd.prog GG [0, 1] Tryd.f26 [.ref 1000000 0 p0, .fn 27 [] []] (Ext.of .normal (argTs [.ref 1000000 0 p0, .fn 27 [] []]) [] [BT.of 1000000 tySPair 4 p1 true] (by rfl)) (g26 p0 p1) (fun (_ : (List SPair)) => .tup []) (fun (r : (List SPair)) => Ext.of .normal [] [] [BT.of 1000000 tySPair 4 r true] (by rfl)) := by unfold FnB; kernel_rfl
noncomputable def s26 (p0 : Nat) (p1 : (List SPair)) : EV.Spec Tryd.prog GG ((List SPair)) := .ofFnB 26 [1000000] mixed Tryd.func26 rfl (fun _ => rfl) (k26 p0 p1)
end Go.Proofs.YtioobnkmohikjaaDoor
