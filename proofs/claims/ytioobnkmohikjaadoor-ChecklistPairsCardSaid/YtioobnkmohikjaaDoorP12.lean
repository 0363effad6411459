/- Guides and contracts, printed by a program. -/
import Derived.Test.YtioobnkmohikjaaDoorP11
import Derived.Test.YtioobnkmohikjaaDoorP6
import Derived.KernelRfl
namespace Go.Proofs.YtioobnkmohikjaaDoor
open Go Go.EV
set_option maxRecDepth 100000
structure S2Uint8 where
 a0 : Int
 a1 : Int
structure SDraft1 where
 fLocals : (List SDraft)
 fRemotes : (List SDraft)
 fControlling : Bool
 fSet : (List S2Uint8)
def tyS2Uint8 : Ty S2Uint8 := ⟨fun x => [.int .u8 x.a0, .int .u8 x.a1], fun x => [.int .u8 x.a0, .int .u8 x.a1], fun _ => rfl, fun _ => rfl, fun _ _ => rfl, fun _ => rfl⟩
noncomputable def g9 (p0 : SList) (p1 : (List SCandidate)) (p2 : (List SCandidate)) : TT (Bool) :=
 .cnd 1 [20]
 (.call 1004 (s32 p0.fLocals p1) [] [] fun r648 =>
  .br 1007 (!r648)
  (.done true)
  (.call 1010 (s32 p0.fRemotes p2) [] [] fun r649 =>
   .done (!r649)))
 (fun (c650 : Bool) => [.bool c650]) fun c650 =>
 .br 0 c650
 (.done false)
 (.bind2 1
  (.lp (fun (l654 : Int) => Ext.lit .normal [(1, .sl false 8 (List.map tySCandidate.c p1)), (2, .sl false 8 (List.map tySCandidate.c p2)), (6, .bool false), (22, .sl false 4 (List.map tySPair.c p0.fPairs)), (23, .int .i64 (mlen tySPair p0.fPairs)), (24, .int .i64 l654)] [])
   (fun l654 =>
    .br 0 (decide (l654 < (mlen tySPair p0.fPairs)))
    (.row 5001 tySPair p0.fPairs l654.toNat (decide (0 ≤ l654)) fun x655 =>
     .cnd 6 [49]
     (.br 6005 (decide (x655.fLocal < 0))
      (.done true)
      (.br 6012 (decide ((mlen tySCandidate p1) ≤ x655.fLocal))
       (.done true)
       (.br 6017 (decide (x655.fRemote < 0))
        (.done true)
        (.done (decide ((mlen tySCandidate p2) ≤ x655.fRemote))))))
     (fun (c656 : Bool) => [.bool c656]) fun c656 =>
     .br 0 c656
     (.done (.inr (.inl ())))
     (.done (.inl (wi64 (l654 + 1)))))
    (.done (.inr (.inr ()))))
   0)
  (fun (_ : Unit) => Ext.lit .ret [(6, .bool false)] [])
  (fun (_ : Unit) => Ext.lit (.exit 0) [(6, .bool false)] [])
  (fun _ =>
   .done false)
  (fun _ =>
   .done true))
theorem k9 (p0 : SList) (p1 : (List SCandidate)) (p2 : (List SCandidate)) : FnD Tryd.prog GG [0, 1, 2, 3, 6, 8, 20, 22, 23, 24, 25, 49] Tryd.f9 [.agg [.bool p0.fControlling, .sl false 8 (List.map tySCandidate.c p0.fLocals), .sl false 8 (List.map tySCandidate.c p0.fRemotes), .sl false 4 (List.map tySPair.c p0.fPairs)], .sl false 8 (List.map tySCandidate.c p1), .sl false 8 (List.map tySCandidate.c p2)] (g9 p0 p1 p2) (fun r => .bool r) := by unfold FnD; kernel_rfl
noncomputable def s9 (p0 : SList) (p1 : (List SCandidate)) (p2 : (List SCandidate)) : EV.Spec Tryd.prog GG (Bool) := .ofFn 9 mixed Tryd.func9 (k9 p0 p1 p2)
noncomputable def g3 (p0 : SDraft1) : TT (Bool) :=
 .call 1001 s6 [] [] fun r644 =>
 .br 0 (!r644)
 (.done false)
 (.call 3003 (s7 p0.fLocals 12) [] [] fun r645 =>
  .call 3006 (s7 p0.fRemotes 12) [] [] fun r646 =>
  .call 4005 (s8 r645 r646 p0.fControlling) [] [] fun r647 =>
  .cnd 5 [54]
  (.br 5004 (r647.2 != 0)
   (.done true)
   (.call 5007 (s9 r647.1 r645 r646) [] [] fun r659 =>
    .br 5011 (!r659)
    (.done true)
    (.done (decide ((36 : Int) < (mlen tySPair r647.1.fPairs))))))
  (fun (c660 : Bool) => [.bool c660]) fun c660 =>
  .br 0 c660
  (.done false)
  (.bind2 1
   (.lp (fun (l678 : Bool × (List SCandidate) × (List SCandidate) × (List SPair) × (List SCandidate) × (List SCandidate) × Int × Int) => Ext.lit .normal [(1, .ptr 1 0 0), (2, .bool false), (3, .sl false 8 (List.map tySCandidate.c l678.2.2.2.2.1)), (4, .sl false 8 (List.map tySCandidate.c l678.2.2.2.2.2.1)), (5, .ptr 5 0 0), (56, .sl false 4 (List.map tySPair.c l678.2.2.2.1)), (57, .int .i64 l678.2.2.2.2.2.2.1), (58, .int .i64 l678.2.2.2.2.2.2.2)] [(1, ⟨4, true, [[.sl false 6 (List.map tySDraft.c p0.fLocals), .sl false 6 (List.map tySDraft.c p0.fRemotes), .bool p0.fControlling, .sl false 2 (List.map tyS2Uint8.c p0.fSet)]]⟩), (5, ⟨4, true, [[.bool l678.1, .sl false 8 (List.map tySCandidate.c l678.2.1), .sl false 8 (List.map tySCandidate.c l678.2.2.1), .sl false 4 (List.map tySPair.c l678.2.2.2.1)]]⟩)])
    (fun l678 =>
     .br 0 (decide (l678.2.2.2.2.2.2.2 < l678.2.2.2.2.2.2.1))
     (.row 9002 tySPair l678.2.2.2.1 l678.2.2.2.2.2.2.2.toNat (decide (0 ≤ l678.2.2.2.2.2.2.2)) fun x679 =>
      .cnd 10 [76]
      (.br 10004 (decide ((0 : Int) < l678.2.2.2.2.2.2.2))
       (.row 10008 tySPair l678.2.2.2.1 ((wi64 (l678.2.2.2.2.2.2.2 - 1)).toNat) (decide (0 ≤ (wi64 (l678.2.2.2.2.2.2.2 - 1)))) fun x680 =>
        .done (decide (x680.fPriority < x679.fPriority)))
       (.done false))
      (fun (c681 : Bool) => [.bool c681]) fun c681 =>
      .br 0 c681
      (.done (.inr (.inl (l678.1, l678.2.1, l678.2.2.1, l678.2.2.2.1, l678.2.2.2.2.1, l678.2.2.2.2.2.1))))
      (.bind2 1
       (.lp (fun (l688 : Int × Int) => Ext.lit .normal [(1, .ptr 1 0 0), (2, .bool false), (3, .sl false 8 (List.map tySCandidate.c l678.2.2.2.2.1)), (4, .sl false 8 (List.map tySCandidate.c l678.2.2.2.2.2.1)), (5, .ptr 5 0 0), (8, .ptr 8 0 0), (9, .int .i64 l688.1), (56, .sl false 4 (List.map tySPair.c l678.2.2.2.1)), (57, .int .i64 l678.2.2.2.2.2.2.1), (58, .int .i64 l678.2.2.2.2.2.2.2), (78, .sl false 4 (List.map tySPair.c l678.2.2.2.1)), (79, .int .i64 (mlen tySPair l678.2.2.2.1)), (80, .int .i64 l688.2)] [(1, ⟨4, true, [[.sl false 6 (List.map tySDraft.c p0.fLocals), .sl false 6 (List.map tySDraft.c p0.fRemotes), .bool p0.fControlling, .sl false 2 (List.map tyS2Uint8.c p0.fSet)]]⟩), (5, ⟨4, true, [[.bool l678.1, .sl false 8 (List.map tySCandidate.c l678.2.1), .sl false 8 (List.map tySCandidate.c l678.2.2.1), .sl false 4 (List.map tySPair.c l678.2.2.2.1)]]⟩), (8, ⟨4, true, [[.int .i64 x679.fLocal, .int .i64 x679.fRemote, .int .i64 x679.fPriority, .int .i64 x679.fState]]⟩)])
        (fun l688 =>
         .br 0 (decide (l688.2 < (mlen tySPair l678.2.2.2.1)))
         (.row 15001 tySPair l678.2.2.2.1 l688.2.toNat (decide (0 ≤ l688.2)) fun x689 =>
          .cnd 16 [92]
          (.call 16004 (s10 (SList.mk l678.1 l678.2.1 l678.2.2.1 l678.2.2.2.1) x679 x689) [] [] fun r690 =>
           .br 16006 r690
           (.done (x689.fState == 1))
           (.done false))
          (fun (c691 : Bool) => [.bool c691]) fun c691 =>
          .br 0 c691
          (.row 18004 tySCandidate l678.2.2.2.2.1 x689.fLocal.toNat (decide (0 ≤ x689.fLocal)) fun x692 =>
           .row 18010 tySCandidate l678.2.2.2.2.1 x679.fLocal.toNat (decide (0 ≤ x679.fLocal)) fun x693 =>
           .br 0 (decide (x693.fComponent < x692.fComponent))
           (.done (.inr (.inl (x679.fLocal, x679.fRemote, x679.fPriority, x679.fState, (wi64 (l688.1 + 1))))))
           (.done (.inl ((wi64 (l688.1 + 1)), (wi64 (l688.2 + 1))))))
          (.done (.inl (l688.1, (wi64 (l688.2 + 1))))))
         (.done (.inr (.inr (x679.fLocal, x679.fRemote, x679.fPriority, x679.fState, l688.1)))))
        (0, 0))
       (fun (e694 : Int × Int × Int × Int × Int) => Ext.lit .ret [(1, .ptr 1 0 0), (2, .bool false), (3, .sl false 8 (List.map tySCandidate.c l678.2.2.2.2.1)), (4, .sl false 8 (List.map tySCandidate.c l678.2.2.2.2.2.1)), (5, .ptr 5 0 0), (8, .ptr 8 0 0), (9, .int .i64 e694.2.2.2.2), (56, .sl false 4 (List.map tySPair.c l678.2.2.2.1)), (57, .int .i64 l678.2.2.2.2.2.2.1), (58, .int .i64 l678.2.2.2.2.2.2.2)] [(1, ⟨4, true, [[.sl false 6 (List.map tySDraft.c p0.fLocals), .sl false 6 (List.map tySDraft.c p0.fRemotes), .bool p0.fControlling, .sl false 2 (List.map tyS2Uint8.c p0.fSet)]]⟩), (5, ⟨4, true, [[.bool l678.1, .sl false 8 (List.map tySCandidate.c l678.2.1), .sl false 8 (List.map tySCandidate.c l678.2.2.1), .sl false 4 (List.map tySPair.c l678.2.2.2.1)]]⟩), (8, ⟨4, true, [[.int .i64 e694.1, .int .i64 e694.2.1, .int .i64 e694.2.2.1, .int .i64 e694.2.2.2.1]]⟩)])
       (fun (e695 : Int × Int × Int × Int × Int) => Ext.lit (.exit 2) [(1, .ptr 1 0 0), (2, .bool false), (3, .sl false 8 (List.map tySCandidate.c l678.2.2.2.2.1)), (4, .sl false 8 (List.map tySCandidate.c l678.2.2.2.2.2.1)), (5, .ptr 5 0 0), (8, .ptr 8 0 0), (9, .int .i64 e695.2.2.2.2), (56, .sl false 4 (List.map tySPair.c l678.2.2.2.1)), (57, .int .i64 l678.2.2.2.2.2.2.1), (58, .int .i64 l678.2.2.2.2.2.2.2)] [(1, ⟨4, true, [[.sl false 6 (List.map tySDraft.c p0.fLocals), .sl false 6 (List.map tySDraft.c p0.fRemotes), .bool p0.fControlling, .sl false 2 (List.map tyS2Uint8.c p0.fSet)]]⟩), (5, ⟨4, true, [[.bool l678.1, .sl false 8 (List.map tySCandidate.c l678.2.1), .sl false 8 (List.map tySCandidate.c l678.2.2.1), .sl false 4 (List.map tySPair.c l678.2.2.2.1)]]⟩), (8, ⟨4, true, [[.int .i64 e695.1, .int .i64 e695.2.1, .int .i64 e695.2.2.1, .int .i64 e695.2.2.2.1]]⟩)])
       (fun _ =>
        .done (.inr (.inl (l678.1, l678.2.1, l678.2.2.1, l678.2.2.2.1, l678.2.2.2.2.1, l678.2.2.2.2.2.1))))
       (fun e695 =>
        .cnd 21 [120]
        (.br 21004 (e695.2.2.2.2 != 1)
         (.done true)
         (.br 21008 (e695.2.2.2.1 != 1)
          (.done (e695.2.2.2.1 != 0))
          (.done false)))
        (fun (c696 : Bool) => [.bool c696]) fun c696 =>
        .br 0 c696
        (.done (.inr (.inl (l678.1, l678.2.1, l678.2.2.1, l678.2.2.2.1, l678.2.2.2.2.1, l678.2.2.2.2.2.1))))
        (.done (.inl (l678.1, l678.2.1, l678.2.2.1, l678.2.2.2.1, l678.2.2.2.2.1, l678.2.2.2.2.2.1, l678.2.2.2.2.2.2.1, (wi64 (l678.2.2.2.2.2.2.2 + 1))))))))
     (.done (.inr (.inr (l678.1, l678.2.1, l678.2.2.1, l678.2.2.2.1, l678.2.2.2.2.1, l678.2.2.2.2.2.1)))))
    (r647.1.fControlling, r647.1.fLocals, r647.1.fRemotes, r647.1.fPairs, r645, r646, (mlen tySPair r647.1.fPairs), 0))
   (fun (e697 : Bool × (List SCandidate) × (List SCandidate) × (List SPair) × (List SCandidate) × (List SCandidate)) => Ext.lit .ret [(1, .ptr 1 0 0), (2, .bool false), (3, .sl false 8 (List.map tySCandidate.c e697.2.2.2.2.1)), (4, .sl false 8 (List.map tySCandidate.c e697.2.2.2.2.2)), (5, .ptr 5 0 0)] [(1, ⟨4, true, [[.sl false 6 (List.map tySDraft.c p0.fLocals), .sl false 6 (List.map tySDraft.c p0.fRemotes), .bool p0.fControlling, .sl false 2 (List.map tyS2Uint8.c p0.fSet)]]⟩), (5, ⟨4, true, [[.bool e697.1, .sl false 8 (List.map tySCandidate.c e697.2.1), .sl false 8 (List.map tySCandidate.c e697.2.2.1), .sl false 4 (List.map tySPair.c e697.2.2.2.1)]]⟩)])
   (fun (e698 : Bool × (List SCandidate) × (List SCandidate) × (List SPair) × (List SCandidate) × (List SCandidate)) => Ext.lit (.exit 0) [(1, .ptr 1 0 0), (2, .bool false), (3, .sl false 8 (List.map tySCandidate.c e698.2.2.2.2.1)), (4, .sl false 8 (List.map tySCandidate.c e698.2.2.2.2.2)), (5, .ptr 5 0 0)] [(1, ⟨4, true, [[.sl false 6 (List.map tySDraft.c p0.fLocals), .sl false 6 (List.map tySDraft.c p0.fRemotes), .bool p0.fControlling, .sl false 2 (List.map tyS2Uint8.c p0.fSet)]]⟩), (5, ⟨4, true, [[.bool e698.1, .sl false 8 (List.map tySCandidate.c e698.2.1), .sl false 8 (List.map tySCandidate.c e698.2.2.1), .sl false 4 (List.map tySPair.c e698.2.2.2.1)]]⟩)])
   (fun _ =>
    .done false)
   (fun e698 =>
    .bind2 1
    (.lp (fun (l749 : Bool × (List SCandidate) × (List SCandidate) × (List SPair) × (List SCandidate) × (List SCandidate) × Int × Int) => Ext.lit .normal [(1, .ptr 1 0 0), (2, .bool false), (3, .sl false 8 (List.map tySCandidate.c l749.2.2.2.2.1)), (4, .sl false 8 (List.map tySCandidate.c l749.2.2.2.2.2.1)), (5, .ptr 5 0 0), (122, .sl false 8 (List.map tySCandidate.c l749.2.2.2.2.1)), (123, .int .i64 l749.2.2.2.2.2.2.1), (124, .int .i64 l749.2.2.2.2.2.2.2)] [(1, ⟨4, true, [[.sl false 6 (List.map tySDraft.c p0.fLocals), .sl false 6 (List.map tySDraft.c p0.fRemotes), .bool p0.fControlling, .sl false 2 (List.map tyS2Uint8.c p0.fSet)]]⟩), (5, ⟨4, true, [[.bool l749.1, .sl false 8 (List.map tySCandidate.c l749.2.1), .sl false 8 (List.map tySCandidate.c l749.2.2.1), .sl false 4 (List.map tySPair.c l749.2.2.2.1)]]⟩)])
     (fun l749 =>
      .br 0 (decide (l749.2.2.2.2.2.2.2 < l749.2.2.2.2.2.2.1))
      (.row 26002 tySCandidate l749.2.2.2.2.1 l749.2.2.2.2.2.2.2.toNat (decide (0 ≤ l749.2.2.2.2.2.2.2)) fun x750 =>
       .bind2 1
       (.lp (fun (l774 : Int × Int × Int × ByteArray × ByteArray × Int × ByteArray × Int × Int) => Ext.lit .normal [(1, .ptr 1 0 0), (2, .bool false), (3, .sl false 8 (List.map tySCandidate.c l749.2.2.2.2.1)), (4, .sl false 8 (List.map tySCandidate.c l749.2.2.2.2.2.1)), (5, .ptr 5 0 0), (12, .int .i64 l749.2.2.2.2.2.2.2), (13, .ptr 13 0 0), (122, .sl false 8 (List.map tySCandidate.c l749.2.2.2.2.1)), (123, .int .i64 l749.2.2.2.2.2.2.1), (124, .int .i64 l749.2.2.2.2.2.2.2), (129, .sl false 8 (List.map tySCandidate.c l749.2.2.2.2.2.1)), (130, .int .i64 (mlen tySCandidate l749.2.2.2.2.2.1)), (131, .int .i64 l774.2.2.2.2.2.2.2.2)] [(1, ⟨4, true, [[.sl false 6 (List.map tySDraft.c p0.fLocals), .sl false 6 (List.map tySDraft.c p0.fRemotes), .bool p0.fControlling, .sl false 2 (List.map tyS2Uint8.c p0.fSet)]]⟩), (5, ⟨4, true, [[.bool l749.1, .sl false 8 (List.map tySCandidate.c l749.2.1), .sl false 8 (List.map tySCandidate.c l749.2.2.1), .sl false 4 (List.map tySPair.c l749.2.2.2.1)]]⟩), (13, ⟨8, true, [[.int .i64 l774.1, .int .i64 l774.2.1, .int .i64 l774.2.2.1, .str l774.2.2.2.1, .str l774.2.2.2.2.1, .int .i64 l774.2.2.2.2.2.1, .str l774.2.2.2.2.2.2.1, .int .i64 l774.2.2.2.2.2.2.2.1]]⟩)])
        (fun l774 =>
         .br 0 (decide (l774.2.2.2.2.2.2.2.2 < (mlen tySCandidate l749.2.2.2.2.2.1)))
         (.row 29002 tySCandidate l749.2.2.2.2.2.1 l774.2.2.2.2.2.2.2.2.toNat (decide (0 ≤ l774.2.2.2.2.2.2.2.2)) fun x775 =>
          .cnd 30 [157]
          (.br 30007 (l774.2.1 != x775.fComponent)
           (.done true)
           (.br 30018 ((l774.2.2.2.2.1.size : Int) != (x775.fAddr.fHost.size : Int))
            (.done true)
            (.done ((mlen tySPair l749.2.2.2.1) == 36))))
          (fun (c776 : Bool) => [.bool c776]) fun c776 =>
          .br 0 c776
          (.done (.inl (l774.1, l774.2.1, l774.2.2.1, l774.2.2.2.1, l774.2.2.2.2.1, l774.2.2.2.2.2.1, l774.2.2.2.2.2.2.1, l774.2.2.2.2.2.2.2.1, (wi64 (l774.2.2.2.2.2.2.2.2 + 1)))))
          (.bind 0
           (.br 0 (!p0.fControlling)
            (.done (x775.fPriority, l774.2.2.1))
            (.done (l774.2.2.1, x775.fPriority)))
           (fun (e777 : Int × Int) => Ext.lit .normal [(1, .ptr 1 0 0), (2, .bool false), (3, .sl false 8 (List.map tySCandidate.c l749.2.2.2.2.1)), (4, .sl false 8 (List.map tySCandidate.c l749.2.2.2.2.2.1)), (5, .ptr 5 0 0), (12, .int .i64 l749.2.2.2.2.2.2.2), (13, .ptr 13 0 0), (14, .int .i64 l774.2.2.2.2.2.2.2.2), (15, .ptr 15 0 0), (16, .int .i64 e777.1), (17, .int .i64 e777.2), (122, .sl false 8 (List.map tySCandidate.c l749.2.2.2.2.1)), (123, .int .i64 l749.2.2.2.2.2.2.1), (124, .int .i64 l749.2.2.2.2.2.2.2), (129, .sl false 8 (List.map tySCandidate.c l749.2.2.2.2.2.1)), (130, .int .i64 (mlen tySCandidate l749.2.2.2.2.2.1)), (131, .int .i64 l774.2.2.2.2.2.2.2.2)] [(1, ⟨4, true, [[.sl false 6 (List.map tySDraft.c p0.fLocals), .sl false 6 (List.map tySDraft.c p0.fRemotes), .bool p0.fControlling, .sl false 2 (List.map tyS2Uint8.c p0.fSet)]]⟩), (5, ⟨4, true, [[.bool l749.1, .sl false 8 (List.map tySCandidate.c l749.2.1), .sl false 8 (List.map tySCandidate.c l749.2.2.1), .sl false 4 (List.map tySPair.c l749.2.2.2.1)]]⟩), (13, ⟨8, true, [[.int .i64 l774.1, .int .i64 l774.2.1, .int .i64 l774.2.2.1, .str l774.2.2.2.1, .str l774.2.2.2.2.1, .int .i64 l774.2.2.2.2.2.1, .str l774.2.2.2.2.2.2.1, .int .i64 l774.2.2.2.2.2.2.2.1]]⟩), (15, ⟨8, true, [[.int .i64 x775.fKind, .int .i64 x775.fComponent, .int .i64 x775.fPriority, .str x775.fFoundation, .str x775.fAddr.fHost, .int .i64 x775.fAddr.fPort, .str x775.fBase.fHost, .int .i64 x775.fBase.fPort]]⟩)])
           (fun e777 =>
            .call 34003 (s11 e777.1 e777.2) [] [] fun r778 =>
            .bind2 1
            (.lp (fun (l786 : Bool × Int) => Ext.lit .normal [(1, .ptr 1 0 0), (2, .bool false), (3, .sl false 8 (List.map tySCandidate.c l749.2.2.2.2.1)), (4, .sl false 8 (List.map tySCandidate.c l749.2.2.2.2.2.1)), (5, .ptr 5 0 0), (12, .int .i64 l749.2.2.2.2.2.2.2), (13, .ptr 13 0 0), (14, .int .i64 l774.2.2.2.2.2.2.2.2), (15, .ptr 15 0 0), (18, .int .i64 r778.1), (19, .int .i64 r778.2), (20, .bool l786.1), (122, .sl false 8 (List.map tySCandidate.c l749.2.2.2.2.1)), (123, .int .i64 l749.2.2.2.2.2.2.1), (124, .int .i64 l749.2.2.2.2.2.2.2), (129, .sl false 8 (List.map tySCandidate.c l749.2.2.2.2.2.1)), (130, .int .i64 (mlen tySCandidate l749.2.2.2.2.2.1)), (131, .int .i64 l774.2.2.2.2.2.2.2.2), (174, .sl false 4 (List.map tySPair.c l749.2.2.2.1)), (175, .int .i64 (mlen tySPair l749.2.2.2.1)), (176, .int .i64 l786.2)] [(1, ⟨4, true, [[.sl false 6 (List.map tySDraft.c p0.fLocals), .sl false 6 (List.map tySDraft.c p0.fRemotes), .bool p0.fControlling, .sl false 2 (List.map tyS2Uint8.c p0.fSet)]]⟩), (5, ⟨4, true, [[.bool l749.1, .sl false 8 (List.map tySCandidate.c l749.2.1), .sl false 8 (List.map tySCandidate.c l749.2.2.1), .sl false 4 (List.map tySPair.c l749.2.2.2.1)]]⟩), (13, ⟨8, true, [[.int .i64 l774.1, .int .i64 l774.2.1, .int .i64 l774.2.2.1, .str l774.2.2.2.1, .str l774.2.2.2.2.1, .int .i64 l774.2.2.2.2.2.1, .str l774.2.2.2.2.2.2.1, .int .i64 l774.2.2.2.2.2.2.2.1]]⟩), (15, ⟨8, true, [[.int .i64 x775.fKind, .int .i64 x775.fComponent, .int .i64 x775.fPriority, .str x775.fFoundation, .str x775.fAddr.fHost, .int .i64 x775.fAddr.fPort, .str x775.fBase.fHost, .int .i64 x775.fBase.fPort]]⟩)])
             (fun l786 =>
              .br 0 (decide (l786.2 < (mlen tySPair l749.2.2.2.1)))
              (.row 38001 tySPair l749.2.2.2.1 l786.2.toNat (decide (0 ≤ l786.2)) fun x787 =>
               .cnd 39 [23]
               (.row 39004 tySCandidate l749.2.2.2.2.1 x787.fLocal.toNat (decide (0 ≤ x787.fLocal)) fun x788 =>
                .br 39011 ((decide (x788.fBase.fHost = l774.2.2.2.2.2.2.1)) && ((x788.fBase.fPort == l774.2.2.2.2.2.2.2.1) && true))
                (.row 39014 tySCandidate l749.2.2.2.2.2.1 x787.fRemote.toNat (decide (0 ≤ x787.fRemote)) fun x789 =>
                 .br 39022 ((decide (x789.fAddr.fHost = x775.fAddr.fHost)) && ((x789.fAddr.fPort == x775.fAddr.fPort) && true))
                 (.row 39025 tySCandidate l749.2.2.2.2.1 x787.fLocal.toNat (decide (0 ≤ x787.fLocal)) fun x790 =>
                  .done (x790.fComponent == l774.2.1))
                 (.done false))
                (.done false))
               (fun (c791 : Bool) => [.bool c791]) fun c791 =>
               .cnd 40 [238]
               (.br 40003 c791
                (.br 40005 l786.1
                 (.done true)
                 (.br 40012 (decide (x787.fPriority < r778.1))
                  (.done true)
                  (.br 40017 (x787.fLocal == l749.2.2.2.2.2.2.2)
                   (.br 40023 (x787.fRemote == l774.2.2.2.2.2.2.2.2)
                    (.done (x787.fPriority != r778.1))
                    (.done false))
                   (.done false))))
                (.br 40017 (x787.fLocal == l749.2.2.2.2.2.2.2)
                 (.br 40023 (x787.fRemote == l774.2.2.2.2.2.2.2.2)
                  (.done (x787.fPriority != r778.1))
                  (.done false))
                 (.done false)))
               (fun (c792 : Bool) => [.bool c792]) fun c792 =>
               .br 0 c792
               (.done (.inr (.inl (r778.2, l786.1))))
               (.cnd 42 [20]
                (.br 42003 l786.1
                 (.done true)
                 (.done c791))
                (fun (c793 : Bool) => [.bool c793]) fun c793 =>
                .done (.inl (c793, (wi64 (l786.2 + 1))))))
              (.done (.inr (.inr (r778.2, l786.1)))))
             (false, 0))
            (fun (e794 : Int × Bool) => Ext.lit .ret [(1, .ptr 1 0 0), (2, .bool false), (3, .sl false 8 (List.map tySCandidate.c l749.2.2.2.2.1)), (4, .sl false 8 (List.map tySCandidate.c l749.2.2.2.2.2.1)), (5, .ptr 5 0 0), (12, .int .i64 l749.2.2.2.2.2.2.2), (13, .ptr 13 0 0), (19, .int .i64 e794.1), (20, .bool e794.2), (122, .sl false 8 (List.map tySCandidate.c l749.2.2.2.2.1)), (123, .int .i64 l749.2.2.2.2.2.2.1), (124, .int .i64 l749.2.2.2.2.2.2.2), (129, .sl false 8 (List.map tySCandidate.c l749.2.2.2.2.2.1)), (130, .int .i64 (mlen tySCandidate l749.2.2.2.2.2.1)), (131, .int .i64 l774.2.2.2.2.2.2.2.2)] [(1, ⟨4, true, [[.sl false 6 (List.map tySDraft.c p0.fLocals), .sl false 6 (List.map tySDraft.c p0.fRemotes), .bool p0.fControlling, .sl false 2 (List.map tyS2Uint8.c p0.fSet)]]⟩), (5, ⟨4, true, [[.bool l749.1, .sl false 8 (List.map tySCandidate.c l749.2.1), .sl false 8 (List.map tySCandidate.c l749.2.2.1), .sl false 4 (List.map tySPair.c l749.2.2.2.1)]]⟩), (13, ⟨8, true, [[.int .i64 l774.1, .int .i64 l774.2.1, .int .i64 l774.2.2.1, .str l774.2.2.2.1, .str l774.2.2.2.2.1, .int .i64 l774.2.2.2.2.2.1, .str l774.2.2.2.2.2.2.1, .int .i64 l774.2.2.2.2.2.2.2.1]]⟩)])
            (fun (e795 : Int × Bool) => Ext.lit (.exit 8) [(1, .ptr 1 0 0), (2, .bool false), (3, .sl false 8 (List.map tySCandidate.c l749.2.2.2.2.1)), (4, .sl false 8 (List.map tySCandidate.c l749.2.2.2.2.2.1)), (5, .ptr 5 0 0), (12, .int .i64 l749.2.2.2.2.2.2.2), (13, .ptr 13 0 0), (19, .int .i64 e795.1), (20, .bool e795.2), (122, .sl false 8 (List.map tySCandidate.c l749.2.2.2.2.1)), (123, .int .i64 l749.2.2.2.2.2.2.1), (124, .int .i64 l749.2.2.2.2.2.2.2), (129, .sl false 8 (List.map tySCandidate.c l749.2.2.2.2.2.1)), (130, .int .i64 (mlen tySCandidate l749.2.2.2.2.2.1)), (131, .int .i64 l774.2.2.2.2.2.2.2.2)] [(1, ⟨4, true, [[.sl false 6 (List.map tySDraft.c p0.fLocals), .sl false 6 (List.map tySDraft.c p0.fRemotes), .bool p0.fControlling, .sl false 2 (List.map tyS2Uint8.c p0.fSet)]]⟩), (5, ⟨4, true, [[.bool l749.1, .sl false 8 (List.map tySCandidate.c l749.2.1), .sl false 8 (List.map tySCandidate.c l749.2.2.1), .sl false 4 (List.map tySPair.c l749.2.2.2.1)]]⟩), (13, ⟨8, true, [[.int .i64 l774.1, .int .i64 l774.2.1, .int .i64 l774.2.2.1, .str l774.2.2.2.1, .str l774.2.2.2.2.1, .int .i64 l774.2.2.2.2.2.1, .str l774.2.2.2.2.2.2.1, .int .i64 l774.2.2.2.2.2.2.2.1]]⟩)])
            (fun _ =>
             .done (.inr (.inl ())))
            (fun e795 =>
             .cnd 44 [249]
             (.br 44004 (e795.1 != 0)
              (.done true)
              (.done (!e795.2)))
             (fun (c796 : Bool) => [.bool c796]) fun c796 =>
             .br 0 c796
             (.done (.inr (.inl ())))
             (.done (.inl (l774.1, l774.2.1, l774.2.2.1, l774.2.2.2.1, l774.2.2.2.2.1, l774.2.2.2.2.2.1, l774.2.2.2.2.2.2.1, l774.2.2.2.2.2.2.2.1, (wi64 (l774.2.2.2.2.2.2.2.2 + 1)))))))))
         (.done (.inr (.inr ()))))
        (x750.fKind, x750.fComponent, x750.fPriority, x750.fFoundation, x750.fAddr.fHost, x750.fAddr.fPort, x750.fBase.fHost, x750.fBase.fPort, 0))
       (fun (_ : Unit) => Ext.lit .ret [(1, .ptr 1 0 0), (2, .bool false), (3, .sl false 8 (List.map tySCandidate.c l749.2.2.2.2.1)), (4, .sl false 8 (List.map tySCandidate.c l749.2.2.2.2.2.1)), (5, .ptr 5 0 0), (122, .sl false 8 (List.map tySCandidate.c l749.2.2.2.2.1)), (123, .int .i64 l749.2.2.2.2.2.2.1), (124, .int .i64 l749.2.2.2.2.2.2.2)] [(1, ⟨4, true, [[.sl false 6 (List.map tySDraft.c p0.fLocals), .sl false 6 (List.map tySDraft.c p0.fRemotes), .bool p0.fControlling, .sl false 2 (List.map tyS2Uint8.c p0.fSet)]]⟩), (5, ⟨4, true, [[.bool l749.1, .sl false 8 (List.map tySCandidate.c l749.2.1), .sl false 8 (List.map tySCandidate.c l749.2.2.1), .sl false 4 (List.map tySPair.c l749.2.2.2.1)]]⟩)])
       (fun (_ : Unit) => Ext.lit (.exit 6) [(1, .ptr 1 0 0), (2, .bool false), (3, .sl false 8 (List.map tySCandidate.c l749.2.2.2.2.1)), (4, .sl false 8 (List.map tySCandidate.c l749.2.2.2.2.2.1)), (5, .ptr 5 0 0), (122, .sl false 8 (List.map tySCandidate.c l749.2.2.2.2.1)), (123, .int .i64 l749.2.2.2.2.2.2.1), (124, .int .i64 l749.2.2.2.2.2.2.2)] [(1, ⟨4, true, [[.sl false 6 (List.map tySDraft.c p0.fLocals), .sl false 6 (List.map tySDraft.c p0.fRemotes), .bool p0.fControlling, .sl false 2 (List.map tyS2Uint8.c p0.fSet)]]⟩), (5, ⟨4, true, [[.bool l749.1, .sl false 8 (List.map tySCandidate.c l749.2.1), .sl false 8 (List.map tySCandidate.c l749.2.2.1), .sl false 4 (List.map tySPair.c l749.2.2.2.1)]]⟩)])
       (fun _ =>
        .done (.inr (.inl ())))
       (fun _ =>
        .done (.inl (l749.1, l749.2.1, l749.2.2.1, l749.2.2.2.1, l749.2.2.2.2.1, l749.2.2.2.2.2.1, l749.2.2.2.2.2.2.1, (wi64 (l749.2.2.2.2.2.2.2 + 1))))))
      (.done (.inr (.inr ()))))
     (e698.1, e698.2.1, e698.2.2.1, e698.2.2.2.1, e698.2.2.2.2.1, e698.2.2.2.2.2, (mlen tySCandidate e698.2.2.2.2.1), 0))
    (fun (_ : Unit) => Ext.lit .ret [(2, .bool false)] [])
    (fun (_ : Unit) => Ext.lit (.exit 4) [(2, .bool false)] [])
    (fun _ =>
     .done false)
    (fun _ =>
     .done true))))
theorem k3 (p0 : SDraft1) : FnD Tryd.prog GG [0, 1, 2, 3, 4, 5, 6, 7, 8, 9, 11, 12, 13, 14, 15, 16, 17, 18, 19, 20, 22, 23, 25, 54, 56, 57, 58, 59, 76, 78, 79, 80, 81, 92, 107, 120, 122, 123, 124, 125, 129, 130, 131, 132, 157, 164, 174, 175, 176, 177, 238, 249] Tryd.f3 [.agg [.sl false 6 (List.map tySDraft.c p0.fLocals), .sl false 6 (List.map tySDraft.c p0.fRemotes), .bool p0.fControlling, .sl false 2 (List.map tyS2Uint8.c p0.fSet)]] (g3 p0) (fun r => .bool r) := by unfold FnD; kernel_rfl
noncomputable def s3 (p0 : SDraft1) : EV.Spec Tryd.prog GG (Bool) := .ofFn 3 mixed Tryd.func3 (k3 p0)
end Go.Proofs.YtioobnkmohikjaaDoor
