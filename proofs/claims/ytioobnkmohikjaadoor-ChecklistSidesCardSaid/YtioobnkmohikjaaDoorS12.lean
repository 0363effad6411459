/- Guides and contracts, printed by a program. -/
import Derived.Test.YtioobnkmohikjaaDoorS11
import Derived.Test.YtioobnkmohikjaaDoorS6
import Derived.KernelRfl
namespace Go.Proofs.YtioobnkmohikjaaDoor
open Go Go.EV
set_option maxRecDepth 100000
structure S2Uint8 where
 a0 : Int
 a1 : Int
structure SDraft1 where
 fLocals : (List SDraft)
 fRemotes : (List SDraft)
 fControlling : Bool
 fSet : (List S2Uint8)
def tyS2Uint8 : Ty S2Uint8 := ⟨fun x => [.int .u8 x.a0, .int .u8 x.a1], fun x => [.int .u8 x.a0, .int .u8 x.a1], fun _ => rfl, fun _ => rfl, fun _ _ => rfl, fun _ => rfl⟩
noncomputable def g9 (p0 : SList) (p1 : (List SCandidate)) (p2 : (List SCandidate)) : TT (Bool) :=
 .cnd 1 [20]
 (.call 1004 (s32 p0.fLocals p1) [] [] fun r648 =>
  .br 1007 (!r648)
  (.done true)
  (.call 1010 (s32 p0.fRemotes p2) [] [] fun r649 =>
   .done (!r649)))
 (fun (c650 : Bool) => [.bool c650]) fun c650 =>
 .br 0 c650
 (.done false)
 (.bind2 1
  (.lp (fun (l654 : Int) => Ext.lit .normal [(1, .sl false 8 (List.map tySCandidate.c p1)), (2, .sl false 8 (List.map tySCandidate.c p2)), (6, .bool false), (22, .sl false 4 (List.map tySPair.c p0.fPairs)), (23, .int .i64 (mlen tySPair p0.fPairs)), (24, .int .i64 l654)] [])
   (fun l654 =>
    .br 0 (decide (l654 < (mlen tySPair p0.fPairs)))
    (.row 5001 tySPair p0.fPairs l654.toNat (decide (0 ≤ l654)) fun x655 =>
     .cnd 6 [49]
     (.br 6005 (decide (x655.fLocal < 0))
      (.done true)
      (.br 6012 (decide ((mlen tySCandidate p1) ≤ x655.fLocal))
       (.done true)
       (.br 6017 (decide (x655.fRemote < 0))
        (.done true)
        (.done (decide ((mlen tySCandidate p2) ≤ x655.fRemote))))))
     (fun (c656 : Bool) => [.bool c656]) fun c656 =>
     .br 0 c656
     (.done (.inr (.inl ())))
     (.done (.inl (wi64 (l654 + 1)))))
    (.done (.inr (.inr ()))))
   0)
  (fun (_ : Unit) => Ext.lit .ret [(6, .bool false)] [])
  (fun (_ : Unit) => Ext.lit (.exit 0) [(6, .bool false)] [])
  (fun _ =>
   .done false)
  (fun _ =>
   .done true))
theorem k9 (p0 : SList) (p1 : (List SCandidate)) (p2 : (List SCandidate)) : FnD Tryd.prog GG [0, 1, 2, 3, 6, 8, 20, 22, 23, 24, 25, 49] Tryd.f9 [.agg [.bool p0.fControlling, .sl false 8 (List.map tySCandidate.c p0.fLocals), .sl false 8 (List.map tySCandidate.c p0.fRemotes), .sl false 4 (List.map tySPair.c p0.fPairs)], .sl false 8 (List.map tySCandidate.c p1), .sl false 8 (List.map tySCandidate.c p2)] (g9 p0 p1 p2) (fun r => .bool r) := by unfold FnD; kernel_rfl
noncomputable def s9 (p0 : SList) (p1 : (List SCandidate)) (p2 : (List SCandidate)) : EV.Spec Tryd.prog GG (Bool) := .ofFn 9 mixed Tryd.func9 (k9 p0 p1 p2)
end Go.Proofs.YtioobnkmohikjaaDoor
