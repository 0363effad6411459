/- Guides and contracts, printed by a program.
   ChecklistEnds: the drafted list is valid, and a run of checks comes to an end.
   wakes says yes: closed, by the kernel.
   ChecklistNext and ChecklistSets: yes at every argument.
   ChecklistEnds: yes at every argument.
   The listed variables: laid in the witness; no function of the laws reads them. What a call may change: nothing of what was there.
   Arguments opened: what comes in reads as typed data. Conditions: none but that it reads at all.
   Readers of the laws' parameters, printed by a program.
   What is read of a bend.
   tannoylaw10.ChecklistEnds: the card. No conditions but the card's own. -/
import Derived.Test.YtioobnkmohikjaaGreatDoorE9
import Derived.Test.YtioobnkmohikjaaGreatDoorE6
import Derived.Test.YtioobnkmohikjaaGreatDoorE7
import Derived.Test.YtioobnkmohikjaaGreatDoorE5
import Derived.Test.YtioobnkmohikjaaGreatDoorE8
import Derived.Test.YtioobnkmohikjaaGreatDoorRows
import Derived.ChangeSame
import Derived.ChangeVars
import Derived.JoinedOf
import Derived.RowKit
import Derived.ProofKit
import Derived.LaidMore
import Derived.Lay
import Derived.OpenShut
import Derived.Carry
import Derived.Stop.Joined
import Derived.ChangeArms
import Derived.DataReads
import Derived.SevenTiedAt
import Derived.Test.YtioobnkmohikjaaGreatDoorCards
import Derived.Test.YtioobnkmohikjaaGreatDoorTie
import Derived.KernelRfl
namespace Go.Proofs.YtioobnkmohikjaaGreatDoor
open Go Go.EV
set_option maxRecDepth 100000
def ty_bool : Ty Bool := ⟨fun x => [.bool x], fun x => [.bool x], fun _ => rfl, fun _ => rfl, fun _ _ => rfl, fun _ => rfl⟩
noncomputable def g12_1 (p0 : (List SCandidate)) (p1 : (List SCandidate)) (p2 : Bool) : TT ((List SPair) × Int × Bool × (List SCandidate) × (List SCandidate)) :=
 .cnd 1 [30]
 (.br 1005 (decide ((12 : Int) < (mlen tySCandidate p0)))
  (.done true)
  (.done (decide ((12 : Int) < (mlen tySCandidate p1)))))
 (fun (c802 : Bool) => [.bool c802]) fun c802 =>
 .br 0 c802
 (.gh 0 (.virtC 640003 6 3 4) (.done ([], 3, false, [], [])))
 (.cnd 3 [39]
  (.call 3002 (s39 p0) [] [] fun r803 =>
   .br 3005 (!r803)
   (.done true)
   (.call 3006 (s39 p1) [] [] fun r804 =>
    .done (!r804)))
  (fun (c805 : Bool) => [.bool c805]) fun c805 =>
  .br 0 c805
  (.gh 0 (.virtC 640003 6 3 4) (.done ([], 90, false, [], [])))
  (.gh 1 (.virt 600062 9 4) (.bind 0
   (.lp (fun (l829 : (List SPair) × Int) => Ext.of .normal [(0, .sl false 8 (List.map tySCandidate.c p0)), (1, .sl false 8 (List.map tySCandidate.c p1)), (6, .ptr 6 0 0), (7, .int .i64 0), (8, .ptr 8 0 0), (9, .ref 600062 0 l829.1.length), (10, .int .i64 l829.2)] [(6, ⟨4, true, [[.bool false, .nilsl, .nilsl, .nilsl]]⟩), (8, ⟨4, true, [[.bool p2, .sl false 8 (List.map tySCandidate.c p0), .sl false 8 (List.map tySCandidate.c p1), .nilsl]]⟩)] [BT.of 600062 tySPair 4 l829.1 true] (by rfl))
    (fun l829 =>
     .br 0 (decide (l829.2 < (mlen tySCandidate p0)))
     (.gh 1 (.ren 600062 600066) (.bind 0
      (.lp (fun (l844 : (List SPair) × Int) => Ext.of .normal [(0, .sl false 8 (List.map tySCandidate.c p0)), (1, .sl false 8 (List.map tySCandidate.c p1)), (6, .ptr 6 0 0), (7, .int .i64 0), (8, .ptr 8 0 0), (9, .ref 600066 0 l844.1.length), (10, .int .i64 l829.2), (11, .int .i64 l844.2)] [(6, ⟨4, true, [[.bool false, .nilsl, .nilsl, .nilsl]]⟩), (8, ⟨4, true, [[.bool p2, .sl false 8 (List.map tySCandidate.c p0), .sl false 8 (List.map tySCandidate.c p1), .nilsl]]⟩)] [BT.of 600066 tySPair 4 l844.1 true] (by rfl))
       (fun l844 =>
        .br 0 (decide (l844.2 < (mlen tySCandidate p1)))
        (.row 14003 tySCandidate p0 l829.2.toNat (decide (0 ≤ l829.2)) fun x845 =>
         .row 14007 tySCandidate p1 l844.2.toNat (decide (0 ≤ l844.2)) fun x846 =>
         .call 14009 (s40 x845 x846) [] [] fun r847 =>
         .br 0 r847
         (.call 15003 (s41 (SList.mk p2 p0 p1 []) (SPair.mk l829.2 l844.2 0 0)) [] [] fun r848 =>
          .bind 1
          (.lp (fun (l853 : Int) => Ext.of .normal [(0, .sl false 8 (List.map tySCandidate.c p0)), (1, .sl false 8 (List.map tySCandidate.c p1)), (6, .ptr 6 0 0), (7, .int .i64 0), (8, .ptr 8 0 0), (9, .ref 600066 0 l844.1.length), (10, .int .i64 l829.2), (11, .int .i64 l844.2), (12, .ptr 12 0 0), (13, .int .i64 l853)] [(6, ⟨4, true, [[.bool false, .nilsl, .nilsl, .nilsl]]⟩), (8, ⟨4, true, [[.bool p2, .sl false 8 (List.map tySCandidate.c p0), .sl false 8 (List.map tySCandidate.c p1), .nilsl]]⟩), (12, ⟨4, true, [[.int .i64 l829.2, .int .i64 l844.2, .int .i64 r848, .int .i64 0]]⟩)] [BT.of 600066 tySPair 4 l844.1 true] (by rfl))
           (fun l853 =>
            .cnd 17 [85]
            (.br 17004 (decide ((0 : Int) < l853))
             (.chk 17008 (decide (0 ≤ (wi64 (l853 - 1))) && decide ((wi64 (l853 - 1)) < (l844.1.length : Int))) (.row 17009 tySPair l844.1 (0 + (wi64 (l853 - 1)).toNat) true fun x854 =>
              .call 17010 (s42 (SPair.mk l829.2 l844.2 r848 0) x854) [] [] fun r855 =>
              .done r855))
             (.done false))
            (fun (c856 : Bool) => [.bool c856]) fun c856 =>
            .br 0 c856
            (.done (.inl (wi64 (l853 - 1))))
            (.done (.inr (r848, l853))))
           (l844.1.length : Int))
          (fun (e857 : Int × Int) => Ext.of (.exit 4) [(0, .sl false 8 (List.map tySCandidate.c p0)), (1, .sl false 8 (List.map tySCandidate.c p1)), (6, .ptr 6 0 0), (7, .int .i64 0), (8, .ptr 8 0 0), (9, .ref 600066 0 l844.1.length), (10, .int .i64 l829.2), (11, .int .i64 l844.2), (12, .ptr 12 0 0), (13, .int .i64 e857.2)] [(6, ⟨4, true, [[.bool false, .nilsl, .nilsl, .nilsl]]⟩), (8, ⟨4, true, [[.bool p2, .sl false 8 (List.map tySCandidate.c p0), .sl false 8 (List.map tySCandidate.c p1), .nilsl]]⟩), (12, ⟨4, true, [[.int .i64 l829.2, .int .i64 l844.2, .int .i64 e857.1, .int .i64 0]]⟩)] [BT.of 600066 tySPair 4 l844.1 true] (by rfl))
          (fun e857 =>
           .chk 20004 (decide (0 ≤ e857.2) && decide (e857.2 ≤ (l844.1.length : Int))) (.opr 20005 (Rule.appPart (ty := tySPair) (t := 39) (t2 := 39) (e := 68) (e2 := 68) (z := 4) (bytes := 32) (.tmp 88) (.tmp 91) 92 none true [] 600066 0 e857.2.toNat true l844.1 (by kernel_rfl) (by kernel_rfl) (by kernel_rfl) (by decide) (by kernel_rfl) (fun _ => rfl) (by decide) (by simp)) fun _ =>
           .app 20008 tySPair ([] ++ (l844.1.drop 0).take e857.2.toNat) [(SPair.mk l829.2 l844.2 e857.1 0)] 32 false (by intro h; cases h) (.chk 21004 (decide (0 ≤ e857.2) && decide (e857.2 ≤ (l844.1.length : Int))) (.opr 21005 (Rule.appPart (ty := tySPair) (t := 39) (t2 := 39) (e := 68) (e2 := 68) (z := 4) (bytes := 32) (.tmp 96) (.tmp 99) 100 (some 95) true (([] ++ (l844.1.drop 0).take e857.2.toNat) ++ [(SPair.mk l829.2 l844.2 e857.1 0)]) 600066 e857.2.toNat (l844.1.length - e857.2.toNat) true l844.1 (by kernel_rfl) (by kernel_rfl) (by kernel_rfl) (by decide) (by kernel_rfl) (fun _ => rfl) (by decide) (by simp)) fun _ =>
           .gh 0 (.drop [600066]) (.gh 0 (.ren 100 600066) (.done (.inl (((([] ++ (l844.1.drop 0).take e857.2.toNat) ++ [(SPair.mk l829.2 l844.2 e857.1 0)]) ++ (l844.1.drop e857.2.toNat).take (l844.1.length - e857.2.toNat)), (wi64 (l844.2 + 1)))))))))))
         (.done (.inl (l844.1, (wi64 (l844.2 + 1))))))
        (.done (.inr l844.1)))
       (l829.1, 0))
      (fun (e858 : (List SPair)) => Ext.of (.exit 2) [(0, .sl false 8 (List.map tySCandidate.c p0)), (1, .sl false 8 (List.map tySCandidate.c p1)), (6, .ptr 6 0 0), (7, .int .i64 0), (8, .ptr 8 0 0), (9, .ref 600066 0 e858.length), (10, .int .i64 l829.2)] [(6, ⟨4, true, [[.bool false, .nilsl, .nilsl, .nilsl]]⟩), (8, ⟨4, true, [[.bool p2, .sl false 8 (List.map tySCandidate.c p0), .sl false 8 (List.map tySCandidate.c p1), .nilsl]]⟩)] [BT.of 600066 tySPair 4 e858 true] (by rfl))
      (fun e858 =>
       .gh 0 (.ren 600066 600062) (.done (.inl (e858, (wi64 (l829.2 + 1))))))))
     (.done (.inr l829.1)))
    ([], 0))
   (fun (e859 : (List SPair)) => Ext.of (.exit 0) [(6, .ptr 6 0 0), (7, .int .i64 0), (8, .ptr 8 0 0), (9, .ref 600062 0 e859.length)] [(6, ⟨4, true, [[.bool false, .nilsl, .nilsl, .nilsl]]⟩), (8, ⟨4, true, [[.bool p2, .sl false 8 (List.map tySCandidate.c p0), .sl false 8 (List.map tySCandidate.c p1), .nilsl]]⟩)] [BT.of 600062 tySPair 4 e859 true] (by rfl))
   (fun e859 =>
    .gh 1 (.virtC 600068 8 3 4) (.bind 0
    (.lp (fun (l862 : (List SPair) × Int) => Ext.of .normal [(6, .ptr 6 0 0), (7, .int .i64 0), (8, .ptr 8 0 0), (9, .ref 600062 0 e859.length), (15, .int .i64 l862.2)] [(6, ⟨4, true, [[.bool false, .nilsl, .nilsl, .nilsl]]⟩), (8, ⟨4, true, [[.bool p2, .sl false 8 (List.map tySCandidate.c p0), .sl false 8 (List.map tySCandidate.c p1), .ref 600068 0 l862.1.length]]⟩)] [BT.of 600062 tySPair 4 e859 true, BT.of 600068 tySPair 4 l862.1 true] (by rfl))
     (fun l862 =>
      .br 0 (decide (l862.2 < (e859.length : Int)))
      (.bind 2
       (.lp (fun (l867 : Bool × Int) => Ext.of .normal [(6, .ptr 6 0 0), (7, .int .i64 0), (8, .ptr 8 0 0), (9, .ref 600062 0 e859.length), (15, .int .i64 l862.2), (16, .bool l867.1), (17, .int .i64 l867.2)] [(6, ⟨4, true, [[.bool false, .nilsl, .nilsl, .nilsl]]⟩), (8, ⟨4, true, [[.bool p2, .sl false 8 (List.map tySCandidate.c p0), .sl false 8 (List.map tySCandidate.c p1), .ref 600068 0 l862.1.length]]⟩)] [BT.of 600062 tySPair 4 e859 true, BT.of 600068 tySPair 4 l862.1 true] (by rfl))
        (fun l867 =>
         .br 0 (decide (l867.2 < l862.2))
         (.cnd 29 [16]
          (.br 29003 l867.1
           (.done true)
           (.chk 29006 (decide (0 ≤ l862.2) && decide (l862.2 < (e859.length : Int))) (.row 29007 tySPair e859 (0 + l862.2.toNat) true fun x868 =>
            .chk 29010 (decide (0 ≤ l867.2) && decide (l867.2 < (e859.length : Int))) (.row 29011 tySPair e859 (0 + l867.2.toNat) true fun x869 =>
            .view 29012 (s43 (SList.mk p2 p0 p1 l862.1) x868 x869) [(VwW.of 600068 tySPair l862.1)] fun r870 =>
            .done r870))))
          (fun (c871 : Bool) => [.bool c871]) fun c871 =>
          .done (.inl (c871, (wi64 (l867.2 + 1)))))
         (.done (.inr l867.1)))
        (false, 0))
       (fun (e872 : Bool) => Ext.of (.exit 8) [(6, .ptr 6 0 0), (7, .int .i64 0), (8, .ptr 8 0 0), (9, .ref 600062 0 e859.length), (15, .int .i64 l862.2), (16, .bool e872)] [(6, ⟨4, true, [[.bool false, .nilsl, .nilsl, .nilsl]]⟩), (8, ⟨4, true, [[.bool p2, .sl false 8 (List.map tySCandidate.c p0), .sl false 8 (List.map tySCandidate.c p1), .ref 600068 0 l862.1.length]]⟩)] [BT.of 600062 tySPair 4 e859 true, BT.of 600068 tySPair 4 l862.1 true] (by rfl))
       (fun e872 =>
        .cnd 30 [132]
        (.br 30004 (!e872)
         (.done (decide ((l862.1.length : Int) < 36)))
         (.done false))
        (fun (c873 : Bool) => [.bool c873]) fun c873 =>
        .br 0 c873
        (.chk 31005 (decide (0 ≤ l862.2) && decide (l862.2 < (e859.length : Int))) (.row 31006 tySPair e859 (0 + l862.2.toNat) true fun x874 =>
         .app 31008 tySPair l862.1 [x874] 32 false (by intro h; cases h) (.gh 0 (.drop [600068]) (.gh 0 (.ren 140 600068) (.done (.inl ((l862.1 ++ [x874]), (wi64 (l862.2 + 1)))))))))
        (.done (.inl (l862.1, (wi64 (l862.2 + 1)))))))
      (.done (.inr l862.1)))
     ([], 0))
    (fun (e875 : (List SPair)) => Ext.of (.exit 6) [(6, .ptr 6 0 0), (7, .int .i64 0), (8, .ptr 8 0 0)] [(6, ⟨4, true, [[.bool false, .nilsl, .nilsl, .nilsl]]⟩), (8, ⟨4, true, [[.bool p2, .sl false 8 (List.map tySCandidate.c p0), .sl false 8 (List.map tySCandidate.c p1), .ref 600068 0 e875.length]]⟩)] [BT.of 600068 tySPair 4 e875 true] (by rfl))
    (fun e875 =>
     .bind 1
     (.lp (fun (l895 : (List SPair) × Int) => Ext.of .normal [(6, .ptr 6 0 0), (7, .int .i64 0), (8, .ptr 8 0 0), (18, .int .i64 l895.2)] [(6, ⟨4, true, [[.bool false, .nilsl, .nilsl, .nilsl]]⟩), (8, ⟨4, true, [[.bool p2, .sl false 8 (List.map tySCandidate.c p0), .sl false 8 (List.map tySCandidate.c p1), .ref 600068 0 l895.1.length]]⟩)] [BT.of 600068 tySPair 4 l895.1 true] (by rfl))
      (fun l895 =>
       .br 0 (decide (l895.2 < (l895.1.length : Int)))
       (.chk 35006 (decide (0 ≤ l895.2) && decide (l895.2 < (l895.1.length : Int))) (.row 35008 tySPair l895.1 (0 + l895.2.toNat) true fun x896 =>
        .row 35009 tySCandidate p0 x896.fLocal.toNat (decide (0 ≤ x896.fLocal)) fun x897 =>
        .bind 1
        (.lp (fun (l905 : Bool × Int) => Ext.of .normal [(6, .ptr 6 0 0), (7, .int .i64 0), (8, .ptr 8 0 0), (18, .int .i64 l895.2), (19, .int .i64 x897.fComponent), (20, .bool l905.1), (21, .int .i64 l905.2)] [(6, ⟨4, true, [[.bool false, .nilsl, .nilsl, .nilsl]]⟩), (8, ⟨4, true, [[.bool p2, .sl false 8 (List.map tySCandidate.c p0), .sl false 8 (List.map tySCandidate.c p1), .ref 600068 0 l895.1.length]]⟩)] [BT.of 600068 tySPair 4 l895.1 true] (by rfl))
         (fun l905 =>
          .br 0 (decide (l905.2 < (l895.1.length : Int)))
          (.chk 40006 (decide (0 ≤ l905.2) && decide (l905.2 < (l895.1.length : Int))) (.row 40008 tySPair l895.1 (0 + l905.2.toNat) true fun x906 =>
           .row 40009 tySCandidate p0 x906.fLocal.toNat (decide (0 ≤ x906.fLocal)) fun x907 =>
           .cnd 41 [204]
           (.chk 41005 (decide (0 ≤ l895.2) && decide (l895.2 < (l895.1.length : Int))) (.row 41006 tySPair l895.1 (0 + l895.2.toNat) true fun x908 =>
            .chk 41010 (decide (0 ≤ l905.2) && decide (l905.2 < (l895.1.length : Int))) (.row 41011 tySPair l895.1 (0 + l905.2.toNat) true fun x909 =>
            .view 41012 (s44 (SList.mk p2 p0 p1 l895.1) x908 x909) [(VwW.of 600068 tySPair l895.1)] fun r910 =>
            .br 41014 r910
            (.br 41018 (decide (x907.fComponent < x897.fComponent))
             (.done true)
             (.br 41022 (x907.fComponent == x897.fComponent)
              (.done (decide (l905.2 < l895.2)))
              (.done false)))
            (.done false))))
           (fun (c911 : Bool) => [.bool c911]) fun c911 =>
           .br 0 c911
           (.done (.inl (false, (wi64 (l905.2 + 1)))))
           (.done (.inl (l905.1, (wi64 (l905.2 + 1)))))))
          (.done (.inr l905.1)))
         (true, 0))
        (fun (e912 : Bool) => Ext.of (.exit 12) [(6, .ptr 6 0 0), (7, .int .i64 0), (8, .ptr 8 0 0), (18, .int .i64 l895.2), (20, .bool e912)] [(6, ⟨4, true, [[.bool false, .nilsl, .nilsl, .nilsl]]⟩), (8, ⟨4, true, [[.bool p2, .sl false 8 (List.map tySCandidate.c p0), .sl false 8 (List.map tySCandidate.c p1), .ref 600068 0 l895.1.length]]⟩)] [BT.of 600068 tySPair 4 l895.1 true] (by rfl))
        (fun e912 =>
         .br 0 e912
         (.chk 44004 (decide (0 ≤ l895.2) && decide (l895.2 < (l895.1.length : Int))) (.row 44006 tySPair l895.1 (0 + l895.2.toNat) true fun x913 =>
          .re 44006 (ReW.put 600068 4 tySPair l895.1 (0 + l895.2.toNat) (SPair.mk x913.fLocal x913.fRemote x913.fPriority 1)) (.gh 36 (.len 600068 ((l895.1.set (0 + l895.2.toNat) (SPair.mk x913.fLocal x913.fRemote x913.fPriority 1)).length) [l895.1.length] (by simp)) (.done (.inl ((l895.1.set (0 + l895.2.toNat) (SPair.mk x913.fLocal x913.fRemote x913.fPriority 1)), (wi64 (l895.2 + 1))))))))
         (.done (.inl (l895.1, (wi64 (l895.2 + 1))))))))
       (.done (.inr l895.1)))
      (e875, 0))
     (fun (e914 : (List SPair)) => Ext.of (.exit 10) [(6, .ptr 6 0 0), (7, .int .i64 0), (8, .ptr 8 0 0)] [(6, ⟨4, true, [[.bool false, .nilsl, .nilsl, .nilsl]]⟩), (8, ⟨4, true, [[.bool p2, .sl false 8 (List.map tySCandidate.c p0), .sl false 8 (List.map tySCandidate.c p1), .ref 600068 0 e914.length]]⟩)] [BT.of 600068 tySPair 4 e914 true] (by rfl))
     (fun e914 =>
      .gh 0 (.ren 600068 640003) (.done (e914, 0, p2, p0, p1)))))))))
theorem k12_1 (p0 : (List SCandidate)) (p1 : (List SCandidate)) (p2 : Bool) : FnB Tryz.prog GG [0, 1, 2, 6, 7, 8, 9, 10, 11, 12, 13, 14, 15, 16, 17, 18, 19, 20, 21, 22, 30, 39, 48, 54, 68, 85, 104, 109, 132, 146, 164, 204, 205] Tryz.f12 [.sl false 8 (List.map tySCandidate.c p0), .sl false 8 (List.map tySCandidate.c p1), .bool p2] (Ext.of .normal (argTs [.sl false 8 (List.map tySCandidate.c p0), .sl false 8 (List.map tySCandidate.c p1), .bool p2]) [] [] (by rfl)) (g12_1 p0 p1 p2) (fun (r : (List SPair) × Int × Bool × (List SCandidate) × (List SCandidate)) => .tup [.agg [.bool r.2.2.1, .sl false 8 (List.map tySCandidate.c r.2.2.2.1), .sl false 8 (List.map tySCandidate.c r.2.2.2.2), .ref 640003 0 r.1.length], .int .i64 r.2.1]) (fun (r : (List SPair) × Int × Bool × (List SCandidate) × (List SCandidate)) => Ext.of .normal [] [] [BT.of 640003 tySPair 4 r.1 true] (by rfl)) := by unfold FnB; kernel_rfl
noncomputable def s12_1 (p0 : (List SCandidate)) (p1 : (List SCandidate)) (p2 : Bool) : EV.Spec Tryz.prog GG ((List SPair) × Int × Bool × (List SCandidate) × (List SCandidate)) := .ofFnB 12 [640003] mixed Tryz.func12 rfl (fun _ => rfl) (k12_1 p0 p1 p2)
noncomputable def g24_1 (p0 : SList) (p1 : Int) (p2 : Int) : TT ((List SPair) × Int × Bool × (List SCandidate) × (List SCandidate)) :=
 .call 1002 (s15 p0) [] [] fun r920 =>
 .br 0 (!r920)
 (.gh 0 (.virtC 640003 6 3 4) (.done ([], 100, false, [], [])))
 (.cnd 3 [29]
  (.br 3004 (decide (p1 < 0))
   (.done true)
   (.br 3011 (decide ((mlen tySPair p0.fPairs) ≤ p1))
    (.done true)
    (.br 3015 (decide (p2 < 0))
     (.done true)
     (.done (decide ((4 : Int) < p2))))))
  (fun (c921 : Bool) => [.bool c921]) fun c921 =>
  .br 0 c921
  (.gh 0 (.virtC 640003 6 3 4) (.done ([], 2, false, [], [])))
  (.call 5002 (s57 p0) [] [(7, 500070)] fun r922 =>
   .chk 6005 (decide (0 ≤ p1) && decide (p1 < (r922.length : Int))) (.row 6007 tySPair r922 (0 + p1.toNat) true fun x923 =>
   .re 6007 (ReW.put 500070 4 tySPair r922 (0 + p1.toNat) (SPair.mk x923.fLocal x923.fRemote x923.fPriority p2)) (.gh 9 (.len 500070 ((r922.set (0 + p1.toNat) (SPair.mk x923.fLocal x923.fRemote x923.fPriority p2)).length) [r922.length] (by simp)) (.bind 1
   (.lp (fun (l932 : (List SPair) × Int) => Ext.of .normal [(1, .int .i64 p1), (2, .int .i64 p2), (3, .ptr 3 0 0), (6, .ptr 6 0 0), (7, .int .i64 0), (8, .int .i64 l932.2)] [(3, ⟨4, true, [[.bool p0.fControlling, .sl false 8 (List.map tySCandidate.c p0.fLocals), .sl false 8 (List.map tySCandidate.c p0.fRemotes), .ref 500070 0 l932.1.length]]⟩), (6, ⟨4, true, [[.bool false, .nilsl, .nilsl, .nilsl]]⟩)] [BT.of 500070 tySPair 4 l932.1 true] (by rfl))
    (fun l932 =>
     .cnd 8 [47]
     (.br 8007 (decide (l932.2 < (l932.1.length : Int)))
      (.done (p2 == 3))
      (.done false))
     (fun (c933 : Bool) => [.bool c933]) fun c933 =>
     .br 0 c933
     (.cnd 10 [70]
      (.chk 10004 (decide (0 ≤ l932.2) && decide (l932.2 < (l932.1.length : Int))) (.row 10006 tySPair l932.1 (0 + l932.2.toNat) true fun x934 =>
       .br 10009 (x934.fState == 0)
       (.chk 10013 (decide (0 ≤ p1) && decide (p1 < (l932.1.length : Int))) (.row 10014 tySPair l932.1 (0 + p1.toNat) true fun x935 =>
        .chk 10018 (decide (0 ≤ l932.2) && decide (l932.2 < (l932.1.length : Int))) (.row 10019 tySPair l932.1 (0 + l932.2.toNat) true fun x936 =>
        .view 10020 (s44 (SList.mk p0.fControlling p0.fLocals p0.fRemotes l932.1) x935 x936) [(VwW.of 500070 tySPair l932.1)] fun r937 =>
        .done r937)))
       (.done false)))
      (fun (c938 : Bool) => [.bool c938]) fun c938 =>
      .br 0 c938
      (.chk 11004 (decide (0 ≤ l932.2) && decide (l932.2 < (l932.1.length : Int))) (.row 11006 tySPair l932.1 (0 + l932.2.toNat) true fun x939 =>
       .re 11006 (ReW.put 500070 4 tySPair l932.1 (0 + l932.2.toNat) (SPair.mk x939.fLocal x939.fRemote x939.fPriority 1)) (.gh 11 (.len 500070 ((l932.1.set (0 + l932.2.toNat) (SPair.mk x939.fLocal x939.fRemote x939.fPriority 1)).length) [l932.1.length] (by simp)) (.done (.inl ((l932.1.set (0 + l932.2.toNat) (SPair.mk x939.fLocal x939.fRemote x939.fPriority 1)), (wi64 (l932.2 + 1))))))))
      (.done (.inl (l932.1, (wi64 (l932.2 + 1))))))
     (.done (.inr l932.1)))
    ((r922.set (0 + p1.toNat) (SPair.mk x923.fLocal x923.fRemote x923.fPriority p2)), 0))
   (fun (e940 : (List SPair)) => Ext.of (.exit 0) [(3, .ptr 3 0 0), (6, .ptr 6 0 0), (7, .int .i64 0)] [(3, ⟨4, true, [[.bool p0.fControlling, .sl false 8 (List.map tySCandidate.c p0.fLocals), .sl false 8 (List.map tySCandidate.c p0.fRemotes), .ref 500070 0 e940.length]]⟩), (6, ⟨4, true, [[.bool false, .nilsl, .nilsl, .nilsl]]⟩)] [BT.of 500070 tySPair 4 e940 true] (by rfl))
   (fun e940 =>
    .gh 0 (.ren 500070 640003) (.done (e940, 0, p0.fControlling, p0.fLocals, p0.fRemotes))))))))
theorem k24_1 (p0 : SList) (p1 : Int) (p2 : Int) : FnB Tryz.prog GG [0, 1, 2, 3, 6, 7, 8, 11, 29, 47, 70] Tryz.f24 [.agg [.bool p0.fControlling, .sl false 8 (List.map tySCandidate.c p0.fLocals), .sl false 8 (List.map tySCandidate.c p0.fRemotes), .sl false 4 (List.map tySPair.c p0.fPairs)], .int .i64 p1, .int .i64 p2] (Ext.of .normal (argTs [.agg [.bool p0.fControlling, .sl false 8 (List.map tySCandidate.c p0.fLocals), .sl false 8 (List.map tySCandidate.c p0.fRemotes), .sl false 4 (List.map tySPair.c p0.fPairs)], .int .i64 p1, .int .i64 p2]) [] [] (by rfl)) (g24_1 p0 p1 p2) (fun (r : (List SPair) × Int × Bool × (List SCandidate) × (List SCandidate)) => .tup [.agg [.bool r.2.2.1, .sl false 8 (List.map tySCandidate.c r.2.2.2.1), .sl false 8 (List.map tySCandidate.c r.2.2.2.2), .ref 640003 0 r.1.length], .int .i64 r.2.1]) (fun (r : (List SPair) × Int × Bool × (List SCandidate) × (List SCandidate)) => Ext.of .normal [] [] [BT.of 640003 tySPair 4 r.1 true] (by rfl)) := by unfold FnB; kernel_rfl
noncomputable def s24_1 (p0 : SList) (p1 : Int) (p2 : Int) : EV.Spec Tryz.prog GG ((List SPair) × Int × Bool × (List SCandidate) × (List SCandidate)) := .ofFnB 24 [640003] mixed Tryz.func24 rfl (fun _ => rfl) (k24_1 p0 p1 p2)
noncomputable def g25_1 (p0 : SDraft1) : TT ((List SPair) × Bool × (List SCandidate) × (List SCandidate)) :=
 .call 1003 (s8 p0.fLocals 12) [] [] fun r800 =>
 .call 1006 (s8 p0.fRemotes 12) [] [] fun r801 =>
 .call 1009 (s12_1 r800 r801 p0.fControlling) [] [(640003, 500069)] fun r915 =>
 .gh 1 (.ren 500069 600078) (.bind 0
 (.lp (fun (l921 : Bool × (List SCandidate) × (List SCandidate) × (List SPair) × Int) => Ext.of .normal [(1, .ptr 1 0 0), (2, .ptr 2 0 0), (3, .ptr 3 0 0), (5, .int .i64 l921.2.2.2.2)] [(1, ⟨4, true, [[.sl false 6 (List.map tySDraft.c p0.fLocals), .sl false 6 (List.map tySDraft.c p0.fRemotes), .bool p0.fControlling, .sl false 2 (List.map tyS2Uint8.c p0.fSet)]]⟩), (2, ⟨4, true, [[.bool false, .nilsl, .nilsl, .nilsl]]⟩), (3, ⟨4, true, [[.bool l921.1, .sl false 8 (List.map tySCandidate.c l921.2.1), .sl false 8 (List.map tySCandidate.c l921.2.2.1), .ref 600078 0 l921.2.2.2.1.length]]⟩)] [BT.of 600078 tySPair 4 l921.2.2.2.1 true] (by rfl))
  (fun l921 =>
   .cnd 3 [32]
   (.br 3007 (decide (l921.2.2.2.2 < (mlen tyS2Uint8 p0.fSet)))
    (.br 3011 (decide (l921.2.2.2.2 < 10))
     (.done (decide ((0 : Int) < (l921.2.2.2.1.length : Int))))
     (.done false))
    (.done false))
   (fun (c922 : Bool) => [.bool c922]) fun c922 =>
   .br 0 c922
   (.gh 7 (.share (VwW.of 600078 tySPair l921.2.2.2.1) 0) (.row 5005 tyS2Uint8 p0.fSet l921.2.2.2.2.toNat (decide (0 ≤ l921.2.2.2.2)) fun x923 =>
    .chk 5012 (!((mlen tySPair l921.2.2.2.1) == 0)) (.row 5016 tyS2Uint8 p0.fSet l921.2.2.2.2.toNat (decide (0 ≤ l921.2.2.2.2)) fun x924 =>
    .call 5021 (s24_1 (SList.mk l921.1 l921.2.1 l921.2.2.1 l921.2.2.2.1) (Int.tmod (wi64 x923.a0) (mlen tySPair l921.2.2.2.1)) (wi64 (Int.tmod x924.a1 5))) [] [(640003, 500080)] fun r925 =>
    .gh 0 (.drop [600078]) (.gh 0 (.ren 500080 600078) (.done (.inl (r925.2.2.1, r925.2.2.2.1, r925.2.2.2.2, r925.1, (wi64 (l921.2.2.2.2 + 1)))))))))
   (.done (.inr (l921.2.2.2.1, l921.1, l921.2.1, l921.2.2.1))))
  (r915.2.2.1, r915.2.2.2.1, r915.2.2.2.2, r915.1, 0))
 (fun (e926 : (List SPair) × Bool × (List SCandidate) × (List SCandidate)) => Ext.of (.exit 0) [(2, .ptr 2 0 0), (3, .ptr 3 0 0)] [(2, ⟨4, true, [[.bool false, .nilsl, .nilsl, .nilsl]]⟩), (3, ⟨4, true, [[.bool e926.2.1, .sl false 8 (List.map tySCandidate.c e926.2.2.1), .sl false 8 (List.map tySCandidate.c e926.2.2.2), .ref 600078 0 e926.1.length]]⟩)] [BT.of 600078 tySPair 4 e926.1 true] (by rfl))
 (fun e926 =>
  .done (e926.1, e926.2.1, e926.2.2.1, e926.2.2.2)))
theorem k25_1 (p0 : SDraft1) : FnB Tryz.prog GG [0, 1, 2, 3, 5, 32] Tryz.f25 [.agg [.sl false 6 (List.map tySDraft.c p0.fLocals), .sl false 6 (List.map tySDraft.c p0.fRemotes), .bool p0.fControlling, .sl false 2 (List.map tyS2Uint8.c p0.fSet)]] (Ext.of .normal (argTs [.agg [.sl false 6 (List.map tySDraft.c p0.fLocals), .sl false 6 (List.map tySDraft.c p0.fRemotes), .bool p0.fControlling, .sl false 2 (List.map tyS2Uint8.c p0.fSet)]]) [] [] (by rfl)) (g25_1 p0) (fun (r : (List SPair) × Bool × (List SCandidate) × (List SCandidate)) => .agg [.bool r.2.1, .sl false 8 (List.map tySCandidate.c r.2.2.1), .sl false 8 (List.map tySCandidate.c r.2.2.2), .ref 600078 0 r.1.length]) (fun (r : (List SPair) × Bool × (List SCandidate) × (List SCandidate)) => Ext.of .normal [] [] [BT.of 600078 tySPair 4 r.1 true] (by rfl)) := by unfold FnB; kernel_rfl
noncomputable def s25_1 (p0 : SDraft1) : EV.Spec Tryz.prog GG ((List SPair) × Bool × (List SCandidate) × (List SCandidate)) := .ofFnB 25 [600078] mixed Tryz.func25 rfl (fun _ => rfl) (k25_1 p0)
noncomputable def g6 (p0 : SDraft1) (p1 : (List Int)) : TT (Bool) :=
 .call 1001 s7 [] [] fun r799 =>
 .br 0 (!r799)
 (.done false)
 (.call 3002 (s25_1 p0) [] [(600078, 500081)] fun r927 =>
  .bind 1
  (.lp (fun (l931 : (List SPair) × Int) => Ext.of .normal [(1, .sl false 1 (List.map ty_u8.c p1)), (4, .bool false), (5, .ptr 5 0 0), (25, .int .i64 (r927.1.length : Int)), (26, .int .i64 l931.2)] [(5, ⟨4, true, [[.bool r927.2.1, .sl false 8 (List.map tySCandidate.c r927.2.2.1), .sl false 8 (List.map tySCandidate.c r927.2.2.2), .ref 500081 0 l931.1.length]]⟩)] [BT.of 500081 tySPair 4 l931.1 true] (by rfl))
   (fun l931 =>
    .br 0 (decide (l931.2 < (r927.1.length : Int)))
    (.chk 7004 (decide (0 ≤ l931.2) && decide (l931.2 < (l931.1.length : Int))) (.row 7006 tySPair l931.1 (0 + l931.2.toNat) true fun x932 =>
     .br 0 (x932.fState == 2)
     (.chk 8004 (decide (0 ≤ l931.2) && decide (l931.2 < (l931.1.length : Int))) (.row 8006 tySPair l931.1 (0 + l931.2.toNat) true fun x933 =>
      .re 8006 (ReW.put 500081 4 tySPair l931.1 (0 + l931.2.toNat) (SPair.mk x933.fLocal x933.fRemote x933.fPriority 0)) (.gh 11 (.len 500081 ((l931.1.set (0 + l931.2.toNat) (SPair.mk x933.fLocal x933.fRemote x933.fPriority 0)).length) [l931.1.length] (by simp)) (.done (.inl ((l931.1.set (0 + l931.2.toNat) (SPair.mk x933.fLocal x933.fRemote x933.fPriority 0)), (wi64 (l931.2 + 1))))))))
     (.done (.inl (l931.1, (wi64 (l931.2 + 1)))))))
    (.done (.inr (l931.1, r927.2.1, r927.2.2.1, r927.2.2.2))))
   (r927.1, 0))
  (fun (e934 : (List SPair) × Bool × (List SCandidate) × (List SCandidate)) => Ext.of (.exit 0) [(1, .sl false 1 (List.map ty_u8.c p1)), (4, .bool false), (5, .ptr 5 0 0)] [(5, ⟨4, true, [[.bool e934.2.1, .sl false 8 (List.map tySCandidate.c e934.2.2.1), .sl false 8 (List.map tySCandidate.c e934.2.2.2), .ref 500081 0 e934.1.length]]⟩)] [BT.of 500081 tySPair 4 e934.1 true] (by rfl))
  (fun e934 =>
   .opr 10004 (Rule.makeD (ty := ty_bool) (t := 69) (e := 4) (zv := .bool false) (zc := .bool false) false (.tmp 44) (.tmp 44) 45 (e934.1.length : Int) (e934.1.length : Int) 1 (by kernel_rfl) (by kernel_rfl) (by kernel_rfl) rfl ⟨rfl, rfl, rfl⟩ (fun _ _ => by constructor)) fun _ =>
   .gh 13 (.len 45 ((List.replicate (e934.1.length : Int).toNat false).length) [(e934.1.length : Int).toNat] (by simp)) (.gh 1 (.share (VwW.of 500081 tySPair e934.1) 0) (.bind2 0
   (.lp (fun (l966 : Bool × (List SCandidate) × (List SCandidate) × (List SPair) × (List Bool) × Int × Int) => Ext.of .normal [(1, .sl false 1 (List.map ty_u8.c p1)), (4, .bool false), (5, .ptr 5 0 0), (7, .ref 45 0 l966.2.2.2.2.1.length), (49, .int .i64 l966.2.2.2.2.2.1), (50, .int .i64 l966.2.2.2.2.2.2)] [(5, ⟨4, true, [[.bool l966.1, .sl false 8 (List.map tySCandidate.c l966.2.1), .sl false 8 (List.map tySCandidate.c l966.2.2.1), .sl false 4 (List.map tySPair.c l966.2.2.2.1)]]⟩)] [BT.of 45 ty_bool 1 l966.2.2.2.2.1 true] (by rfl))
    (fun l966 =>
     .br 0 (decide (l966.2.2.2.2.2.2 < l966.2.2.2.2.2.1))
     (.call 14002 (s17 (SList.mk l966.1 l966.2.1 l966.2.2.1 l966.2.2.2.1)) [] [] fun r967 =>
      .call 15002 (s19 (SList.mk l966.1 l966.2.1 l966.2.2.1 l966.2.2.2.1)) [] [] fun r968 =>
      .cnd 16 [78]
      (.br 16004 (r968.2 != 0)
       (.done true)
       (.br 16010 (!(r968.1 == (r967.2 == 4)))
        (.done true)
        (.br 16013 (r967.2 != 0)
         (.done (r967.2 != 4))
         (.done false))))
      (fun (c969 : Bool) => [.bool c969]) fun c969 =>
      .br 0 c969
      (.done (.inr (.inl false)))
      (.br 0 r968.1
       (.done (.inr (.inl true)))
       (.cnd 20 [111]
        (.br 20004 (decide (r967.1 < 0))
         (.done true)
         (.br 20010 (decide ((l966.2.2.2.2.1.length : Int) ≤ r967.1))
          (.done true)
          (.chk 20012 (decide (0 ≤ r967.1) && decide (r967.1 < (l966.2.2.2.2.1.length : Int))) (.row 20013 ty_bool l966.2.2.2.2.1 (0 + r967.1.toNat) true fun x970 =>
           .br 20016 x970
           (.done true)
           (.row 20019 tySPair l966.2.2.2.1 r967.1.toNat (decide (0 ≤ r967.1)) fun x971 =>
            .br 20024 (x971.fState != 1)
            (.row 20027 tySPair l966.2.2.2.1 r967.1.toNat (decide (0 ≤ r967.1)) fun x972 =>
             .done (x972.fState != 0))
            (.done false))))))
        (fun (c973 : Bool) => [.bool c973]) fun c973 =>
        .br 0 c973
        (.done (.inr (.inl false)))
        (.chk 22003 (decide (0 ≤ r967.1) && decide (r967.1 < (l966.2.2.2.2.1.length : Int))) (.row 22004 ty_bool l966.2.2.2.2.1 (0 + r967.1.toNat) true fun x974 =>
         .re 22004 (ReW.put 45 1 ty_bool l966.2.2.2.2.1 (0 + r967.1.toNat) true) (.gh 25 (.len 45 ((l966.2.2.2.2.1.set (0 + r967.1.toNat) true).length) [l966.2.2.2.2.1.length] (by simp)) (.cnd 24 [126]
         (.br 24006 (decide (l966.2.2.2.2.2.2 < (mlen ty_u8 p1)))
          (.row 24008 ty_u8 p1 l966.2.2.2.2.2.2.toNat (decide (0 ≤ l966.2.2.2.2.2.2)) fun x975 =>
           .done ((Int.tmod x975 2) == 1))
          (.done false))
         (fun (c976 : Bool) => [.bool c976]) fun c976 =>
         .bind 0
         (.br 0 c976
          (.done 3)
          (.done 4))
         (fun (e977 : Int) => Ext.of .normal [(1, .sl false 1 (List.map ty_u8.c p1)), (4, .bool false), (5, .ptr 5 0 0), (7, .ref 45 0 ((l966.2.2.2.2.1.set (0 + r967.1.toNat) true).length)), (9, .int .i64 r967.1), (13, .int .i64 e977), (49, .int .i64 l966.2.2.2.2.2.1), (50, .int .i64 l966.2.2.2.2.2.2)] [(5, ⟨4, true, [[.bool l966.1, .sl false 8 (List.map tySCandidate.c l966.2.1), .sl false 8 (List.map tySCandidate.c l966.2.2.1), .sl false 4 (List.map tySPair.c l966.2.2.2.1)]]⟩)] [BT.of 45 ty_bool 1 (l966.2.2.2.2.1.set (0 + r967.1.toNat) true) true] (by rfl))
         (fun e977 =>
          .call 26004 (s23 (SList.mk l966.1 l966.2.1 l966.2.2.1 l966.2.2.2.1) r967.1 e977) [] [] fun r978 =>
          .cnd 27 [154]
          (.br 27004 (r978.2 != 0)
           (.done true)
           (.br 27013 ((mlen tySPair r978.1.fPairs) != (mlen tySPair l966.2.2.2.1))
            (.done true)
            (.row 27016 tySPair r978.1.fPairs r967.1.toNat (decide (0 ≤ r967.1)) fun x979 =>
             .done (x979.fState != e977))))
          (fun (c980 : Bool) => [.bool c980]) fun c980 =>
          .br 0 c980
          (.done (.inr (.inl false)))
          (.bind2 1
           (.lp (fun (l988 : Int) => Ext.of .normal [(1, .sl false 1 (List.map ty_u8.c p1)), (4, .bool false), (5, .ptr 5 0 0), (7, .ref 45 0 ((l966.2.2.2.2.1.set (0 + r967.1.toNat) true).length)), (9, .int .i64 r967.1), (13, .int .i64 e977), (14, .ptr 14 0 0), (49, .int .i64 l966.2.2.2.2.2.1), (50, .int .i64 l966.2.2.2.2.2.2), (156, .sl false 4 (List.map tySPair.c r978.1.fPairs)), (157, .int .i64 (mlen tySPair r978.1.fPairs)), (158, .int .i64 l988)] [(5, ⟨4, true, [[.bool l966.1, .sl false 8 (List.map tySCandidate.c l966.2.1), .sl false 8 (List.map tySCandidate.c l966.2.2.1), .sl false 4 (List.map tySPair.c l966.2.2.2.1)]]⟩), (14, ⟨4, true, [[.bool r978.1.fControlling, .sl false 8 (List.map tySCandidate.c r978.1.fLocals), .sl false 8 (List.map tySCandidate.c r978.1.fRemotes), .sl false 4 (List.map tySPair.c r978.1.fPairs)]]⟩)] [BT.of 45 ty_bool 1 (l966.2.2.2.2.1.set (0 + r967.1.toNat) true) true] (by rfl))
            (fun l988 =>
             .br 0 (decide (l988 < (mlen tySPair r978.1.fPairs)))
             (.row 31002 tySPair r978.1.fPairs l988.toNat (decide (0 ≤ l988)) fun x989 =>
              .row 32004 tySPair l966.2.2.2.1 l988.toNat (decide (0 ≤ l988)) fun x990 =>
              .bind 0
              (.br 0 (l988 == r967.1)
               (.done e977)
               (.cnd 35 [189]
                (.br 35004 (e977 == 3)
                 (.br 35009 (x990.fState == 0)
                  (.row 35014 tySPair l966.2.2.2.1 r967.1.toNat (decide (0 ≤ r967.1)) fun x991 =>
                   .call 35016 (s26 (SList.mk l966.1 l966.2.1 l966.2.2.1 l966.2.2.2.1) x990 x991) [] [] fun r992 =>
                   .done r992)
                  (.done false))
                 (.done false))
                (fun (c993 : Bool) => [.bool c993]) fun c993 =>
                .br 0 c993
                (.done 1)
                (.done x990.fState)))
              (fun (e994 : Int) => Ext.of .normal [(1, .sl false 1 (List.map ty_u8.c p1)), (4, .bool false), (5, .ptr 5 0 0), (7, .ref 45 0 ((l966.2.2.2.2.1.set (0 + r967.1.toNat) true).length)), (9, .int .i64 r967.1), (13, .int .i64 e977), (14, .ptr 14 0 0), (17, .ptr 17 0 0), (18, .ptr 18 0 0), (49, .int .i64 l966.2.2.2.2.2.1), (50, .int .i64 l966.2.2.2.2.2.2), (156, .sl false 4 (List.map tySPair.c r978.1.fPairs)), (157, .int .i64 (mlen tySPair r978.1.fPairs)), (158, .int .i64 l988)] [(5, ⟨4, true, [[.bool l966.1, .sl false 8 (List.map tySCandidate.c l966.2.1), .sl false 8 (List.map tySCandidate.c l966.2.2.1), .sl false 4 (List.map tySPair.c l966.2.2.2.1)]]⟩), (14, ⟨4, true, [[.bool r978.1.fControlling, .sl false 8 (List.map tySCandidate.c r978.1.fLocals), .sl false 8 (List.map tySCandidate.c r978.1.fRemotes), .sl false 4 (List.map tySPair.c r978.1.fPairs)]]⟩), (17, ⟨4, true, [[.int .i64 x989.fLocal, .int .i64 x989.fRemote, .int .i64 x989.fPriority, .int .i64 x989.fState]]⟩), (18, ⟨4, true, [[.int .i64 x990.fLocal, .int .i64 x990.fRemote, .int .i64 x990.fPriority, .int .i64 e994]]⟩)] [BT.of 45 ty_bool 1 (l966.2.2.2.2.1.set (0 + r967.1.toNat) true) true] (by rfl))
              (fun e994 =>
               .br 0 (!((x989.fLocal == x990.fLocal) && ((x989.fRemote == x990.fRemote) && ((x989.fPriority == x990.fPriority) && ((x989.fState == e994) && true)))))
               (.done (.inr (.inl (r978.1.fControlling, r978.1.fLocals, r978.1.fRemotes, r978.1.fPairs))))
               (.done (.inl (wi64 (l988 + 1))))))
             (.done (.inr (.inr (r978.1.fControlling, r978.1.fLocals, r978.1.fRemotes, r978.1.fPairs)))))
            0)
           (fun (e995 : Bool × (List SCandidate) × (List SCandidate) × (List SPair)) => Ext.of .ret [(1, .sl false 1 (List.map ty_u8.c p1)), (4, .bool false), (5, .ptr 5 0 0), (7, .ref 45 0 ((l966.2.2.2.2.1.set (0 + r967.1.toNat) true).length)), (14, .ptr 14 0 0), (49, .int .i64 l966.2.2.2.2.2.1), (50, .int .i64 l966.2.2.2.2.2.2)] [(5, ⟨4, true, [[.bool l966.1, .sl false 8 (List.map tySCandidate.c l966.2.1), .sl false 8 (List.map tySCandidate.c l966.2.2.1), .sl false 4 (List.map tySPair.c l966.2.2.2.1)]]⟩), (14, ⟨4, true, [[.bool e995.1, .sl false 8 (List.map tySCandidate.c e995.2.1), .sl false 8 (List.map tySCandidate.c e995.2.2.1), .sl false 4 (List.map tySPair.c e995.2.2.2)]]⟩)] [BT.of 45 ty_bool 1 (l966.2.2.2.2.1.set (0 + r967.1.toNat) true) true] (by rfl))
           (fun (e996 : Bool × (List SCandidate) × (List SCandidate) × (List SPair)) => Ext.of (.exit 4) [(1, .sl false 1 (List.map ty_u8.c p1)), (4, .bool false), (5, .ptr 5 0 0), (7, .ref 45 0 ((l966.2.2.2.2.1.set (0 + r967.1.toNat) true).length)), (14, .ptr 14 0 0), (49, .int .i64 l966.2.2.2.2.2.1), (50, .int .i64 l966.2.2.2.2.2.2)] [(5, ⟨4, true, [[.bool l966.1, .sl false 8 (List.map tySCandidate.c l966.2.1), .sl false 8 (List.map tySCandidate.c l966.2.2.1), .sl false 4 (List.map tySPair.c l966.2.2.2.1)]]⟩), (14, ⟨4, true, [[.bool e996.1, .sl false 8 (List.map tySCandidate.c e996.2.1), .sl false 8 (List.map tySCandidate.c e996.2.2.1), .sl false 4 (List.map tySPair.c e996.2.2.2)]]⟩)] [BT.of 45 ty_bool 1 (l966.2.2.2.2.1.set (0 + r967.1.toNat) true) true] (by rfl))
           (fun e995 =>
            .done (.inr (.inl false)))
           (fun e996 =>
            .done (.inl (e996.1, e996.2.1, e996.2.2.1, e996.2.2.2, (l966.2.2.2.2.1.set (0 + r967.1.toNat) true), l966.2.2.2.2.2.1, (wi64 (l966.2.2.2.2.2.2 + 1))))))))))))))
     (.done (.inr (.inr ()))))
    (e934.2.1, e934.2.2.1, e934.2.2.2, e934.1, (List.replicate (e934.1.length : Int).toNat false), (wi64 ((e934.1.length : Int) + 1)), 0))
   (fun (e997 : Bool) => Ext.lit .ret [(4, .bool e997)] [])
   (fun (e998 : Unit) => Ext.lit (.exit 2) [(4, .bool false)] [])
   (fun e997 =>
    .done e997)
   (fun e998 =>
    .done false)))))
theorem k6 (p0 : SDraft1) (p1 : (List Int)) : FnD Tryz.prog GG [0, 1, 2, 4, 5, 6, 7, 8, 9, 10, 11, 12, 13, 14, 15, 16, 17, 18, 20, 25, 26, 27, 35, 49, 50, 51, 78, 79, 111, 126, 154, 156, 157, 158, 159, 170, 189, 193] Tryz.f6 [.agg [.sl false 6 (List.map tySDraft.c p0.fLocals), .sl false 6 (List.map tySDraft.c p0.fRemotes), .bool p0.fControlling, .sl false 2 (List.map tyS2Uint8.c p0.fSet)], .sl false 1 (List.map ty_u8.c p1)] (g6 p0 p1) (fun r => .bool r) := by unfold FnD; kernel_rfl
noncomputable def s6 (p0 : SDraft1) (p1 : (List Int)) : EV.Spec Tryz.prog GG (Bool) := .ofFn 6 mixed Tryz.func6 (k6 p0 p1)
end Go.Proofs.YtioobnkmohikjaaGreatDoor
namespace Go.Proofs.YtioobnkmohikjaaGreatDoor
open Go Go.EV
set_option maxRecDepth 100000
open Classical
theorem valid_l0 : ValidL ⟨false, [], [], []⟩ := ⟨⟨by simp, by simp, by simp, fun c h => by simp at h, fun c h => by simp at h⟩, fun x h => by simp at h, List.nodup_nil⟩
theorem map_set_same {α β : Type} {f : α → β} {L : List α} {i : Nat} {x y : α} (hx : L[i]? = some x) (h : f y = f x) : (L.set i y).map f = L.map f := by
 refine List.ext_getElem? fun j => ?_
 rw [List.getElem?_map, List.getElem?_map]
 by_cases e : i = j
 ·subst e
  rw [List.getElem?_set_self (List.getElem?_eq_some_iff.1 hx).1, hx, Option.map_some, Option.map_some, h]
 ·rw [List.getElem?_set_ne e]
theorem okRMAKE1 (l r : List SCandidate) (c : Bool) : SOk (s12_1 l r c) (fun e => ValidL ⟨e.2.2.1, e.2.2.2.1, e.2.2.2.2, e.1⟩) := by
 show Ok (g12_1 l r c) _
 unfold g12_1
 simp only [mlen_eq]
 refine Ok.cnd (R := fun b => b = false → l.length ≤ 12 ∧ r.length ≤ 12) ?_ fun b hb => ?_
 ·exact Ok.br (fun h1 => Ok.done fun h => by simp at h) (fun h1 => Ok.done fun h => by simp at h h1; omega)
 refine Ok.br (fun _ => Ok.gh (Ok.done valid_l0)) (fun h => ?_)
 obtain ⟨hl, hr⟩ := hb h
 refine Ok.cnd (R := fun b => b = false → CandsOk l ∧ CandsOk r) ?_ fun b2 hb2 => ?_
 ·refine Ok.call (okALL l (by omega)) fun a ha => Ok.br (fun h1 => Ok.done fun h => by simp at h) (fun h1 => Ok.call (okALL r (by omega)) fun a2 ha2 => Ok.done fun h => ?_)
  simp only [Bool.not_eq_false'] at h1 h
  exact ⟨ha.1 h1, ha2.1 h⟩
 refine Ok.br (fun _ => Ok.gh (Ok.done valid_l0)) (fun h2 => ?_)
 obtain ⟨cl, cr⟩ := hb2 h2
 have hin : ∀ (L : List SPair) (x : SPair), (0 ≤ x.fLocal ∧ x.fLocal < (l.length : Int)) ∧ (0 ≤ x.fRemote ∧ x.fRemote < (r.length : Int)) → InB ⟨c, l, r, L⟩ x := fun L x h => h
 refine Ok.gh (Ok.bind (R := fun L => (∀ x, x ∈ L → PairOk ⟨c, l, r, []⟩ x) ∧ L.length ≤ 144) ?_ fun L hL => ?_)
 ·refine Ok.scan l.length (by omega) (fun k y => y.2 = (k : Int) ∧ (∀ x, x ∈ y.1 → PairOk ⟨c, l, r, []⟩ x) ∧ y.1.length ≤ 12 * k) ⟨rfl, fun x h => by simp at h, Nat.zero_le _⟩ (fun k y hy hk => ?_) (fun y hy => ?_)
  ·obtain ⟨hi, hI, hs⟩ := hy
   obtain ⟨y1, y2⟩ := y
   simp only at hi hI hs
   subst hi
   refine Ok.br (fun hc => Ok.gh ?_) (fun hc => by simp at hc; omega)
   refine Ok.bind (R := fun L => (∀ x, x ∈ L → PairOk ⟨c, l, r, []⟩ x) ∧ L.length ≤ 12 * (k + 1)) ?_ fun L hL => Ok.gh (Ok.done ⟨wi64_nat hk (by omega), hL.1, hL.2⟩)
   refine Ok.scan r.length (by omega) (fun j z => z.2 = (j : Int) ∧ (∀ x, x ∈ z.1 → PairOk ⟨c, l, r, []⟩ x) ∧ z.1.length ≤ 12 * k + j) ⟨rfl, hI, by simpa using hs⟩ (fun j z hz hj => ?_) (fun z hz => ?_)
   ·obtain ⟨ji, jI, js⟩ := hz
    obtain ⟨z1, z2⟩ := z
    simp only at ji jI js
    subst ji
    refine Ok.br (fun hc => ?_) (fun hc => by simp at hc; omega)
    obtain ⟨x, hx1, hx2⟩ := get_lt hk
    obtain ⟨w, hw1, hw2⟩ := get_lt hj
    refine Ok.row (by simp) hx1 (Ok.row (by simp) hw1 (Ok.call (okRFIT x w) fun a hfit => Ok.br (fun hfa => ?_) (fun _ => Ok.done ⟨wi64_nat hj (by omega), jI, by show z1.length ≤ _; omega⟩)))
    have hnew : ∀ p s : Int, InB ⟨c, l, r, []⟩ (SPair.mk (k : Int) (j : Int) p s) := fun p s => ⟨⟨by simp, by simp; omega⟩, ⟨by simp, by simp; omega⟩⟩
    refine Ok.call (okRPRIO ⟨c, l, r, []⟩ _ (hnew 0 0) cl cr) fun p hp => ?_
    refine Ok.bind (R := fun e => e.1 = p ∧ 0 ≤ e.2 ∧ e.2 ≤ (z1.length : Int)) ?_ fun e he => ?_
    ·refine Ok.lp (fun a => 0 ≤ a ∧ a ≤ (z1.length : Int)) (fun a => a.toNat) ⟨by show (0 : Int) ≤ (z1.length : Int); omega, Int.le_refl _⟩ (fuel (by show ((z1.length : Int)).toNat ≤ _; omega)) (fun a ha => ?_)
     refine Ok.cnd (R := fun b => b = true → 0 < a) ?_ fun b hb => Ok.br (fun h => ?_) (fun h => Ok.done ⟨rfl, ha⟩)
     ·refine Ok.br (fun h => ?_) (fun h => Ok.done fun h => by simp at h)
      simp only [decide_eq_true_eq] at h
      have e1 : wi64 (a - 1) = a - 1 := wi64_id (by omega) (by omega)
      obtain ⟨q, hq⟩ := at_of (l := z1) (i := a - 1) (by omega) (by omega)
      refine Ok.chk (by rw [e1]; simp; omega) (Ok.row rfl (by rw [e1, Nat.zero_add]; exact hq) (Ok.call (R := fun _ => True) ?_ fun b _ => Ok.done fun _ => h))
      show Ok (g42 _ _) _
      unfold g42
      exact Ok.br (fun _ => Ok.done trivial) (fun _ => Ok.br (fun _ => Ok.done trivial) (fun _ => Ok.done trivial))
     ·have h9 := hb h
      have e1 : wi64 (a - 1) = a - 1 := wi64_id (by omega) (by omega)
      refine Ok.done ?_
      show Rnd _ _ _ _ (.inl (wi64 (a - 1)))
      rw [e1]
      exact ⟨⟨by omega, by omega⟩, by show (a - 1).toNat < a.toNat; omega⟩
    ·obtain ⟨hep, h0, h1⟩ := he
     have c1 : (decide (0 ≤ e.2) && decide (e.2 ≤ (z1.length : Int))) = true := by simp; exact ⟨h0, h1⟩
     refine Ok.chk c1 (Ok.opr (r := ()) (bif_ok ⟨by show 0 + e.2.toNat ≤ z1.length; omega, by simp; omega⟩) ?_)
     refine Ok.app (by simp; omega) (Ok.chk c1 (Ok.opr (r := ()) (bif_ok ⟨by simp; omega, by simp; omega⟩) (Ok.gh (Ok.gh (Ok.done ⟨wi64_nat hj (by omega), ?_, ?_⟩)))))
     ·intro x hx
      simp only [List.nil_append, List.drop_zero, List.append_assoc, List.mem_append, List.mem_cons, List.not_mem_nil, or_false] at hx
      rcases hx with hx | rfl | hx
      ·exact jI x (List.mem_of_mem_take hx)
      ·refine ⟨hnew _ _, ⟨by show (0 : Int) ≤ 0; omega, by show (0 : Int) ≤ 4; omega⟩, ?_, ?_⟩
       ·have e1 : locC ⟨c, l, r, []⟩ (SPair.mk (k : Int) (j : Int) e.1 0) = x := by unfold locC; show (l[((k : Int)).toNat]?).getD c0 = x; rw [hx1]; rfl
        have e2 : remC ⟨c, l, r, []⟩ (SPair.mk (k : Int) (j : Int) e.1 0) = w := by unfold remC; show (r[((j : Int)).toNat]?).getD c0 = w; rw [hw1]; rfl
        rw [e1, e2]; exact hfit.1 hfa
       ·show e.1 = _; rw [hep, hp]; rfl
      ·exact jI x (List.mem_of_mem_drop (List.mem_of_mem_take hx))
     ·simp; omega
   ·obtain ⟨ji, jI, js⟩ := hz
    obtain ⟨z1, z2⟩ := z
    simp only at ji jI js
    subst ji
    exact Ok.br (fun hc => by simp at hc) (fun hc => Ok.done ⟨jI, by show z1.length ≤ _; omega⟩)
  ·obtain ⟨hi, hI, hs⟩ := hy
   obtain ⟨y1, y2⟩ := y
   simp only at hi hI hs
   subst hi
   exact Ok.br (fun hc => by simp at hc) (fun hc => Ok.done ⟨hI, by show y1.length ≤ _; omega⟩)
 ·obtain ⟨hI, hL⟩ := hL
  refine Ok.gh (Ok.bind (R := fun M => (∀ x, x ∈ M → PairOk ⟨c, l, r, []⟩ x) ∧ M.length ≤ 36 ∧ (M.map (likeK ⟨c, l, r, []⟩)).Nodup) ?_ fun M hM => ?_)
  ·refine Ok.scan L.length (by omega) (fun k y => y.2 = (k : Int) ∧ (∀ x, x ∈ y.1 → PairOk ⟨c, l, r, []⟩ x) ∧ y.1.length ≤ 36 ∧ (y.1.map (likeK ⟨c, l, r, []⟩)).Nodup ∧ ∀ x, x ∈ y.1 → ∃ j, j < k ∧ L[j]? = some x) ⟨rfl, fun x h => by simp at h, Nat.zero_le _, List.nodup_nil, fun x h => by simp at h⟩ (fun k y hy hk => ?_) (fun y hy => ?_)
   ·obtain ⟨hi, yI, hs, yN, yU⟩ := hy
    obtain ⟨y1, y2⟩ := y
    simp only at hi yI hs yN yU
    subst hi
    refine Ok.br (fun hc => ?_) (fun hc => by simp at hc; omega)
    obtain ⟨x, hx1, hx2⟩ := get_lt hk
    have hxP := hI x (List.mem_of_getElem? hx2)
    have hxI := hxP.1
    have hx3 : L[0 + ((k : Int)).toNat]? = some x := by rw [Nat.zero_add]; exact hx1
    refine Ok.bind (R := fun e => (e = true ↔ ∃ j w, j < k ∧ L[j]? = some w ∧ likeK ⟨c, l, r, []⟩ x = likeK ⟨c, l, r, []⟩ w)) ?_ fun e he => ?_
    ·refine Ok.scan k (by omega) (fun j z => z.2 = (j : Int) ∧ (z.1 = true ↔ ∃ q w, q < j ∧ L[q]? = some w ∧ likeK ⟨c, l, r, []⟩ x = likeK ⟨c, l, r, []⟩ w)) ⟨rfl, fun h => by simp at h, fun ⟨q, w, h, _⟩ => by omega⟩ (fun j z hz hj => ?_) (fun z hz => ?_)
     ·obtain ⟨z1, z2⟩ := z
      obtain ⟨hz, hzs⟩ := hz
      simp only at hz hzs
      subst hz
      refine Ok.br (fun hc => ?_) (fun hc => by simp at hc; omega)
      obtain ⟨w, hw1, hw2⟩ := get_lt (show j < L.length by omega)
      have hwI := (hI w (List.mem_of_getElem? hw2)).1
      refine Ok.cnd (R := fun b => (b = true ↔ z1 = true ∨ likeK ⟨c, l, r, []⟩ x = likeK ⟨c, l, r, []⟩ w)) (Ok.br (fun h => Ok.done ⟨fun _ => .inl h, fun _ => rfl⟩) (fun hz1 => ?_)) fun b hb => Ok.done ⟨wi64_nat hj (by omega), ?_⟩
      rotate_left
      ·show b = true ↔ _
       rw [hb, hzs]
       constructor
       ·rintro (⟨q, w', h1, h2, h3⟩ | h)
        ·exact ⟨q, w', by omega, h2, h3⟩
        ·exact ⟨j, w, by omega, hw2, h⟩
       ·rintro ⟨q, w', h1, h2, h3⟩
        by_cases hq : q < j
        ·exact .inl ⟨q, w', hq, h2, h3⟩
        ·have : q = j := by omega
         subst this
         rw [hw2] at h2
         obtain rfl := Option.some.inj h2
         exact .inr h3
      refine Ok.chk (by simp; omega) (Ok.row rfl hx3 (Ok.chk (by simp; omega) (Ok.row rfl (by rw [Nat.zero_add]; exact hw1) (Ok.view (okALIKE ⟨c, l, r, y1⟩ x w hxI hwI) fun a ha => Ok.done ?_))))
      have hz2 : z1 = false := hz1
      rw [ha, hz2]
      exact ⟨fun h => .inr h, fun h => by rcases h with h | h; simp at h; exact h⟩
     ·obtain ⟨z1, z2⟩ := z
      obtain ⟨hz, hzs⟩ := hz
      simp only at hz hzs
      subst hz
      exact Ok.br (fun hc => by simp at hc) (fun hc => Ok.done hzs)
    ·refine Ok.cnd (R := fun b => b = true → e = false ∧ y1.length < 36) (Ok.br (fun h5 => Ok.done (by intro h; have h7 : ((y1.length : Nat) : Int) < 36 := of_decide_eq_true h; exact ⟨by simpa using h5, by omega⟩)) (fun _ => Ok.done fun h => by simp at h)) fun b hb => Ok.br (fun h => ?_) (fun h => Ok.done ⟨wi64_nat hk (by omega), yI, hs, yN, fun z hz => by obtain ⟨q, q1, q2⟩ := yU z hz; exact ⟨q, by omega, q2⟩⟩)
     obtain ⟨h9, h8⟩ := hb h
     refine Ok.chk (by simp; omega) (Ok.row rfl hx3 (Ok.app (by simp; omega) (Ok.gh (Ok.gh (Ok.done ⟨wi64_nat hk (by omega), ?_, by simp; omega, ?_, ?_⟩)))))
     ·intro z hz
      rcases List.mem_append.1 hz with hz | hz
      ·exact yI z hz
      ·simp only [List.mem_singleton] at hz; subst hz; exact hxP
     ·show (List.map _ (y1 ++ [x])).Nodup
      rw [List.map_append]
      refine nodup_app.2 ⟨yN, fun hm => ?_⟩
      obtain ⟨z, z1, z2⟩ := List.mem_map.1 hm
      obtain ⟨q, q1, q2⟩ := yU z z1
      have := he.2 ⟨q, z, q1, q2, z2.symm⟩
      rw [h9] at this; simp at this
     ·intro z hz
      rcases List.mem_append.1 hz with hz | hz
      ·obtain ⟨q, q1, q2⟩ := yU z hz; exact ⟨q, by omega, q2⟩
      ·simp only [List.mem_singleton] at hz; subst hz; exact ⟨k, by omega, hx2⟩
   ·obtain ⟨hi, yI, hs, yN, yU⟩ := hy
    obtain ⟨y1, y2⟩ := y
    simp only at hi yI hs yN yU
    subst hi
    exact Ok.br (fun hc => by simp at hc) (fun hc => Ok.done ⟨yI, hs, yN⟩)
  ·obtain ⟨mI, mL, mN⟩ := hM
   refine Ok.bind (R := fun N => N.length ≤ 36 ∧ (∀ x, x ∈ N → PairOk ⟨c, l, r, []⟩ x) ∧ (N.map (likeK ⟨c, l, r, []⟩)).Nodup) ?_ fun N hN => Ok.gh (Ok.done ⟨⟨hl, hr, hN.1, cl, cr⟩, hN.2.1, hN.2.2⟩)
   refine Ok.scan M.length (by omega) (fun k y => y.2 = (k : Int) ∧ (∀ x, x ∈ y.1 → PairOk ⟨c, l, r, []⟩ x) ∧ y.1.length = M.length ∧ (y.1.map (likeK ⟨c, l, r, []⟩)).Nodup) ⟨rfl, mI, rfl, mN⟩ (fun k y hy hk => ?_) (fun y hy => ?_)
   ·obtain ⟨hi, yI, hs, yN⟩ := hy
    obtain ⟨y1, y2⟩ := y
    simp only at hi yI hs yN
    subst hi
    refine Ok.br (fun hc => ?_) (fun hc => by simp [hs] at hc; omega)
    obtain ⟨x, hx1, hx2⟩ := get_lt (show k < y1.length by omega)
    have hxP := yI x (List.mem_of_getElem? hx2)
    have hxI := hxP.1
    have hx3 : y1[0 + ((k : Int)).toNat]? = some x := by rw [Nat.zero_add]; exact hx1
    refine Ok.chk (by simp; omega) (Ok.row rfl hx3 (Ok.row hxI.lc hxI.loc ?_))
    refine Ok.bind (R := fun _ => True) ?_ fun e _ => Ok.br (fun _ => ?_) (fun _ => Ok.done ⟨wi64_nat hk (by omega), yI, hs, yN⟩)
    ·refine Ok.scan y1.length (by omega) (fun j z => z.2 = (j : Int)) rfl (fun j z hz hj => ?_) (fun z hz => ?_)
     ·obtain ⟨z1, z2⟩ := z
      simp only at hz
      subst hz
      refine Ok.br (fun hc => ?_) (fun hc => by simp at hc; omega)
      obtain ⟨w, hw1, hw2⟩ := get_lt hj
      have hwI := (yI w (List.mem_of_getElem? hw2)).1
      have hw3 : y1[0 + ((j : Int)).toNat]? = some w := by rw [Nat.zero_add]; exact hw1
      refine Ok.chk (by simp; omega) (Ok.row rfl hw3 (Ok.row hwI.lc hwI.loc (Ok.cnd (R := fun _ => True) ?_ fun b _ => Ok.br (fun _ => Ok.done (wi64_nat hj (by omega))) (fun _ => Ok.done (wi64_nat hj (by omega))))))
      refine Ok.chk (by simp; omega) (Ok.row rfl hx3 (Ok.chk (by simp; omega) (Ok.row rfl hw3 (Ok.view (okRELATED _ x w hxI hwI) fun _ _ => ?_))))
      exact Ok.br (fun _ => Ok.br (fun _ => Ok.done trivial) (fun _ => Ok.br (fun _ => Ok.done trivial) (fun _ => Ok.done trivial))) (fun _ => Ok.done trivial)
     ·obtain ⟨z1, z2⟩ := z
      simp only at hz
      subst hz
      exact Ok.br (fun hc => by simp at hc) (fun hc => Ok.done trivial)
    ·refine Ok.chk (by simp; omega) (Ok.row rfl hx3 (Ok.re (Ok.gh (Ok.done ⟨wi64_nat hk (by omega), ?_, by simp [hs], ?_⟩))))
     ·intro z hz
      rcases List.mem_or_eq_of_mem_set hz with hz | hz
      ·exact yI z hz
      ·subst hz; exact ⟨hxI, ⟨by show (0 : Int) ≤ 1; omega, by show (1 : Int) ≤ 4; omega⟩, hxP.2.2.1, hxP.2.2.2⟩
     ·show (List.map _ (List.set y1 _ _)).Nodup
      rw [map_set_same (f := likeK ⟨c, l, r, []⟩) (L := y1) (x := x) (y := SPair.mk x.fLocal x.fRemote x.fPriority 1) hx3 rfl]; exact yN
   ·obtain ⟨hi, yI, hs, yN⟩ := hy
    obtain ⟨y1, y2⟩ := y
    simp only at hi yI hs yN
    subst hi
    exact Ok.br (fun hc => by simp [hs] at hc) (fun hc => Ok.done ⟨by show y1.length ≤ 36; omega, yI, yN⟩)
theorem okRSET1 (l : SList) (i st : Int) : SOk (s24_1 l i st) (fun e => ((⟨e.2.2.1, e.2.2.2.1, e.2.2.2.2, e.1⟩ : SList), e.2.1) = setF l i st) := by
 show Ok (g24_1 l i st) _
 unfold g24_1 setF
 simp only [mlen_eq]
 refine Ok.call (okRIGHT l) fun r hr => Ok.br (fun h => Ok.done ?_) (fun h => ?_)
 ·simp only [Bool.not_eq_true'] at h; subst h
  rw [if_neg (fun hv => by have := hr.2 hv; simp at this)]; rfl
 simp only [Bool.not_eq_false'] at h
 have hv := hr.1 h
 have hlen : l.fPairs.length ≤ 36 := hv.1.2.2.1
 rw [if_pos hv]
 refine Ok.cnd (R := fun b => (b = true ↔ ¬ (0 ≤ i ∧ i < (l.fPairs.length : Int) ∧ 0 ≤ st ∧ st ≤ 4))) ?_ fun b hb => ?_
 ·refine Ok.br (fun k1 => Ok.done ?_) (fun k1 => Ok.br (fun k2 => Ok.done ?_) (fun k2 => Ok.br (fun k3 => Ok.done ?_) (fun k3 => Ok.done ?_)))
  all_goals (simp at *; omega)
 ·refine Ok.br (fun h => Ok.done (by rw [if_neg (hb.1 h)]; rfl)) (fun h => ?_)
  have hA : 0 ≤ i ∧ i < (l.fPairs.length : Int) ∧ 0 ≤ st ∧ st ≤ 4 := Classical.byContradiction fun hn => by rw [hb.2 hn] at h; simp at h
  obtain ⟨p, hp⟩ := at_of hA.1 hA.2.1
  rw [if_pos hA, hp]
  have hpI := (hv.2.1 p (List.mem_of_getElem? hp)).1
  have hil := (List.getElem?_eq_some_iff.1 hp).1
  refine Ok.call (okCOPIED l (by omega)) fun q hq => ?_
  subst hq
  refine Ok.chk (by simp; omega) (Ok.row rfl (by rw [Nat.zero_add]; exact hp) (Ok.re (Ok.gh ?_)))
  rw [Nat.zero_add]
  refine Ok.bind (R := fun e => e = (l.fPairs.set i.toNat (putS p st)).map (wakeX l p st)) ?_ fun e he => Ok.gh (Ok.done (by rw [he]; rfl))
  refine Ok.scan l.fPairs.length (by omega) (fun k y => k ≤ l.fPairs.length ∧ y = (mapTo (wakeX l p st) (l.fPairs.set i.toNat (putS p st)) k, (k : Int))) ⟨Nat.zero_le _, by rw [mapTo_zero]; rfl⟩ (fun k y hy hk => ?_) (fun y hy => ?_)
  ·obtain ⟨hkl, rfl⟩ := hy
   have hk2 : k < (l.fPairs.set i.toNat (putS p st)).length := by rw [List.length_set]; exact hk
   have hlk : (mapTo (wakeX l p st) (l.fPairs.set i.toNat (putS p st)) k).length = l.fPairs.length := by rw [mapTo_len _ _ (by omega), List.length_set]
   refine Ok.cnd (R := fun b => (b = true ↔ st = 3)) (Ok.br (fun hc => Ok.done (by simp)) (fun hc => by simp [hlk] at hc; omega)) fun b3 hb3 => ?_
   refine Ok.br (fun h3 => ?_) (fun h3 => Ok.done ?_)
   ·have hst := hb3.1 h3
    obtain ⟨x, hx1, hx2⟩ := get_lt hk2
    have hx3 : (mapTo (wakeX l p st) (l.fPairs.set i.toNat (putS p st)) k)[0 + ((k : Int)).toNat]? = some x := by rw [Nat.zero_add, Int.toNat_natCast, mapTo_here _ hk2, hx2]
    obtain ⟨z, z1, z2, z3⟩ := wake_at hkl (by rw [mapTo_here _ hk2]; exact hx2) hp
    have hxI : InB l x := inB_same z2 z3 (hv.2.1 z (List.mem_of_getElem? z1)).1
    obtain ⟨q, hq⟩ : ∃ q, (mapTo (wakeX l p st) (l.fPairs.set i.toNat (putS p st)) k)[i.toNat]? = some q := ⟨_, List.getElem?_eq_getElem (by rw [hlk]; exact hil)⟩
    obtain ⟨z', z1', z2', z3'⟩ := wake_at hkl hq hp
    rw [hp] at z1'; simp only [Option.some.injEq] at z1'; subst z1'
    have hqI : InB l q := inB_same z2' z3' hpI
    refine Ok.cnd (R := fun b => (b = true ↔ (st = 3 ∧ x.fState = 0 ∧ foundK l x = foundK l p))) ?_ fun b2 hb2 => ?_
    ·refine Ok.chk (by simp [hlk]; omega) (Ok.row rfl hx3 (Ok.br (fun k2 => ?_) (fun k2 => Ok.done ?_)))
     ·simp only [beq_iff_eq] at k2
      refine Ok.chk (by simp [hlk]; omega) (Ok.row rfl hq (Ok.chk (by simp [hlk]; omega) (Ok.row rfl hx3 (Ok.view (okRELATED (withP l l.fControlling (mapTo (wakeX l p st) (l.fPairs.set i.toNat (putS p st)) k)) q x hqI hxI) fun r2 h2 => Ok.done ?_))))
      rw [h2]
      show foundK l q = foundK l x ↔ _
      rw [foundK_same z2' z3']
      exact ⟨fun h => ⟨hst, k2, h.symm⟩, fun h => h.2.2.symm⟩
     ·simp only [beq_eq_false_iff_ne] at k2
      exact ⟨fun h => by simp at h, fun h => absurd h.2.1 k2⟩
    ·refine Ok.br (fun h1 => Ok.chk (by simp [hlk]; omega) (Ok.row rfl hx3 (Ok.re (Ok.gh (Ok.done ?_))))) (fun h1 => Ok.done ?_)
     ·have e : wakeX l p st x = putS x 1 := by unfold wakeX; rw [if_pos (hb2.1 h1)]
      have e2 := mapTo_set (wakeX l p st) hx2
      rw [e] at e2
      refine ⟨hk, ?_⟩
      rw [Nat.zero_add, Int.toNat_natCast, wi64_nat hk (by omega)]
      exact congrArg (fun z => (z, ((k + 1 : Nat) : Int))) e2
     ·have e : wakeX l p st x = x := by unfold wakeX; rw [if_neg (fun h => by rw [hb2.2 h] at h1; simp at h1)]
      refine ⟨hk, ?_⟩
      rw [wi64_nat hk (by omega), ← mapTo_skip _ hx2 e]
   ·have hst : st ≠ 3 := fun e => by rw [hb3.2 e] at h3; simp at h3
    have id : ∀ L : List SPair, L.map (wakeX l p st) = L := fun L => by
     have : ∀ x, wakeX l p st x = x := fun x => by unfold wakeX; rw [if_neg (fun h => hst h.1)]
     rw [show wakeX l p st = id from funext this, List.map_id]
    show mapTo _ _ _ = _
    rw [id]
    unfold mapTo
    rw [id, List.take_append_drop]
  ·obtain ⟨hkl, rfl⟩ := hy
   have hlk : (mapTo (wakeX l p st) (l.fPairs.set i.toNat (putS p st)) l.fPairs.length).length = l.fPairs.length := by rw [mapTo_len _ _ (by rw [List.length_set]; omega), List.length_set]
   refine Ok.cnd (R := fun b => b = false) (Ok.br (fun hc => by simp [hlk] at hc) (fun hc => Ok.done rfl)) fun b3 hb3 => ?_
   subst hb3
   refine Ok.brF rfl (Ok.done ?_)
   show mapTo _ _ _ = _
   have := mapTo_last (wakeX l p st) (l.fPairs.set i.toNat (putS p st))
   rw [List.length_set] at this
   exact this
theorem valid_map {l : SList} {M : List SPair} (hlen : M.length = l.fPairs.length) (h : ∀ (i : Nat) (y : SPair), M[i]? = some y → ∃ x, l.fPairs[i]? = some x ∧ y.fLocal = x.fLocal ∧ y.fRemote = x.fRemote ∧ y.fPriority = x.fPriority ∧ (0 ≤ y.fState ∧ y.fState ≤ 4)) (hv : ValidL l) :
  ValidL ⟨l.fControlling, l.fLocals, l.fRemotes, M⟩ := by
 obtain ⟨⟨h1, h2, h3, h4, h5⟩, hp, hn⟩ := hv
 refine ⟨⟨h1, h2, by show M.length ≤ 36; omega, h4, h5⟩, fun y hy => ?_, ?_⟩
 ·obtain ⟨i, hi⟩ := List.mem_iff_getElem?.1 hy
  obtain ⟨x, x1, x2, x3, x4, x5⟩ := h i y hi
  have p := hp x (List.mem_of_getElem? x1)
  unfold PairOk InB FitP prio locC remC at p ⊢
  rw [x2, x3, x4]
  exact ⟨p.1, x5, p.2.2.1, p.2.2.2⟩
 ·have : M.map (likeK ⟨l.fControlling, l.fLocals, l.fRemotes, M⟩) = l.fPairs.map (likeK l) := by
   refine List.ext_getElem? fun i => ?_
   rw [List.getElem?_map, List.getElem?_map]
   cases hi : M[i]? with
   | none =>
    rw [List.getElem?_eq_none_iff] at hi
    rw [List.getElem?_eq_none (by omega)]; rfl
   | some y =>
    obtain ⟨x, x1, x2, x3, _⟩ := h i y hi
    rw [x1, Option.map_some, Option.map_some]
    unfold likeK locC remC
    rw [x2, x3]
  show (M.map _).Nodup
  rw [this]; exact hn
theorem wake_get {l : SList} {p : SPair} {st : Int} {i j : Nat} {y : SPair} (hp : l.fPairs[i]? = some p) (hy : ((l.fPairs.set i (putS p st)).map (wakeX l p st))[j]? = some y) :
  ∃ x, l.fPairs[j]? = some x ∧ y = wakeX l p st (if j = i then putS p st else x) := by
 rw [List.getElem?_map] at hy
 obtain ⟨w, hw, rfl⟩ := Option.map_eq_some_iff.1 hy
 by_cases e : i = j
 ·subst e
  rw [List.getElem?_set_self (List.getElem?_eq_some_iff.1 hp).1] at hw
  simp only [Option.some.injEq] at hw
  exact ⟨p, hp, by rw [if_pos rfl, hw]⟩
 ·rw [List.getElem?_set_ne e] at hw
  exact ⟨w, hw, by rw [if_neg (fun h => e h.symm)]⟩
theorem wakeX_same (l : SList) (p : SPair) (st : Int) (x : SPair) : (wakeX l p st x).fLocal = x.fLocal ∧ (wakeX l p st x).fRemote = x.fRemote ∧ (wakeX l p st x).fPriority = x.fPriority ∧ ((wakeX l p st x).fState = 1 ∨ (wakeX l p st x).fState = x.fState) := by
 unfold wakeX
 split
 ·exact ⟨rfl, rfl, rfl, .inl rfl⟩
 ·exact ⟨rfl, rfl, rfl, .inr rfl⟩
theorem setF_at {l : SList} (hv : ValidL l) {i : Nat} {st : Int} {p : SPair} (hp : l.fPairs[i]? = some p) (h0 : 0 ≤ st) (h4 : st ≤ 4) :
  setF l (i : Int) st = (⟨l.fControlling, l.fLocals, l.fRemotes, (l.fPairs.set i (putS p st)).map (wakeX l p st)⟩, 0) := by
 unfold setF
 have hi := (List.getElem?_eq_some_iff.1 hp).1
 rw [if_pos hv, if_pos ⟨by omega, by omega, h0, h4⟩]
 simp only [Int.toNat_natCast, hp]
 rfl
theorem setF_valid {l : SList} (hv : ValidL l) (i st : Int) : ValidL (setF l i st).1 := by
 by_cases h : 0 ≤ i ∧ i < (l.fPairs.length : Int) ∧ 0 ≤ st ∧ st ≤ 4
 ·obtain ⟨k, rfl⟩ : ∃ k : Nat, i = (k : Int) := ⟨i.toNat, by omega⟩
  obtain ⟨p, _, hp⟩ := get_lt (l := l.fPairs) (k := k) (by omega)
  rw [setF_at hv hp h.2.2.1 h.2.2.2]
  refine valid_map (by rw [List.length_map, List.length_set]) (fun j y hy => ?_) hv
  obtain ⟨x, hx, rfl⟩ := wake_get hp hy
  have hs := wakeX_same l p st (if j = k then putS p st else x)
  have px := (hv.2.1 x (List.mem_of_getElem? hx)).2.1
  refine ⟨x, hx, ?_⟩
  by_cases e : j = k
  ·subst e
   rw [hp] at hx; obtain rfl := Option.some.inj hx
   rw [if_pos rfl] at hs ⊢
   refine ⟨hs.1, hs.2.1, hs.2.2.1, ?_⟩
   rcases hs.2.2.2 with h5 | h5
   ·rw [h5]; omega
   ·rw [h5]; exact ⟨h.2.2.1, h.2.2.2⟩
  ·rw [if_neg e] at hs ⊢
   refine ⟨hs.1, hs.2.1, hs.2.2.1, ?_⟩
   rcases hs.2.2.2 with h5 | h5
   ·rw [h5]; omega
   ·rw [h5]; exact px
 ·unfold setF
  rw [if_pos hv, if_neg h]
  exact valid_l0
theorem okDLIST1 (d : SDraft1) : SOk (s25_1 d) (fun e => ValidL ⟨e.2.1, e.2.2.1, e.2.2.2, e.1⟩) := by
 show Ok (g25_1 d) _
 unfold g25_1
 refine Ok.call (okRCANDS d.fLocals 12 (by omega)) fun a ha => Ok.call (okRCANDS d.fRemotes 12 (by omega)) fun b hb => Ok.call (okRMAKE1 a b d.fControlling) fun m hm => Ok.gh ?_
 simp only [mlen_eq]
 refine Ok.bind (R := fun e => ValidL ⟨e.2.1, e.2.2.1, e.2.2.2, e.1⟩) ?_ fun e he => Ok.done he
 refine Ok.scan 10 (by omega) (fun k y => y.2.2.2.2 = (k : Int) ∧ ValidL ⟨y.1, y.2.1, y.2.2.1, y.2.2.2.1⟩) ⟨rfl, hm⟩ (fun k y hy hk => ?_) (fun y hy => ?_)
 ·obtain ⟨hi, hf⟩ := hy
  obtain ⟨y1, y2, y3, y4, y5⟩ := y
  simp only at hi hf
  subst hi
  refine Ok.cnd (R := fun c => c = true → k < d.fSet.length ∧ 0 < y4.length) ?_ fun c hc => Ok.br (fun h => ?_) (fun h => Ok.done hf)
  ·refine Ok.br (fun h1 => Ok.br (fun h2 => Ok.done fun h3 => ?_) (fun h2 => Ok.done fun h => by simp at h)) (fun h1 => Ok.done fun h => by simp at h)
   simp at h1 h3
   exact ⟨h1, by cases y4 with
    | nil => simp at h3
    | cons => simp⟩
  ·obtain ⟨h1, h2⟩ := hc h
   obtain ⟨x, hx1, hx2⟩ := get_lt h1
   refine Ok.gh (Ok.row (by simp) hx1 (Ok.chk (by show (!((y4.length : Int) == 0)) = true; simp; intro h; subst h; simp at h2) (Ok.row (by simp) hx1 (Ok.call (okRSET1 _ _ _) fun q hq => Ok.gh (Ok.gh (Ok.done ⟨wi64_nat hk (by omega), ?_⟩))))))
   have := setF_valid hf (Int.tmod (wi64 x.a0) (y4.length : Int)) (wi64 (Int.tmod x.a1 5))
   rw [← hq] at this
   exact this
 ·obtain ⟨hi, hf⟩ := hy
  obtain ⟨y1, y2, y3, y4, y5⟩ := y
  simp only at hi hf
  subst hi
  refine Ok.cnd (R := fun c => c = false) (Ok.br (fun _ => Ok.brF (by simp) (Ok.done rfl)) (fun _ => Ok.done rfl)) fun c hc => ?_
  exact Ok.brF hc (Ok.done hf)
theorem okLRELATED (l : SList) (x y : SPair) (h : InB l x) (k : InB l y) : SOk (s26 l x y) (fun b => (b = true ↔ foundK l x = foundK l y)) := by
 show Ok (g26 l x y) _
 unfold g26 foundK
 simp only [S2String.mk.injEq]
 refine Ok.cnd (R := fun c => (c = true ↔ (locC l x).fFoundation = (locC l y).fFoundation ∧ (remC l x).fFoundation = (remC l y).fFoundation)) ?_ fun c hc => Ok.done hc
 refine Ok.row h.lc h.loc (Ok.row k.lc k.loc (Ok.br (fun h1 => Ok.row h.rc h.rem (Ok.row k.rc k.rem (Ok.done ?_))) (fun h1 => Ok.done ?_)))
 ·simp only [decide_eq_true_eq] at h1 ⊢; exact ⟨fun h => ⟨h1, h⟩, fun h => h.2⟩
 ·simp only [decide_eq_false_iff_not] at h1; exact ⟨fun h => by simp at h, fun h => absurd h.1 h1⟩
theorem bestN_at {L : List SPair} {is : SPair → Prop} : ∀ {k : Nat}, 0 ≤ bestN L is k → ∃ x, L[(bestN L is k).toNat]? = some x ∧ is x
 | 0, h => by simp [bestN] at h
 | k + 1, h => by
  unfold bestN at h ⊢
  split
  ·rename_i x hx
   rw [hx] at h
   simp only at h
   split
   ·rename_i hc
    exact ⟨x, by rw [Int.toNat_natCast]; exact hx, hc.1⟩
   ·rename_i hc
    rw [if_neg hc] at h
    exact bestN_at h
  ·rename_i hx
   rw [hx] at h
   exact bestN_at h
theorem bestN_none {L : List SPair} {is : SPair → Prop} : ∀ {k : Nat}, bestN L is k < 0 → ∀ j x, j < k → L[j]? = some x → ¬ is x
 | 0, _, j, x, hj, _ => by omega
 | k + 1, h, j, x, hj, hx => by
  unfold bestN at h
  by_cases e : j = k
  ·subst e
   rw [hx] at h
   simp only at h
   split at h
   ·omega
   ·rename_i hc
    exact fun hi => hc ⟨hi, .inl h⟩
  ·split at h
   ·split at h
    ·omega
    ·exact bestN_none h j x (by omega) hx
   ·exact bestN_none h j x (by omega) hx
theorem next_spec {l : SList} (hv : ValidL l) (h2 : ∀ x, x ∈ l.fPairs → x.fState ≠ 2) :
  ((∀ x, x ∈ l.fPairs → 3 ≤ x.fState) → (nextF l).2 = 4) ∧ (¬ (∀ x, x ∈ l.fPairs → 3 ≤ x.fState) → (nextF l).2 = 0 ∧ ∃ (m : Nat) (x : SPair), (nextF l).1 = (m : Int) ∧ l.fPairs[m]? = some x ∧ (x.fState = 1 ∨ x.fState = 0)) := by
 have runs : ∀ x, ¬ runsP l x := fun x ⟨y, y1, y2, _⟩ => h2 y y1 y2
 unfold nextF
 rw [if_pos hv]
 by_cases b1 : 0 ≤ bestN l.fPairs (fun x => x.fState = 1) l.fPairs.length
 ·rw [if_pos b1]
  obtain ⟨x, x1, x2⟩ := bestN_at b1
  refine ⟨fun h => ?_, fun h => ⟨rfl, _, x, (Int.toNat_of_nonneg b1).symm, x1, .inl x2⟩⟩
  have := h x (List.mem_of_getElem? x1); omega
 ·rw [if_neg b1]
  by_cases b2 : 0 ≤ bestN l.fPairs (fun x => x.fState = 0 ∧ ¬ runsP l x) l.fPairs.length
  ·rw [if_pos b2]
   obtain ⟨x, x1, x2⟩ := bestN_at b2
   refine ⟨fun h => ?_, fun h => ⟨rfl, _, x, (Int.toNat_of_nonneg b2).symm, x1, .inr x2.1⟩⟩
   have := h x (List.mem_of_getElem? x1); have := x2.1; omega
  ·rw [if_neg b2]
   refine ⟨fun _ => rfl, fun h => absurd (fun x hx => ?_) h⟩
   obtain ⟨j, hj⟩ := List.mem_iff_getElem?.1 hx
   have hjl := (List.getElem?_eq_some_iff.1 hj).1
   have n1 := bestN_none (Int.not_le.1 b1) j x hjl hj
   have n2 := bestN_none (Int.not_le.1 b2) j x hjl hj
   have n3 : x.fState ≠ 0 := fun e => n2 ⟨e, runs x⟩
   have n4 := h2 x hx
   have n5 := (hv.2.1 x hx).2.1
   omega
end Go.Proofs.YtioobnkmohikjaaGreatDoor
namespace Go.Proofs.YtioobnkmohikjaaGreatDoor
open Go Go.EV
set_option maxRecDepth 1000000
theorem okWAKES : SOk s7 (fun r => r = true) := SOk.of (by kernel_rfl)
end Go.Proofs.YtioobnkmohikjaaGreatDoor
namespace Go.Proofs.YtioobnkmohikjaaGreatDoor
open Go Go.EV
set_option maxRecDepth 100000
open Classical
theorem SOk.fn {P : Program} {G : Nat → Option (List V)} {kp : List Nat} {f : FuncId} {fn : Func} {args : List V} {ρ : Type} {g : T P G ρ} {res : ρ → V} {hm : P.follows .mixedOrders = true} {hf : P.funcs[f]? = some fn} {k : FnD P G kp fn args g res} {Q : ρ → Prop} (h : Ok g Q) : SOk (.ofFn f hm hf k) Q := h
end Go.Proofs.YtioobnkmohikjaaGreatDoor
namespace Go.Proofs.YtioobnkmohikjaaGreatDoor
open Go Go.EV
set_option maxRecDepth 100000
open Classical
noncomputable def zeroX (x : SPair) : SPair := if x.fState = 2 then putS x 0 else x
structure RunI (n k : Nat) (l : SList) (done : List Bool) : Prop where
 valid : ValidL l
 len : l.fPairs.length = n
 dlen : done.length = n
 two : ∀ x : SPair, x ∈ l.fPairs → x.fState ≠ 2
 dn : ∀ j : Nat, done[j]? = some true → ∃ x : SPair, l.fPairs[j]? = some x ∧ 3 ≤ x.fState
 cnt : done.count true = k
theorem RunI.next {n k : Nat} {l : SList} {done : List Bool} (h : RunI n k l done) {m : Nat} {p : SPair} {st : Int} (hp : l.fPairs[m]? = some p) (_ : p.fState = 1 ∨ p.fState = 0) (ht : st = 3 ∨ st = 4) (hd : done[m]? = some false) :
  RunI n (k + 1) (setF l (m : Int) st).1 (done.set m true) := by
 have hset := setF_at h.valid hp (by omega) (by omega : st ≤ 4)
 have hm := (List.getElem?_eq_some_iff.1 hp).1
 refine ⟨setF_valid h.valid _ _, ?_, ?_, ?_, ?_, ?_⟩
 ·rw [hset]; show (List.map _ (List.set _ _ _)).length = n; rw [List.length_map, List.length_set]; exact h.len
 ·rw [List.length_set]; exact h.dlen
 ·intro x hx
  rw [hset] at hx
  obtain ⟨j, hj⟩ := List.mem_iff_getElem?.1 hx
  obtain ⟨y, hy, rfl⟩ := wake_get hp hj
  have w := (wakeX_same l p st (if j = m then putS p st else y)).2.2.2
  rcases w with w | w
  ·rw [w]; omega
  ·rw [w]
   split
   ·show st ≠ 2; omega
   ·exact h.two y (List.mem_of_getElem? hy)
 ·intro j hj
  rw [hset]
  show ∃ x, ((l.fPairs.set m (putS p st)).map (wakeX l p st))[j]? = some x ∧ 3 ≤ x.fState
  rw [List.getElem?_map]
  by_cases e : m = j
  ·subst e
   rw [List.getElem?_set_self hm]
   refine ⟨_, rfl, ?_⟩
   unfold wakeX
   rw [if_neg (fun q => by have := q.2.1; change st = 0 at this; omega)]
   show 3 ≤ st; omega
  ·rw [List.getElem?_set_ne e] at hj ⊢
   obtain ⟨x, x1, x2⟩ := h.dn j hj
   refine ⟨wakeX l p st x, by rw [x1]; rfl, ?_⟩
   unfold wakeX
   rw [if_neg (fun q => by have := q.2.1; omega)]
   exact x2
 ·have hml : m < done.length := by rw [h.dlen, ← h.len]; exact hm
  have hg : done[m] = false := by rw [List.getElem?_eq_getElem hml] at hd; exact Option.some.inj hd
  rw [List.count_set hml, hg, h.cnt]
  simp
theorem gLENDS (d : SDraft1) (q : List Int) : Ok (g6 d q) (fun r => r = true) := by
 unfold g6
 simp only [mlen_eq]
 refine Ok.call okWAKES fun r hr => Ok.brF (by rw [hr]; rfl) (Ok.call (okDLIST1 d) fun e he => ?_)
 obtain ⟨L, c, ls, rs⟩ := e
 simp only at he
 have hlen : L.length ≤ 36 := he.1.2.2.1
 refine Ok.bind (R := fun e => e = (L.map zeroX, c, ls, rs)) ?_ fun e hE => ?_
 ·refine Ok.scan L.length (by omega) (fun k y => k ≤ L.length ∧ y = (mapTo zeroX L k, (k : Int))) ⟨Nat.zero_le _, by rw [mapTo_zero]; rfl⟩ (fun k y hy hk => ?_) (fun y hy => ?_)
  ·obtain ⟨hkl, rfl⟩ := hy
   have hlk : (mapTo zeroX L k).length = L.length := mapTo_len _ _ hkl
   refine Ok.br (fun hc => ?_) (fun hc => by simp at hc; omega)
   obtain ⟨x, hx1, hx2⟩ := get_lt hk
   have hx3 : (mapTo zeroX L k)[0 + ((k : Int)).toNat]? = some x := by rw [Nat.zero_add, Int.toNat_natCast, mapTo_here _ hk, hx2]
   refine Ok.chk (by simp [hlk]; omega) (Ok.row rfl hx3 (Ok.br (fun h => Ok.chk (by simp [hlk]; omega) (Ok.row rfl hx3 (Ok.re (Ok.gh (Ok.done ?_))))) (fun h => Ok.done ?_)))
   ·rw [beq_iff_eq] at h
    refine ⟨hk, ?_⟩
    have e2 := mapTo_set zeroX hx2
    rw [show zeroX x = putS x 0 from if_pos h] at e2
    rw [Nat.zero_add, Int.toNat_natCast, wi64_nat hk (by omega)]
    exact congrArg (fun z => (z, ((k + 1 : Nat) : Int))) e2
   ·rw [beq_eq_false_iff_ne] at h
    refine ⟨hk, ?_⟩
    rw [wi64_nat hk (by omega), ← mapTo_skip zeroX hx2 (if_neg h)]
  ·obtain ⟨hkl, rfl⟩ := hy
   refine Ok.br (fun hc => by simp at hc) (fun hc => Ok.done ?_)
   show (mapTo zeroX L L.length, c, ls, rs) = _
   rw [mapTo_last]
 subst hE
 have hv : ValidL ⟨c, ls, rs, L.map zeroX⟩ := valid_map (l := ⟨c, ls, rs, L⟩) (M := L.map zeroX) (by rw [List.length_map]) (fun i y hy => by
  rw [List.getElem?_map] at hy
  obtain ⟨x, hx, rfl⟩ := Option.map_eq_some_iff.1 hy
  have px := (he.2.1 x (List.mem_of_getElem? hx)).2.1
  refine ⟨x, hx, ?_⟩
  unfold zeroX
  split
  ·exact ⟨rfl, rfl, rfl, by show (0 : Int) ≤ 0; omega, by show (0 : Int) ≤ 4; omega⟩
  ·exact ⟨rfl, rfl, rfl, px⟩) he
 have hlz : (L.map zeroX).length = L.length := List.length_map _
 have h0 : RunI L.length 0 ⟨c, ls, rs, L.map zeroX⟩ (List.replicate L.length false) := by
  refine ⟨hv, hlz, List.length_replicate, fun x hx => ?_, fun j hj => ?_, ?_⟩
  ·obtain ⟨y, _, rfl⟩ := List.mem_map.1 hx
   unfold zeroX
   split
   ·show (0 : Int) ≠ 2; omega
   ·assumption
  ·rw [List.getElem?_replicate] at hj
   split at hj <;> simp at hj
  ·rw [List.count_replicate]; rfl
 refine Ok.opr (r := ()) ?_ (Ok.gh (Ok.gh ?_))
 ·simp only [Rule.makeD, hlz]
  rw [show (decide ((0 : Int) ≤ (L.length : Int)) && decide ((L.length : Int) ≤ (L.length : Int)) && decide (1 * ((L.length : Int)).toNat ≤ 281474976710656) && decide ((L.length : Int) ≤ 9223372036854775807)) = true from by simp; omega]; rfl
 refine Ok.bind2 (R := fun e => match e with | .inl b => b = true | .inr _ => False) ?_ (fun e he => Ok.done he) (fun e he => he.elim)
 have e1 : wi64 ((L.length : Int) + 1) = ((L.length + 1 : Nat) : Int) := by rw [wi64_id (by omega) (by omega)]; omega
 simp only [hlz, Int.toNat_natCast, e1]
 refine Ok.scan (L.length + 1) (by omega) (fun k y => y.2.2.2.2.2.2 = (k : Int) ∧ y.2.2.2.2.2.1 = ((L.length + 1 : Nat) : Int) ∧ RunI L.length k ⟨y.1, y.2.1, y.2.2.1, y.2.2.2.1⟩ y.2.2.2.2.1) ⟨rfl, rfl, h0⟩ (fun k y hy hk => ?_) (fun y hy => ?_)
 rotate_left
 ·obtain ⟨hi, hn, hI⟩ := hy
  have := List.count_le_length (a := true) (l := y.2.2.2.2.1)
  rw [hI.cnt, hI.dlen] at this
  omega
 obtain ⟨hi, hn, hI⟩ := hy
 obtain ⟨c, ls, rs, ps, dn, nn, ii⟩ := y
 simp only at hi hn hI
 subst hi hn
 have hpl : ps.length = L.length := hI.len
 have hpv : ps.length ≤ 36 := hI.valid.1.2.2.1
 refine Ok.br (fun hc => ?_) (fun hc => by simp at hc; omega)
 refine Ok.call (okNEXT _) fun r hr => Ok.call (okSETTLED _) fun s hs => ?_
 obtain ⟨n1, n2⟩ := next_spec hI.valid hI.two
 have hse : s = (decide (∀ x, x ∈ ps → 3 ≤ x.fState), 0) := by rw [hs]; unfold setlF; rw [if_pos hI.valid]
 by_cases hall : ∀ x, x ∈ ps → 3 ≤ x.fState
 ·have hr2 : r.2 = 4 := by rw [hr]; exact n1 hall
  rw [decide_eq_true hall] at hse
  subst hse
  refine Ok.cnd (R := fun c => c = false) (Ok.brF rfl (Ok.brF (by rw [hr2]; rfl) (Ok.brT (by rw [hr2]; rfl) (Ok.done (by rw [hr2]; rfl))))) fun c hc => Ok.brF hc (Ok.brT rfl (Ok.done rfl))
 obtain ⟨hr2, m, p, hm, hp, hst⟩ := n2 hall
 obtain ⟨r1, r2⟩ := r
 have hr2' : r2 = 0 := by rw [← hr] at hr2; exact hr2
 have hr1 : r1 = (m : Int) := by rw [← hr] at hm; exact hm
 clear hr hm hr2
 subst hr1 hr2'
 rw [decide_eq_false hall] at hse
 subst hse
 have hp' : ps[m]? = some p := hp
 have hml : m < ps.length := (List.getElem?_eq_some_iff.1 hp').1
 have hmd : m < dn.length := by rw [hI.dlen, ← hpl]; exact hml
 have hdm : dn[m]? = some false := by
  rw [List.getElem?_eq_getElem hmd]
  cases hd : dn[m] with
  | false => rfl
  | true =>
   obtain ⟨x, x1, x2⟩ := hI.dn m (by rw [List.getElem?_eq_getElem hmd, hd])
   rw [hp] at x1
   obtain rfl := Option.some.inj x1
   omega
 refine Ok.cnd (R := fun c => c = false) (Ok.brF rfl (Ok.brF rfl (Ok.brF rfl (Ok.done rfl)))) fun c1 hc1 => Ok.brF hc1 (Ok.brF rfl ?_)
 have cd : (decide (0 ≤ (m : Int)) && decide ((m : Int) < (dn.length : Int))) = true := by simp; omega
 refine Ok.cnd (R := fun c => c = false) ?_ fun c2 hc2 => Ok.brF hc2 ?_
 ·refine Ok.brF (by simp) (Ok.brF (by simp; omega) (Ok.chk cd (Ok.row rfl (by rw [Nat.zero_add, Int.toNat_natCast]; exact hdm) (Ok.brF rfl (Ok.row (by simp) (by rw [Int.toNat_natCast]; exact hp') (Ok.br (fun _ => Ok.row (by simp) (by rw [Int.toNat_natCast]; exact hp') (Ok.done ?_)) (fun _ => Ok.done rfl)))))))
  rename_i hne
  simp only [bne_iff_ne, ne_eq] at hne
  rcases hst with h | h
  ·exact absurd h hne
  ·rw [h]; rfl
 refine Ok.chk cd (Ok.row rfl (by rw [Nat.zero_add, Int.toNat_natCast]; exact hdm) (Ok.re (Ok.gh ?_)))
 refine Ok.cnd (R := fun _ => True) ?_ fun c3 _ => ?_
 ·refine Ok.br (fun h => ?_) (fun _ => Ok.done trivial)
  have h7 : (k : Int) < (q.length : Int) := of_decide_eq_true h
  obtain ⟨z, z1, _⟩ := get_lt (l := q) (k := k) (by omega)
  exact Ok.row (by simp) z1 (Ok.done trivial)
 refine Ok.bind (R := fun t => t = 3 ∨ t = 4) (Ok.br (fun _ => Ok.done (.inl rfl)) (fun _ => Ok.done (.inr rfl))) fun t ht => ?_
 refine Ok.call (okSET _ _ _) fun u hu => ?_
 have hset := setF_at hI.valid hp' (by omega) (by omega : t ≤ 4)
 have hu2 : u.2 = 0 := by rw [hu, hset]
 have huP : u.1.fPairs = (ps.set m (putS p t)).map (wakeX ⟨c, ls, rs, ps⟩ p t) := by rw [hu, hset]
 have hul : u.1.fPairs.length = ps.length := by rw [huP, List.length_map, List.length_set]
 have hum : u.1.fPairs[m]? = some (putS p t) := by
  rw [huP, List.getElem?_map, List.getElem?_set_self hml, Option.map_some]
  unfold wakeX
  rw [if_neg (fun q => by have := q.2.1; change t = 0 at this; omega)]
 refine Ok.cnd (R := fun c => c = false) (Ok.brF (by rw [hu2]; rfl) (Ok.brF (by rw [hul]; simp) (Ok.row (by simp) (by rw [Int.toNat_natCast]; exact hum) (Ok.done (by simp [putS]))))) fun c4 hc4 => Ok.brF hc4 ?_
 have hnext := hI.next hp' hst ht hdm
 rw [← hu] at hnext
 refine Ok.bind2 (R := fun e => match e with | .inl _ => False | .inr e => e = (u.1.fControlling, u.1.fLocals, u.1.fRemotes, u.1.fPairs)) ?_ (fun e he => he.elim) (fun e he => Ok.done ?_)
 ·refine Ok.scan ps.length (by omega) (fun i y => y = (i : Int)) rfl (fun i y hy hi => ?_) (fun y hy => ?_)
  ·subst hy
   refine Ok.br (fun _ => ?_) (fun hc => by simp [hul] at hc; omega)
   obtain ⟨x, hx1, hx2⟩ := get_lt hi
   obtain ⟨w, hw1, hw2⟩ := get_lt (l := u.1.fPairs) (k := i) (by omega)
   have hwx : w = wakeX ⟨c, ls, rs, ps⟩ p t (if i = m then putS p t else x) := by
    rw [huP] at hw2
    obtain ⟨x', e1, e2⟩ := wake_get (l := ⟨c, ls, rs, ps⟩) hp' hw2
    have : ps[i]? = some x' := e1
    rw [hx2] at this
    obtain rfl := Option.some.inj this
    exact e2
   have hxI := (hI.valid.2.1 x (List.mem_of_getElem? hx2)).1
   have hpI := (hI.valid.2.1 p (List.mem_of_getElem? hp')).1
   refine Ok.row (by simp) hw1 (Ok.row (by simp) hx1 ?_)
   refine Ok.bind (R := fun e => w = SPair.mk x.fLocal x.fRemote x.fPriority e) ?_ fun e he => ?_
   ·refine Ok.br (fun h => Ok.done ?_) (fun h => ?_)
    ·rw [beq_iff_eq] at h
     have e3 : i = m := by omega
     subst e3
     rw [hx2] at hp'
     obtain rfl := Option.some.inj hp'
     rw [hwx, if_pos rfl]
     unfold wakeX
     rw [if_neg (fun q => by have := q.2.1; change t = 0 at this; omega)]
     rfl
    ·rw [beq_eq_false_iff_ne] at h
     have e3 : i ≠ m := fun e => h (by rw [e])
     rw [if_neg e3] at hwx
     refine Ok.cnd (R := fun b => (b = true ↔ t = 3 ∧ x.fState = 0 ∧ foundK ⟨c, ls, rs, ps⟩ x = foundK ⟨c, ls, rs, ps⟩ p)) ?_ fun b hb => Ok.br (fun h5 => Ok.done ?_) (fun h5 => Ok.done ?_)
     ·refine Ok.br (fun k1 => Ok.br (fun k2 => Ok.row (by simp) (by rw [Int.toNat_natCast]; exact hp') (Ok.call (okLRELATED _ x p hxI hpI) fun b hb => Ok.done ?_)) (fun k2 => Ok.done ?_)) (fun k1 => Ok.done ?_)
      ·rw [beq_iff_eq] at k1 k2
       rw [hb]
       exact ⟨fun h => ⟨k1, k2, h⟩, fun h => h.2.2⟩
      ·rw [beq_eq_false_iff_ne] at k2
       exact ⟨fun h => by simp at h, fun h => absurd h.2.1 k2⟩
      ·rw [beq_eq_false_iff_ne] at k1
       exact ⟨fun h => by simp at h, fun h => absurd h.1 k1⟩
     ·rw [hwx]; unfold wakeX; rw [if_pos (hb.1 h5)]; rfl
     ·rw [hwx]; unfold wakeX; rw [if_neg (fun h => by rw [hb.2 h] at h5; simp at h5)]
   ·rw [he]
    exact Ok.brF (by simp) (Ok.done (wi64_nat hi (by omega)))
  ·subst hy
   exact Ok.br (fun hc => by simp [hul] at hc) (fun hc => Ok.done rfl)
 ·subst he
  refine ⟨wi64_nat hk (by omega), rfl, ?_⟩
  rw [Nat.zero_add, Int.toNat_natCast]
  exact hnext
theorem okLENDS (d : SDraft1) (q : List Int) : SOk (s6 d q) (fun r => r = true) := by
 unfold s6
 exact SOk.fn (gLENDS d q)
end Go.Proofs.YtioobnkmohikjaaGreatDoor
namespace Go.Proofs.YtioobnkmohikjaaGreatDoor
open Go Go.EV Go.ChangeShapes
set_option maxRecDepth 100000
theorem own : ownKnob Tryz.prog.godebug = none := by kernel_rfl
abbrev laid1 : List (String × DataW Unit) := [("math/bits.deBruijn32tab", Rows.laid_math_bits_deBruijn32tab), ("math/bits.deBruijn64tab", Rows.laid_math_bits_deBruijn64tab), ("internal/strconv.uint64pow10", Rows.laid_internal_strconv_uint64pow10), ("unicode/utf8.acceptRanges", Rows.laid_unicode_utf8_acceptRanges), ("unicode/utf8.first", Rows.laid_unicode_utf8_first)]
theorem shaped1 (os : Os) : (World.laidAll Tryz.prog os laid1).Shaped Tryz.prog := World.shaped_of_ZipB (by kernel_rfl) (by kernel_rfl)
theorem laid_met (os : Os) (args : Array Value) : laidMetH Tryz.prog laid1 ((World.laidAll Tryz.prog os laid1).forCall (fun _ _ => 0) ⟨#[], args, []⟩).memory := by
 rw [MakeChecks.laidMetH_plain _ _ _ (by kernel_rfl)]
 exact laidMet_laidAll _ (by kernel_rfl) (by kernel_rfl)
def gh0 (w : World) : Gh := { loc := fun _ => none, own := fun _ => none, lim := fun B => match w.heap[B]? with | some (.cells cs _ _) => cs.size | _ => 0 }
theorem gh0_lim {w : World} {B o : Nat} {v : Value} (h : cellAt w B o = some v) : o < (gh0 w).lim B := by
 unfold cellAt World.cell? at h
 simp only [gh0]
 cases hb : w.heap[B]? with
 | none => simp [hb] at h
 | some x =>
  cases x with
  | cells cs t fz =>
   simp only [hb] at h
   simp only
   exact (Array.getElem?_eq_some_iff.1 (by simpa using h)).1
  | _ => simp [hb] at h
theorem globOk {w : World} (_ : laidMetH Tryz.prog laid1 w) : GlobOk GG (gh0 w) w := fun g cells hg => by
 unfold GG at hg
 cases hg
theorem keptBut_of_grow {w w' : World} {γ' : Gh} (h : Grow (gh0 w) w γ' w') (may : MemPlace → Prop) : w.keptBut w' may := by
 refine ⟨h.os, h.output, fun i hi => ?_⟩
 have := (h.free i hi rfl).1
 rw [this]
 cases w.heap[i]? with
 | none => trivial
 | some x =>
  cases x with
  | cells c t fr => exact ⟨rfl, rfl, rfl, fun _ _ => rfl⟩
  | map es clock => exact .inr ⟨rfl, rfl⟩
  | _ => rfl
end Go.Proofs.YtioobnkmohikjaaGreatDoor
namespace Go.Proofs.YtioobnkmohikjaaGreatDoor
open Go Go.EV Go.ChangeShapes
set_option maxRecDepth 100000
def CellsD (W : World) (l : List V) (cs : List Value) : Prop := cs.length = l.length ∧ ∀ (i : Nat) (c : V) (v : Value), l[i]? = some c → cs[i]? = some v → RepD (gh0 W).lim W c v
theorem CellsD.one {W : World} {c : V} {v : Value} (h : RepD (gh0 W).lim W c v) : CellsD W [c] [v] := ⟨rfl, fun i c' v' hc hv => by
 cases i with
 | zero => simp at hc hv; subst hc; subst hv; exact h
 | succ i => simp at hc⟩
theorem CellsD.append {W : World} {l m : List V} {cs ds : List Value} (h : CellsD W l cs) (k : CellsD W m ds) : CellsD W (l ++ m) (cs ++ ds) :=
  ⟨by simp [h.1, k.1], fun i c v hc hv => by
    by_cases hi : i < l.length
    · rw [List.getElem?_append_left hi] at hc
      rw [List.getElem?_append_left (by rw [h.1]; exact hi)] at hv
      exact h.2 i c v hc hv
    · rw [List.getElem?_append_right (by omega)] at hc
      rw [List.getElem?_append_right (by rw [h.1]; omega), h.1] at hv
      exact k.2 _ c v hc hv⟩
def Rd (t : TypeId) {α : Type} (c : α → List V) (I : α → Prop) : Prop :=
 ∀ (H : Type) (enc : TypeId × Value → H) (W : World) (fuel : Nat) (cs : List Value) (x : DataW H × List MemPlace), DataW.trod enc Tryz.prog W 0 (fun _ => true) true fuel t cs = some x → ∃ a : α, I a ∧ CellsD W (c a) cs
theorem rdInt {t : TypeId} {k : IntKind} (ht : Tryz.prog.underlying t = some (.int k)) : Rd t (fun n : Int => [.int k n]) (fun n => (Lit.int k n).wf = true) := fun H enc W fuel cs x h => by
 obtain ⟨n, rfl, _, hw⟩ := DataW.trod_int ht h
 exact ⟨n, hw, .one (.int k n)⟩
theorem rdBool {t : TypeId} (ht : Tryz.prog.underlying t = some .bool) : Rd t (fun b : Bool => [.bool b]) (fun _ => True) := fun H enc W fuel cs x h => by
 cases fuel with
 | zero => simp [DataW.trod] at h
 | succ n =>
  unfold DataW.trod at h
  rw [ht] at h
  split at h <;> first | exact ⟨_, trivial, .one (.bool _)⟩ | simp_all
theorem fld {H : Type} {enc : TypeId × Value → H} {W : World} {n : Nat} {fs : Array Field} {cs : List Value} {xs : List (DataW H × List MemPlace)} {t o z : Nat} {α : Type} {c : α → List V} {I : α → Prop}
  (hel : ∀ (i : Nat) (f : Field), fs[i]? = some f → DataW.trod enc Tryz.prog W 0 (fun _ => true) true n f.type ((cs.drop f.offset).take (Tryz.prog.cellsOf f.type)) = xs[i]?) (hn : xs.length = fs.size) (i : Nat)
  (hf : (fs[i]?).map (fun f => (f.type, f.offset)) = some (t, o)) (hz : Tryz.prog.cellsOf t = z) (r : Rd t c I) : ∃ a : α, I a ∧ CellsD W (c a) ((cs.drop o).take z) := by
 obtain ⟨f, h1, h2⟩ := Option.map_eq_some_iff.1 hf
 simp only [Prod.mk.injEq] at h2
 obtain ⟨rfl, rfl⟩ := h2
 have hi : i < xs.length := by rw [hn]; exact (Array.getElem?_eq_some_iff.1 h1).1
 have := hel i f h1
 rw [List.getElem?_eq_getElem hi, hz] at this
 exact r H enc W n _ _ this
theorem fldA {H : Type} {enc : TypeId × Value → H} {W : World} {n m : Nat} {cs : List Value} {xs : List (DataW H × List MemPlace)} {t z : Nat} {α : Type} {c : α → List V} {I : α → Prop}
  (hel : ∀ (i : Nat), i < m → DataW.trod enc Tryz.prog W 0 (fun _ => true) true n t ((cs.drop (i * Tryz.prog.cellsOf t)).take (Tryz.prog.cellsOf t)) = xs[i]?) (hn : xs.length = m) (i : Nat) (hi : i < m)
  (hz : Tryz.prog.cellsOf t = z) (r : Rd t c I) : ∃ a : α, I a ∧ CellsD W (c a) ((cs.drop (i * z)).take z) := by
 have := hel i hi
 rw [List.getElem?_eq_getElem (by omega), hz] at this
 exact r H enc W n _ _ this
theorem cells_at {W : World} {a : Addr} {z : Nat} {ci : List Value} (h : W.cells? 0 a z = some ci) : ci.length = z ∧ ∀ r, r < z → W.cell? (a.add r) = ci[r]? := by
 unfold World.cells? at h
 rw [if_pos (Nat.zero_le _)] at h
 exact ⟨by simpa using mapM_some_length h, fun r hr => mapM_some_get h r r (by simp [hr])⟩
theorem spot_of {W : World} {a : Addr} {z q : Nat} {ci : List Value} (hz : 0 < z) (h : W.cells? 0 (a.add (q * z)) z = some ci) (hq : q = 0) : a.spot = none := by
 obtain ⟨h1, h2⟩ := cells_at h
 have h3 := h2 0 hz
 have e : (a.add (q * z)).add 0 = a := by subst hq; simp [Addr.add]
 rw [e, List.getElem?_eq_getElem (by omega)] at h3
 exact World.cell?_spot h3
theorem rdSlice {t e z : Nat} {α : Type} {ty : Ty α} {I : α → Prop} (ht : Tryz.prog.underlying t = some (.slice e)) (hz : Tryz.prog.cellsOf e = z) (hpos : 0 < z) (hlen : ∀ a, (ty.c a).length = z) (r : Rd e ty.c I) :
  Rd t (fun l : List α => [.sl false z (l.map ty.c)]) (fun l => ∀ a, a ∈ l → I a) := fun H enc W fuel cs x h => by
 rcases DataW.trod_slice ht h with ⟨rfl, -⟩ | ⟨a, len, cap, elems, rest, n, rfl, rfl, -, -, hlc, -, hel, hE, hR, -⟩
 ·exact ⟨[], by simp, .one (.slNil false z)⟩
 rw [hz] at hE hR
 have build : ∀ m, m ≤ len → ∃ l : List α, l.length = m ∧ (∀ a, a ∈ l → I a) ∧ ∀ i x, l[i]? = some x → ∃ ci, W.cells? 0 (a.add (i * z)) z = some ci ∧ CellsD W (ty.c x) ci := by
  intro m
  induction m with
  | zero => intro _; exact ⟨[], rfl, by simp, by simp⟩
  | succ m ih =>
   intro hm
   obtain ⟨l, l1, l2, l3⟩ := ih (by omega)
   have := hE m (by omega)
   rw [List.getElem?_eq_getElem (by omega)] at this
   obtain ⟨ci, hci, htr⟩ := Option.bind_eq_some_iff.1 this
   obtain ⟨y, hy, hcd⟩ := r H enc W n ci _ htr
   refine ⟨l ++ [y], by simp [l1], fun b hb => ?_, fun i x hx => ?_⟩
   ·rcases List.mem_append.1 hb with hb | hb
    ·exact l2 b hb
    ·rw [List.mem_singleton.1 hb]; exact hy
   ·by_cases hi : i < l.length
    ·rw [List.getElem?_append_left hi] at hx; exact l3 i x hx
    ·rw [List.getElem?_append_right (by omega)] at hx
     have hi2 : i - l.length = 0 := by
      have := (List.getElem?_eq_some_iff.1 hx).1
      simp at this; omega
     rw [hi2] at hx; simp at hx; subst hx
     have : i = m := by omega
     subst this
     exact ⟨ci, hci, hcd⟩
 obtain ⟨l, hl, hI, hc⟩ := build len (Nat.le_refl _)
 refine ⟨l, hI, .one ?_⟩
 by_cases hcap : cap = 0
 ·have : l = [] := List.length_eq_zero_iff.1 (by omega)
  subst this
  have h0 : len = 0 := by simpa using hl.symm
  subst h0; subst hcap
  exact .slNil false z (some a)
 have hspot : a.spot = none := by
  by_cases h0 : len = 0
  ·obtain ⟨r1, r2⟩ := hR rfl
   have := r2 0 (by omega)
   rw [List.getElem?_eq_getElem (by omega)] at this
   obtain ⟨ci, hci, _⟩ := Option.bind_eq_some_iff.1 this
   exact spot_of hpos (q := len + 0) hci (by omega)
  ·have := hE 0 (by omega)
   rw [List.getElem?_eq_getElem (by omega)] at this
   obtain ⟨ci, hci, _⟩ := Option.bind_eq_some_iff.1 this
   exact spot_of hpos hci rfl
 obtain ⟨B, o, sp⟩ := a
 simp only at hspot
 subst hspot
 have hsz : ∀ q, q ∈ l.map ty.c → q.length = z := fun q hq => by
  obtain ⟨y, _, rfl⟩ := List.mem_map.1 hq; exact hlen y
 have key : ∀ (i : Nat) (c : V), (l.map ty.c).flatten[i]? = some c → ∃ v, cellAt W B (o + i) = some v ∧ RepD (gh0 W).lim W c v := fun i c hci => by
  have e1 : i = (i / z) * z + i % z := by rw [Nat.mul_comm]; exact (Nat.div_add_mod i z).symm
  have hm := Nat.mod_lt i hpos
  rw [e1, flatten_get _ hsz _ _ hm, List.getElem?_map] at hci
  cases hx : l[i / z]? with
  | none => rw [hx] at hci; simp at hci
  | some y =>
   rw [hx] at hci
   simp only [Option.map_some, Option.bind_some] at hci
   obtain ⟨ci, k1, k2⟩ := hc _ _ hx
   obtain ⟨k3, k4⟩ := cells_at k1
   have k5 := k4 (i % z) hm
   have hv : ci[i % z]? = some (ci[i % z]'(by omega)) := List.getElem?_eq_getElem _
   refine ⟨_, ?_, k2.2 _ _ _ hci hv⟩
   rw [hv] at k5
   rw [Addr.add_eq, Addr.add_eq] at k5
   unfold cellAt
   rw [show o + i = o + (i / z) * z + i % z by omega]
   exact k5
 have fin := RepD.sl (lim := (gh0 W).lim) (w := W) false z (l.map ty.c) B o cap (fun i => (cellAt W B (o + i)).getD default) (by simp; omega) hsz
  (fun i c hci => by obtain ⟨v, v1, v2⟩ := key i c hci; rw [v1]; exact ⟨gh0_lim v1, rfl⟩) (fun i c hci => by obtain ⟨v, v1, v2⟩ := key i c hci; rw [v1]; exact v2)
 rw [List.length_map, hl] at fin
 exact fin
noncomputable def fsOf (t : TypeId) : Array Field := match Tryz.prog.underlying t with | some (.struct f) => f | _ => #[]
theorem open_agg {H : Type} {enc : TypeId × Value → H} {W : World} {t : TypeId} {α : Type} {c : α → List V} {I : α → Prop} (r : Rd t c I) {v : Value} {d : DataW H} {p : List MemPlace} (hv : ∃ cs, v = .agg cs)
  (h : DataW.Trod enc Tryz.prog W 0 (fun _ => true) true t v d p) : ∃ a : α, I a ∧ Rep (gh0 W) W (ofL []) uTop (.agg (c a)) v := by
 obtain ⟨cs, rfl⟩ := hv
 obtain ⟨fuel, hf⟩ := h
 obtain ⟨a, hi, hc⟩ := r H enc W fuel _ _ hf
 refine ⟨a, hi, ?_⟩
 have := Rep.agg (γ := gh0 W) (w := W) (bs := ofL []) (u := uTop) (c a) cs.toList hc.1 (fun i x y hx hy => .data (hc.2 i x y hx hy))
 simpa using this
theorem agg_struct {W : World} {base : Nat} {t : TypeId} {v : Value} {fs : Array Field} (ht : Tryz.prog.underlying t = some (.struct fs)) (h : Value.okWide Tryz.prog W .any base t v) : ∃ cs, v = .agg cs := by
 simp only [Value.okWide, ht] at h
 obtain ⟨cs, h1, _⟩ := h
 exact ⟨cs, h1⟩
theorem laidOut : laidOutB Tryz.prog = true := by kernel_rfl
theorem below_of_grow {w w' : World} {γ' : Gh} (h : Grow (gh0 w) w γ' w') : RowKit.Below w.heap.size w w' :=
 ⟨h.os, h.tape, h.output, h.size, fun k hk => (h.free k hk rfl).1⟩
theorem open_one {H : Type} {enc : TypeId × Value → H} {W : World} {t : TypeId} {α : Type} {c : α → List V} {I : α → Prop} (r : Rd t c I) {v : Value} {d : DataW H} {p : List MemPlace} (hv : v.cells = #[v])
  (h : DataW.Trod enc Tryz.prog W 0 (fun _ => true) true t v d p) : ∃ a : α, I a ∧ ∀ x, c a = [x] → Rep (gh0 W) W (ofL []) uTop x v := by
 obtain ⟨fuel, hf⟩ := h
 rw [hv] at hf
 obtain ⟨a, hi, hc⟩ := r H enc W fuel _ _ hf
 refine ⟨a, hi, fun x hx => ?_⟩
 rw [hx] at hc
 exact .data (hc.2 0 x v rfl rfl)
theorem slice_one {W : World} {base : Nat} {t e : TypeId} {v : Value} (ht : Tryz.prog.underlying t = some (.slice e)) (h : Value.okWide Tryz.prog W .any base t v) : v.cells = #[v] := by
 obtain ⟨a, l, c, rfl⟩ := WideShapes.okWide_slice ht h
 rfl
section
variable {H : Type} {enc : TypeId × Value → H} {P : Program} {w : World} {base : Nat} {spare : Nat → Bool} {held : Bool}
end
end Go.Proofs.YtioobnkmohikjaaGreatDoor
namespace Go.Proofs.YtioobnkmohikjaaGreatDoor
open Go Go.EV
set_option maxRecDepth 100000
theorem u25 : Tryz.prog.underlying 25 = some (.struct (fsOf 25)) := by kernel_rfl
theorem z25 : Tryz.prog.cellsOf 25 = 4 := by kernel_rfl
theorem u22 : Tryz.prog.underlying 22 = some (.slice 76) := by kernel_rfl
theorem z22 : Tryz.prog.cellsOf 22 = 1 := by kernel_rfl
theorem u76 : Tryz.prog.underlying 76 = some (.struct (fsOf 76)) := by kernel_rfl
theorem z76 : Tryz.prog.cellsOf 76 = 6 := by kernel_rfl
theorem u5 : Tryz.prog.underlying 5 = some (.int .u8) := by kernel_rfl
theorem z5 : Tryz.prog.cellsOf 5 = 1 := by kernel_rfl
theorem u74 : Tryz.prog.underlying 74 = some (.int .u16) := by kernel_rfl
theorem z74 : Tryz.prog.cellsOf 74 = 1 := by kernel_rfl
theorem ln6 {α : Type} {l : List α} (h : l.length = 6) : ∃ v0 v1 v2 v3 v4 v5, l = [v0, v1, v2, v3, v4, v5] := by match l, h with | [v0, v1, v2, v3, v4, v5], _ => exact ⟨v0, v1, v2, v3, v4, v5, rfl⟩
def c76 (x : SDraft) : List V := [.int .u8 x.fKind, .int .u8 x.fComponent, .int .u8 x.fAddr, .int .u8 x.fBase, .int .u8 x.fServer, .int .u16 x.fPreference]
def Ok76 (x : SDraft) : Prop := (Lit.int .u8 x.fKind).wf = true ∧ (Lit.int .u8 x.fComponent).wf = true ∧ (Lit.int .u8 x.fAddr).wf = true ∧ (Lit.int .u8 x.fBase).wf = true ∧ (Lit.int .u8 x.fServer).wf = true ∧ (Lit.int .u16 x.fPreference).wf = true
theorem rd76 : Rd 76 c76 Ok76 := fun H enc W fuel cs x h => by
 obtain ⟨xs, m, rfl, -, hl, hn, hel⟩ := DataW.trod_struct u76 h
 rw [z76] at hl
 obtain ⟨v0, v1, v2, v3, v4, v5, rfl⟩ := ln6 hl
 obtain ⟨a0, i0, k0⟩ := fld hel hn 0 (t := 5) (o := 0) (by kernel_rfl) z5 (rdInt u5)
 obtain ⟨a1, i1, k1⟩ := fld hel hn 1 (t := 5) (o := 1) (by kernel_rfl) z5 (rdInt u5)
 obtain ⟨a2, i2, k2⟩ := fld hel hn 2 (t := 5) (o := 2) (by kernel_rfl) z5 (rdInt u5)
 obtain ⟨a3, i3, k3⟩ := fld hel hn 3 (t := 5) (o := 3) (by kernel_rfl) z5 (rdInt u5)
 obtain ⟨a4, i4, k4⟩ := fld hel hn 4 (t := 5) (o := 4) (by kernel_rfl) z5 (rdInt u5)
 obtain ⟨a5, i5, k5⟩ := fld hel hn 5 (t := 74) (o := 5) (by kernel_rfl) z74 (rdInt u74)
 exact ⟨⟨a0, a1, a2, a3, a4, a5⟩, ⟨i0, i1, i2, i3, i4, i5⟩, k0.append (k1.append (k2.append (k3.append (k4.append k5))))⟩
def Ok22 (l : List SDraft) : Prop := ∀ a, a ∈ l → Ok76 a
theorem rd22 : Rd 22 (fun l : List SDraft => [.sl false 6 (l.map tySDraft.c)]) Ok22 := rdSlice (ty := tySDraft) u22 z76 (by omega) (fun _ => rfl) rd76
theorem u4 : Tryz.prog.underlying 4 = some .bool := by kernel_rfl
theorem z4 : Tryz.prog.cellsOf 4 = 1 := by kernel_rfl
theorem u23 : Tryz.prog.underlying 23 = some (.slice 60) := by kernel_rfl
theorem z23 : Tryz.prog.cellsOf 23 = 1 := by kernel_rfl
theorem u60 : Tryz.prog.underlying 60 = some (.array 2 5) := by kernel_rfl
theorem z60 : Tryz.prog.cellsOf 60 = 2 := by kernel_rfl
theorem ln2 {α : Type} {l : List α} (h : l.length = 2) : ∃ v0 v1, l = [v0, v1] := by match l, h with | [v0, v1], _ => exact ⟨v0, v1, rfl⟩
def c60 (x : S2Uint8) : List V := [.int .u8 x.a0, .int .u8 x.a1]
def Ok60 (x : S2Uint8) : Prop := (Lit.int .u8 x.a0).wf = true ∧ (Lit.int .u8 x.a1).wf = true
theorem rd60 : Rd 60 c60 Ok60 := fun H enc W fuel cs x h => by
 obtain ⟨xs, m, rfl, -, hl, hn, hel⟩ := DataW.trod_array u60 h
 rw [z60] at hl
 obtain ⟨v0, v1, rfl⟩ := ln2 hl
 obtain ⟨a0, i0, k0⟩ := fldA hel hn 0 (by omega) z5 (rdInt u5)
 obtain ⟨a1, i1, k1⟩ := fldA hel hn 1 (by omega) z5 (rdInt u5)
 exact ⟨⟨a0, a1⟩, ⟨i0, i1⟩, k0.append k1⟩
def Ok23 (l : List S2Uint8) : Prop := ∀ a, a ∈ l → Ok60 a
theorem rd23 : Rd 23 (fun l : List S2Uint8 => [.sl false 2 (l.map tyS2Uint8.c)]) Ok23 := rdSlice (ty := tyS2Uint8) u23 z60 (by omega) (fun _ => rfl) rd60
theorem ln4 {α : Type} {l : List α} (h : l.length = 4) : ∃ v0 v1 v2 v3, l = [v0, v1, v2, v3] := by match l, h with | [v0, v1, v2, v3], _ => exact ⟨v0, v1, v2, v3, rfl⟩
def c25 (x : SDraft1) : List V := [.sl false 6 (List.map tySDraft.c x.fLocals), .sl false 6 (List.map tySDraft.c x.fRemotes), .bool x.fControlling, .sl false 2 (List.map tyS2Uint8.c x.fSet)]
def Ok25 (x : SDraft1) : Prop := Ok22 x.fLocals ∧ Ok22 x.fRemotes ∧ True ∧ Ok23 x.fSet
theorem rd25 : Rd 25 c25 Ok25 := fun H enc W fuel cs x h => by
 obtain ⟨xs, m, rfl, -, hl, hn, hel⟩ := DataW.trod_struct u25 h
 rw [z25] at hl
 obtain ⟨v0, v1, v2, v3, rfl⟩ := ln4 hl
 obtain ⟨a0, i0, k0⟩ := fld hel hn 0 (t := 22) (o := 0) (by kernel_rfl) z22 rd22
 obtain ⟨a1, i1, k1⟩ := fld hel hn 1 (t := 22) (o := 1) (by kernel_rfl) z22 rd22
 obtain ⟨a2, i2, k2⟩ := fld hel hn 2 (t := 4) (o := 2) (by kernel_rfl) z4 (rdBool u4)
 obtain ⟨a3, i3, k3⟩ := fld hel hn 3 (t := 23) (o := 3) (by kernel_rfl) z23 rd23
 exact ⟨⟨a0, a1, a2, a3⟩, ⟨i0, i1, i2, i3⟩, k0.append (k1.append (k2.append k3))⟩
theorem u3 : Tryz.prog.underlying 3 = some (.int .i64) := by kernel_rfl
theorem z3 : Tryz.prog.cellsOf 3 = 1 := by kernel_rfl
theorem z29 : Tryz.prog.cellsOf 29 = 5 := by kernel_rfl
theorem z31 : Tryz.prog.cellsOf 31 = 1 := by kernel_rfl
def c34 (x : SCandidate) : List V := [.int .i64 x.fKind, .int .i64 x.fComponent, .int .i64 x.fPriority, .str x.fFoundation, .str x.fAddr.fHost, .int .i64 x.fAddr.fPort, .str x.fBase.fHost, .int .i64 x.fBase.fPort]
theorem u65 : Tryz.prog.underlying 65 = some (.slice 5) := by kernel_rfl
def Ok65 (l : List Int) : Prop := ∀ a, a ∈ l → (Lit.int .u8 a).wf = true
theorem rd65 : Rd 65 (fun l : List Int => [.sl false 1 (l.map ty_u8.c)]) Ok65 := rdSlice (ty := ty_u8) u65 z5 (by omega) (fun _ => rfl) (rdInt u5)
end Go.Proofs.YtioobnkmohikjaaGreatDoor
namespace Go.Proofs.YtioobnkmohikjaaGreatDoor
open Go Go.EV
set_option maxRecDepth 100000
end Go.Proofs.YtioobnkmohikjaaGreatDoor
namespace Go.Proofs.YtioobnkmohikjaaGreatDoor
open Go Go.EV Go.ChangeShapes Go.WideShapes Go.ChangeAt Go.RowKit
set_option maxRecDepth 100000
theorem calls6 {w : World} (h : laidMetH Tryz.prog laid1 w) {v0 v1 : Value} {x0 : SDraft1} {x1 : (List Int)} 
  (r0 : Rep (gh0 w) w (ofL []) uTop (.agg (c25 x0)) v0) (r1 : Rep (gh0 w) w (ofL []) uTop (.sl false 1 (x1.map ty_u8.c)) v1) :
  Calls Tryz.prog 6 #[v0, v1] w fun e w' => e = .returned (.bool true) ∧ ∃ γ', Grow (gh0 w) w γ' w' := by
 have c : CallC Tryz.prog GG 6 [.agg (c25 x0), .sl false 1 (x1.map ty_u8.c)] (ofL []) (.bool true) (ofL []) := (s6 x0 x1).ok true (SOk.eq (okLENDS x0 x1 ))
 refine (c (gh0 w) w #[v0, v1] (globOk h) (fun B x hx => by simp [gh0] at hx) ⟨rfl, fun i c v hc hv => ?_⟩ (fun b k hb => by simp [ofL] at hb)).mono fun e w' hq => ?_
 ·match i, hc, hv with
  | 0, hc, hv => simp at hc hv; subst hc; subst hv; exact r0
  | 1, hc, hv => simp at hc hv; subst hc; subst hv; exact r1
  | n + 2, hc, hv => simp at hc
 ·obtain ⟨v, γ', rfl, hg, _, hr, _⟩ := hq
  have := hr.bool_inv
  subst this
  exact ⟨rfl, γ', hg⟩
noncomputable def zero6 : Array Value := #[.agg #[.slice none 0 0, .slice none 0 0, .bool false, .slice none 0 0],
 .slice none 0 0]
theorem lifted6 (os : Os) (started : os.Started) (H : Type) (enc : TypeId × Value → H) :
  ReturnsInHanded {} Tryz.checked os 6 .any (fun w args => (Rows.checklistEndsSpec.pre enc Tryz.prog Tryz.f6 [] false w args ∧ laidMetH Tryz.prog laid1 w) ∧ sizedMet enc Tryz.prog Tryz.f6 (OpenSpec.ofChange Rows.checklistEndsSpec) false w args)
   (Rows.checklistEndsSpec.post enc Tryz.prog Tryz.f6 false true false false) := by
 refine returnsInHanded_of_change_and (C := Tryz.checked) (X := fun w _ => laidMetH Tryz.prog laid1 w) (fun _ _ _ hh h => h.of_heap hh) own started (by kernel_rfl) Tryz.func6
  (ChangeSpec.witness_shaped (enc := enc) (C := Tryz.checked) (os := os) (X := fun w _ => laidMetH Tryz.prog laid1 w) false (World.laidAll Tryz.prog os laid1) zero6 8 (World.laidAll_os _ _ _) (shaped1 os) (by kernel_rfl) (by kernel_rfl) (by kernel_rfl) (laid_met os _)) ?_
 intro W base args ds gs before hval0 hW _ _ hL _
 have hval : ∀ (j : Nat) t v, Tryz.f6.params[j]? = some t → args[j]? = some v → Value.okWide Tryz.prog W .any base t v := hval0
 have hW' := hW
 have hlt0 := DataW.Whole.lt hW
 obtain ⟨p, q, hA0, hV, rfl, hfz, hnd⟩ := hW
 have hA : DataW.TrodAll enc Tryz.prog W 0 (fun _ => true) true Tryz.f6.params.toList args.toList ds p := hA0
 rw [Tryz.params6] at hA hval
 obtain ⟨rfl, rfl⟩ := trodVars_none hV
 obtain ⟨v0, v1, d0, d1, p0, p1, rfl, rfl, rfl, h0, h1⟩ := trodAll_two hA
 obtain ⟨x0, i0, r0⟩ := open_agg rd25 (agg_struct u25 (hval 0 25 v0 rfl rfl)) h0
 obtain ⟨x1, i1, q1⟩ := open_one rd65 (slice_one u65 (hval 1 65 v1 rfl rfl)) h1
 have r1 := q1 _ rfl
 refine (calls6 hL  r0 r1).mono fun e W' ⟨he, γ', hg⟩ => ?_
 subst he
 have hb := below_of_grow hg
 refine ⟨_, rfl, [d0, d1], [], _, [], (p0 ++ p1), [], hW', trodAll_mk1 (shut_bool u4 true), ?_, rfl, keptBut_of_grow hg _, fun h => by cases h⟩
 show DataW.TrodAll enc Tryz.prog W' 0 (fun b => decide (b < W.heap.size)) true Tryz.f6.params.toList [v0, v1] [d0, d1] _
 rw [Tryz.params6]
 exact trodAll_mk2
  (Below.trod laidOut (by kernel_rfl) (of_decide_eq_true (by kernel_rfl)) h0 hb (fun x hx => hlt0 x (by simp [hx])))
  (Below.trod laidOut (by kernel_rfl) (of_decide_eq_true (by kernel_rfl)) h1 hb (fun x hx => hlt0 x (by simp [hx])))
theorem holds6 : Rows.ChecklistEndsSaid :=
 OpenClaim.holds_of_wide 6 Tryz.f6 rfl rfl rfl rfl rfl rfl rfl ⟨rfl, rfl, rfl, rfl, rfl⟩ rfl rfl rfl rfl rfl (by kernel_rfl) Tryz.func6 (by kernel_rfl)
  (of_decide_eq_true (by kernel_rfl)) (by unfold Func.isWrapper; first | (rw [if_pos (by decide +kernel)]; kernel_rfl) | (rw [if_neg (by decide +kernel)]; exact ⟨rfl, rfl⟩))
  (fun os started H enc _ => lifted6 os started H enc)
theorem checklistEnds_card : Rows.ChecklistEndsCardSaid :=
 Claim7.holds_tied_plain_at .later [] [.data, .data, .data, .data, .pinned] true (true, "da77e1865ae41b40c25bcb37cb32671b9f8664367b1765c519293e1f7c122044") false
  holds6 (fun _ h => by cases h) (by kernel_rfl) (fun _ h => by cases h) checklistEnds_row_tie rfl ⟨rfl, rfl⟩ (by kernel_rfl) rfl
  (fun f fn hf hfn => by
   obtain rfl : f = 6 := Option.some.inj ((show Tryz.prog.funcNamed "tannoy/tannoylaw10.ChecklistEnds" = some 6 by kernel_rfl).symm.trans hf) |>.symm
   obtain rfl : fn = Tryz.f6 := (Option.some.inj (Tryz.func6.symm.trans hfn)).symm
   exact ⟨by kernel_rfl, fun j t ht => by
    rw [Tryz.params6] at ht
    have hm : t ∈ [25, 65] := by simpa using Array.mem_of_getElem? ht
    have hall : ([25, 65].all fun u => !Tryz.prog.wantsStandIn u) = true := by kernel_rfl
    exact (show Tryz.prog.wantsStandIn t = false by simpa using List.all_eq_true.1 hall t hm)⟩)
  (by kernel_rfl)
end Go.Proofs.YtioobnkmohikjaaGreatDoor
