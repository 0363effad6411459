/- When a checklist is valid: the program and its reference hold one condition; what pairs have in common, their priorities. No conditions.
   Next, Settled, Turn and Set: the program and its reference come to the same for every list. No conditions.
   Guides and contracts, printed by a program.
   Next: the program and its reference come to the same for every list; Same says yes to what is equal. No conditions but on lengths.
   The drafted and bent lists: they come about for every draft, and are short.
   Guides and contracts, printed by a program.
   The pairs of candidates that fit, gathered: a range over a function (a method value), put together by hand.
   The pairs that wait, set: a range over a map whose rounds come out alike in whatever order they are made.
   Guides and contracts, printed by a program.
   Guides and contracts, printed by a program.
   wakes says yes: closed, by the kernel.
   Guides and contracts, printed by a program.
   ChecklistNext and ChecklistSets: yes at every argument.
   Plain lists: merging two sorted lists by halves, as symMerge does; a sorted list is the only one. No program in sight. Conditions: the order is transitive and has no ties.
   The sorting of pairs: swapping, rotating, insertion. Conditions: the places lie in the list. -/
import Derived.Test.YtioobnkmohikjaaGreatDoorM8
import Derived.Test.YtioobnkmohikjaaGreatDoorM6
import Derived.Test.YtioobnkmohikjaaGreatDoorM7
import Derived.Test.YtioobnkmohikjaaGreatDoorM5
import Derived.KernelRfl
namespace Go.Proofs.YtioobnkmohikjaaGreatDoor
open Go Go.EV
set_option maxRecDepth 100000
def c0 : SCandidate := ⟨0, 0, 0, ByteArray.empty, ⟨ByteArray.empty, 0⟩, ⟨ByteArray.empty, 0⟩⟩
def locC (l : SList) (x : SPair) : SCandidate := (l.fLocals[x.fLocal.toNat]?).getD c0
def remC (l : SList) (x : SPair) : SCandidate := (l.fRemotes[x.fRemote.toNat]?).getD c0
def InB (l : SList) (x : SPair) : Prop := (0 ≤ x.fLocal ∧ x.fLocal < (l.fLocals.length : Int)) ∧ (0 ≤ x.fRemote ∧ x.fRemote < (l.fRemotes.length : Int))
theorem InB.loc {l : SList} {x : SPair} (h : InB l x) : l.fLocals[x.fLocal.toNat]? = some (locC l x) := by
 obtain ⟨y, hy⟩ := at_of h.1.1 h.1.2
 unfold locC; rw [hy]; rfl
theorem InB.rem {l : SList} {x : SPair} (h : InB l x) : l.fRemotes[x.fRemote.toNat]? = some (remC l x) := by
 obtain ⟨y, hy⟩ := at_of h.2.1 h.2.2
 unfold remC; rw [hy]; rfl
theorem InB.lc {l : SList} {x : SPair} (h : InB l x) : decide (0 ≤ x.fLocal) = true := by simpa using h.1.1
theorem InB.rc {l : SList} {x : SPair} (h : InB l x) : decide (0 ≤ x.fRemote) = true := by simpa using h.2.1
theorem InB.locOk {l : SList} {x : SPair} (h : InB l x) (hc : CandsOk l.fLocals) : CandOk (locC l x) := hc _ (List.mem_of_getElem? h.loc)
theorem InB.remOk {l : SList} {x : SPair} (h : InB l x) (hc : CandsOk l.fRemotes) : CandOk (remC l x) := hc _ (List.mem_of_getElem? h.rem)
def ppr (a b : Int) : Int := if b < a then b * 4294967296 + 2 * a + 1 else a * 4294967296 + 2 * b
theorem okPP (a b : Int) (ha : 1 ≤ a ∧ a ≤ 2147483647) (hb : 1 ≤ b ∧ b ≤ 2147483647) : SOk (s71 a b) (fun r => r = (ppr a b, 0)) := by
 show Ok (g71 a b) _
 unfold g71
 refine Ok.cnd (R := fun c => c = false) (Ok.call (okWITHIN _ _ _) fun r hr => Ok.br (fun k => ?_) (fun k => Ok.call (okWITHIN _ _ _) fun r2 hr2 => Ok.done ?_)) fun c hc => ?_
 ·simp only [Bool.not_eq_true'] at k; subst k; have := hr.2 ha; simp at this
 ·cases r2 with
  | true => rfl
  | false => have := hr2.2 hb; simp at this
 ·subst hc
  have sh : ∀ x : Int, 1 ≤ x → x ≤ 2147483647 → bShl .i64 x 32 = x * 4294967296 := fun x h1 h2 => by
   show IntKind.i64.wrap (x * 2 ^ (min (32 : Int).toNat 64)) = _
   have e : (2 : Int) ^ (min (32 : Int).toNat 64) = 4294967296 := by decide
   rw [e]
   exact wi64_id (by omega) (by omega)
  refine Ok.brF rfl (Ok.br (fun h => Ok.done ?_) (fun h => Ok.done ?_))
  ·simp only [decide_eq_true_eq] at h
   have e1 : (if b < a then b else a) = b := if_pos h
   have e2 : (if b > a then b else a) = a := if_neg (by omega)
   rw [e1, e2, sh b hb.1 hb.2, wi64_id (n := 2 * a) (by omega) (by omega), wi64_id (n := b * 4294967296 + 2 * a) (by omega) (by omega), wi64_id (by omega) (by omega)]
   unfold ppr; rw [if_pos h]
  ·simp only [decide_eq_false_iff_not] at h
   have e1 : (if b < a then b else a) = a := if_neg h
   have e2 : (if b > a then b else a) = b := by split <;> omega
   rw [e1, e2, sh a ha.1 ha.2, wi64_id (n := 2 * b) (by omega) (by omega), wi64_id (by omega) (by omega)]
   unfold ppr; rw [if_neg h]
theorem okRPP (a b : Int) (ha : 1 ≤ a ∧ a ≤ 2147483647) (hb : 1 ≤ b ∧ b ≤ 2147483647) : SOk (s68 a b) (fun r => r = (ppr a b, 0)) := by
 show Ok (g68 a b) _
 unfold g68
 refine Ok.cnd (R := fun c => c = false) (Ok.brF (by simp; omega) (Ok.brF (by simp; omega) (Ok.brF (by simp; omega) (Ok.done (by simp; omega))))) fun c hc => ?_
 subst hc
 refine Ok.brF rfl (Ok.br (fun h => Ok.done ?_) (fun h => Ok.done ?_))
 ·simp only [decide_eq_true_eq] at h
  rw [wi64_id (n := b * 4294967296) (by omega) (by omega), wi64_id (n := 2 * a) (by omega) (by omega), wi64_id (n := b * 4294967296 + 2 * a) (by omega) (by omega), wi64_id (by omega) (by omega)]
  unfold ppr; rw [if_pos h]
 ·simp only [decide_eq_false_iff_not] at h
  rw [wi64_id (n := a * 4294967296) (by omega) (by omega), wi64_id (n := 2 * b) (by omega) (by omega), wi64_id (by omega) (by omega)]
  unfold ppr; rw [if_neg h]
def prio (l : SList) (x : SPair) : Int := bif l.fControlling then ppr (locC l x).fPriority (remC l x).fPriority else ppr (remC l x).fPriority (locC l x).fPriority
theorem okRPRIO (l : SList) (x : SPair) (h : InB l x) (hl : CandsOk l.fLocals) (hr : CandsOk l.fRemotes) : SOk (s41 l x) (fun r => r = prio l x) := by
 show Ok (g41 l x) _
 unfold g41 prio
 have h1 := (h.locOk hl).2.2.1
 have h2 := (h.remOk hr).2.2.1
 refine Ok.row h.lc h.loc (Ok.row h.rc h.rem ?_)
 cases l.fControlling with
 | true => exact Ok.brT rfl (Ok.call (okRPP _ _ h1 h2) fun r hr => Ok.done (by rw [hr]; rfl))
 | false => exact Ok.brF rfl (Ok.call (okRPP _ _ h2 h1) fun r hr => Ok.done (by rw [hr]; rfl))
def likeK (l : SList) (x : SPair) : SLike := ⟨(locC l x).fBase, (remC l x).fAddr, (locC l x).fComponent⟩
def foundK (l : SList) (x : SPair) : S2String := ⟨(locC l x).fFoundation, (remC l x).fFoundation⟩
theorem okLIKE (l : SList) (x : SPair) (h : InB l x) : SOk (s36 (SPlanner.mk l) x) (fun r => r = likeK l x) := by
 show Ok (g36 (SPlanner.mk l) x) _
 unfold g36
 exact Ok.row h.lc h.loc (Ok.row h.rc h.rem (Ok.done rfl))
theorem okFOUND (l : SList) (x : SPair) (h : InB l x) : SOk (s37 (SPlanner.mk l) x) (fun r => r = foundK l x) := by
 show Ok (g37 (SPlanner.mk l) x) _
 unfold g37
 exact Ok.row h.lc h.loc (Ok.row h.rc h.rem (Ok.done rfl))
theorem okALIKE (l : SList) (x y : SPair) (h : InB l x) (k : InB l y) : SOk (s43 l x y) (fun b => (b = true ↔ likeK l x = likeK l y)) := by
 show Ok (g43 l x y) _
 unfold g43 likeK
 refine Ok.row h.lc h.loc (Ok.row h.rc h.rem (Ok.row k.lc k.loc (Ok.row k.rc k.rem ?_)))
 simp only [SLike.mk.injEq]
 refine Ok.cnd (R := fun b => (b = true ↔ (locC l x).fBase = (locC l y).fBase ∧ (remC l x).fAddr = (remC l y).fAddr ∧ (locC l x).fComponent = (locC l y).fComponent)) ?_ fun b hb => Ok.done hb
 refine Ok.br (fun k1 => Ok.br (fun k2 => Ok.done ?_) (fun k2 => Ok.done ?_)) (fun k1 => Ok.done ?_)
 ·have e1 := eA_iff.1 k1; have e2 := eA_iff.1 k2
  rw [beq_iff_eq]
  exact ⟨fun h => ⟨e1, e2, h⟩, fun h => h.2.2⟩
 ·exact ⟨fun h => by simp at h, fun h => by rw [eA_iff.2 h.2.1] at k2; simp at k2⟩
 ·exact ⟨fun h => by simp at h, fun h => by rw [eA_iff.2 h.1] at k1; simp at k1⟩
theorem okRELATED (l : SList) (x y : SPair) (h : InB l x) (k : InB l y) : SOk (s44 l x y) (fun b => (b = true ↔ foundK l x = foundK l y)) := by
 show Ok (g44 l x y) _
 unfold g44 foundK
 simp only [S2String.mk.injEq]
 refine Ok.cnd (R := fun b => (b = true ↔ (locC l x).fFoundation = (locC l y).fFoundation ∧ (remC l x).fFoundation = (remC l y).fFoundation)) ?_ fun b hb => Ok.done hb
 refine Ok.row h.lc h.loc (Ok.row k.lc k.loc (Ok.br (fun k1 => Ok.row h.rc h.rem (Ok.row k.rc k.rem (Ok.done ?_))) (fun k1 => Ok.done ?_)))
 ·simp only [decide_eq_true_eq] at k1 ⊢
  exact ⟨fun h => ⟨k1, h⟩, fun h => h.2⟩
 ·simp only [decide_eq_false_iff_not] at k1
  exact ⟨fun h => by simp at h, fun h => absurd h.1 k1⟩
def FitP (a b : SCandidate) : Prop := a.fComponent = b.fComponent ∧ (a.fAddr.fHost.size : Int) = (b.fAddr.fHost.size : Int)
theorem okFIT (a b : SCandidate) : SOk (s64 a b) (fun c => (c = true ↔ FitP a b)) := by
 show Ok (g64 a b) _
 unfold g64 FitP
 refine Ok.cnd (R := fun c => (c = true ↔ a.fComponent = b.fComponent ∧ (a.fAddr.fHost.size : Int) = (b.fAddr.fHost.size : Int))) ?_ fun c hc => Ok.done hc
 refine Ok.br (fun h => Ok.done ?_) (fun h => Ok.done ?_)
 ·rw [beq_iff_eq] at h ⊢; exact ⟨fun k => ⟨h, k⟩, fun k => k.2⟩
 ·rw [beq_eq_false_iff_ne] at h; exact ⟨fun k => by simp at k, fun k => absurd k.1 h⟩
theorem okRFIT (a b : SCandidate) : SOk (s40 a b) (fun c => (c = true ↔ FitP a b)) := by
 show Ok (g40 a b) _
 unfold g40 FitP
 refine Ok.cnd (R := fun c => (c = true ↔ a.fComponent = b.fComponent ∧ (a.fAddr.fHost.size : Int) = (b.fAddr.fHost.size : Int))) ?_ fun c hc => Ok.done hc
 refine Ok.br (fun h => Ok.done ?_) (fun h => Ok.done ?_)
 ·rw [beq_iff_eq] at h ⊢; exact ⟨fun k => ⟨h, k⟩, fun k => k.2⟩
 ·rw [beq_eq_false_iff_ne] at h; exact ⟨fun k => by simp at k, fun k => absurd k.1 h⟩
theorem likeP_iff {a b : SLike} : ((decide (a.fbase.fHost = b.fbase.fHost)) && ((a.fbase.fPort == b.fbase.fPort) && ((decide (a.faddr.fHost = b.faddr.fHost)) && ((a.faddr.fPort == b.faddr.fPort) && ((a.fcomponent == b.fcomponent) && true))))) = true ↔ a = b := by
 obtain ⟨⟨a1, a2⟩, ⟨a3, a4⟩, a5⟩ := a
 obtain ⟨⟨b1, b2⟩, ⟨b3, b4⟩, b5⟩ := b
 simp only [Bool.and_eq_true, decide_eq_true_eq, beq_iff_eq, and_true, SLike.mk.injEq, SAddr.mk.injEq, and_assoc]
end Go.Proofs.YtioobnkmohikjaaGreatDoor
namespace Go.Proofs.YtioobnkmohikjaaGreatDoor
open Go Go.EV
set_option maxRecDepth 100000
open Classical
def l0 : SList := ⟨false, [], [], []⟩
end Go.Proofs.YtioobnkmohikjaaGreatDoor
namespace Go.Proofs.YtioobnkmohikjaaGreatDoor
open Go Go.EV
set_option maxRecDepth 100000
structure S2Uint8 where
 a0 : Int
 a1 : Int
structure SDraft1 where
 fLocals : (List SDraft)
 fRemotes : (List SDraft)
 fControlling : Bool
 fSet : (List S2Uint8)
def tyS2Uint8 : Ty S2Uint8 := ⟨fun x => [.int .u8 x.a0, .int .u8 x.a1], fun x => [.int .u8 x.a0, .int .u8 x.a1], fun _ => rfl, fun _ => rfl, fun _ _ => rfl, fun _ => rfl⟩
noncomputable def g12 (p0 : (List SCandidate)) (p1 : (List SCandidate)) (p2 : Bool) : TT (SList × Int) :=
 .cnd 1 [30]
 (.br 1005 (decide ((12 : Int) < (mlen tySCandidate p0)))
  (.done true)
  (.done (decide ((12 : Int) < (mlen tySCandidate p1)))))
 (fun (c397 : Bool) => [.bool c397]) fun c397 =>
 .br 0 c397
 (.done ((SList.mk false [] [] []), 3))
 (.cnd 3 [39]
  (.call 3002 (s39 p0) [] [] fun r398 =>
   .br 3005 (!r398)
   (.done true)
   (.call 3006 (s39 p1) [] [] fun r399 =>
    .done (!r399)))
  (fun (c400 : Bool) => [.bool c400]) fun c400 =>
  .br 0 c400
  (.done ((SList.mk false [] [] []), 90))
  (.gh 1 (.virt 600033 9 4) (.bind 0
   (.lp (fun (l424 : (List SPair) × Int) => Ext.of .normal [(0, .sl false 8 (List.map tySCandidate.c p0)), (1, .sl false 8 (List.map tySCandidate.c p1)), (6, .ptr 6 0 0), (7, .int .i64 0), (8, .ptr 8 0 0), (9, .ref 600033 0 l424.1.length), (10, .int .i64 l424.2)] [(6, ⟨4, true, [[.bool false, .nilsl, .nilsl, .nilsl]]⟩), (8, ⟨4, true, [[.bool p2, .sl false 8 (List.map tySCandidate.c p0), .sl false 8 (List.map tySCandidate.c p1), .nilsl]]⟩)] [BT.of 600033 tySPair 4 l424.1 true] (by rfl))
    (fun l424 =>
     .br 0 (decide (l424.2 < (mlen tySCandidate p0)))
     (.gh 1 (.ren 600033 600037) (.bind 0
      (.lp (fun (l439 : (List SPair) × Int) => Ext.of .normal [(0, .sl false 8 (List.map tySCandidate.c p0)), (1, .sl false 8 (List.map tySCandidate.c p1)), (6, .ptr 6 0 0), (7, .int .i64 0), (8, .ptr 8 0 0), (9, .ref 600037 0 l439.1.length), (10, .int .i64 l424.2), (11, .int .i64 l439.2)] [(6, ⟨4, true, [[.bool false, .nilsl, .nilsl, .nilsl]]⟩), (8, ⟨4, true, [[.bool p2, .sl false 8 (List.map tySCandidate.c p0), .sl false 8 (List.map tySCandidate.c p1), .nilsl]]⟩)] [BT.of 600037 tySPair 4 l439.1 true] (by rfl))
       (fun l439 =>
        .br 0 (decide (l439.2 < (mlen tySCandidate p1)))
        (.row 14003 tySCandidate p0 l424.2.toNat (decide (0 ≤ l424.2)) fun x440 =>
         .row 14007 tySCandidate p1 l439.2.toNat (decide (0 ≤ l439.2)) fun x441 =>
         .call 14009 (s40 x440 x441) [] [] fun r442 =>
         .br 0 r442
         (.call 15003 (s41 (SList.mk p2 p0 p1 []) (SPair.mk l424.2 l439.2 0 0)) [] [] fun r443 =>
          .bind 1
          (.lp (fun (l448 : Int) => Ext.of .normal [(0, .sl false 8 (List.map tySCandidate.c p0)), (1, .sl false 8 (List.map tySCandidate.c p1)), (6, .ptr 6 0 0), (7, .int .i64 0), (8, .ptr 8 0 0), (9, .ref 600037 0 l439.1.length), (10, .int .i64 l424.2), (11, .int .i64 l439.2), (12, .ptr 12 0 0), (13, .int .i64 l448)] [(6, ⟨4, true, [[.bool false, .nilsl, .nilsl, .nilsl]]⟩), (8, ⟨4, true, [[.bool p2, .sl false 8 (List.map tySCandidate.c p0), .sl false 8 (List.map tySCandidate.c p1), .nilsl]]⟩), (12, ⟨4, true, [[.int .i64 l424.2, .int .i64 l439.2, .int .i64 r443, .int .i64 0]]⟩)] [BT.of 600037 tySPair 4 l439.1 true] (by rfl))
           (fun l448 =>
            .cnd 17 [85]
            (.br 17004 (decide ((0 : Int) < l448))
             (.chk 17008 (decide (0 ≤ (wi64 (l448 - 1))) && decide ((wi64 (l448 - 1)) < (l439.1.length : Int))) (.row 17009 tySPair l439.1 (0 + (wi64 (l448 - 1)).toNat) true fun x449 =>
              .call 17010 (s42 (SPair.mk l424.2 l439.2 r443 0) x449) [] [] fun r450 =>
              .done r450))
             (.done false))
            (fun (c451 : Bool) => [.bool c451]) fun c451 =>
            .br 0 c451
            (.done (.inl (wi64 (l448 - 1))))
            (.done (.inr (r443, l448))))
           (l439.1.length : Int))
          (fun (e452 : Int × Int) => Ext.of (.exit 4) [(0, .sl false 8 (List.map tySCandidate.c p0)), (1, .sl false 8 (List.map tySCandidate.c p1)), (6, .ptr 6 0 0), (7, .int .i64 0), (8, .ptr 8 0 0), (9, .ref 600037 0 l439.1.length), (10, .int .i64 l424.2), (11, .int .i64 l439.2), (12, .ptr 12 0 0), (13, .int .i64 e452.2)] [(6, ⟨4, true, [[.bool false, .nilsl, .nilsl, .nilsl]]⟩), (8, ⟨4, true, [[.bool p2, .sl false 8 (List.map tySCandidate.c p0), .sl false 8 (List.map tySCandidate.c p1), .nilsl]]⟩), (12, ⟨4, true, [[.int .i64 l424.2, .int .i64 l439.2, .int .i64 e452.1, .int .i64 0]]⟩)] [BT.of 600037 tySPair 4 l439.1 true] (by rfl))
          (fun e452 =>
           .chk 20004 (decide (0 ≤ e452.2) && decide (e452.2 ≤ (l439.1.length : Int))) (.opr 20005 (Rule.appPart (ty := tySPair) (t := 39) (t2 := 39) (e := 68) (e2 := 68) (z := 4) (bytes := 32) (.tmp 88) (.tmp 91) 92 none true [] 600037 0 e452.2.toNat true l439.1 (by kernel_rfl) (by kernel_rfl) (by kernel_rfl) (by decide) (by kernel_rfl) (fun _ => rfl) (by decide) (by simp)) fun _ =>
           .app 20008 tySPair ([] ++ (l439.1.drop 0).take e452.2.toNat) [(SPair.mk l424.2 l439.2 e452.1 0)] 32 false (by intro h; cases h) (.chk 21004 (decide (0 ≤ e452.2) && decide (e452.2 ≤ (l439.1.length : Int))) (.opr 21005 (Rule.appPart (ty := tySPair) (t := 39) (t2 := 39) (e := 68) (e2 := 68) (z := 4) (bytes := 32) (.tmp 96) (.tmp 99) 100 (some 95) true (([] ++ (l439.1.drop 0).take e452.2.toNat) ++ [(SPair.mk l424.2 l439.2 e452.1 0)]) 600037 e452.2.toNat (l439.1.length - e452.2.toNat) true l439.1 (by kernel_rfl) (by kernel_rfl) (by kernel_rfl) (by decide) (by kernel_rfl) (fun _ => rfl) (by decide) (by simp)) fun _ =>
           .gh 0 (.drop [600037]) (.gh 0 (.ren 100 600037) (.done (.inl (((([] ++ (l439.1.drop 0).take e452.2.toNat) ++ [(SPair.mk l424.2 l439.2 e452.1 0)]) ++ (l439.1.drop e452.2.toNat).take (l439.1.length - e452.2.toNat)), (wi64 (l439.2 + 1)))))))))))
         (.done (.inl (l439.1, (wi64 (l439.2 + 1))))))
        (.done (.inr l439.1)))
       (l424.1, 0))
      (fun (e453 : (List SPair)) => Ext.of (.exit 2) [(0, .sl false 8 (List.map tySCandidate.c p0)), (1, .sl false 8 (List.map tySCandidate.c p1)), (6, .ptr 6 0 0), (7, .int .i64 0), (8, .ptr 8 0 0), (9, .ref 600037 0 e453.length), (10, .int .i64 l424.2)] [(6, ⟨4, true, [[.bool false, .nilsl, .nilsl, .nilsl]]⟩), (8, ⟨4, true, [[.bool p2, .sl false 8 (List.map tySCandidate.c p0), .sl false 8 (List.map tySCandidate.c p1), .nilsl]]⟩)] [BT.of 600037 tySPair 4 e453 true] (by rfl))
      (fun e453 =>
       .gh 0 (.ren 600037 600033) (.done (.inl (e453, (wi64 (l424.2 + 1))))))))
     (.done (.inr l424.1)))
    ([], 0))
   (fun (e454 : (List SPair)) => Ext.of (.exit 0) [(6, .ptr 6 0 0), (7, .int .i64 0), (8, .ptr 8 0 0), (9, .ref 600033 0 e454.length)] [(6, ⟨4, true, [[.bool false, .nilsl, .nilsl, .nilsl]]⟩), (8, ⟨4, true, [[.bool p2, .sl false 8 (List.map tySCandidate.c p0), .sl false 8 (List.map tySCandidate.c p1), .nilsl]]⟩)] [BT.of 600033 tySPair 4 e454 true] (by rfl))
   (fun e454 =>
    .gh 1 (.virtC 600039 8 3 4) (.bind 0
    (.lp (fun (l457 : (List SPair) × Int) => Ext.of .normal [(6, .ptr 6 0 0), (7, .int .i64 0), (8, .ptr 8 0 0), (9, .ref 600033 0 e454.length), (15, .int .i64 l457.2)] [(6, ⟨4, true, [[.bool false, .nilsl, .nilsl, .nilsl]]⟩), (8, ⟨4, true, [[.bool p2, .sl false 8 (List.map tySCandidate.c p0), .sl false 8 (List.map tySCandidate.c p1), .ref 600039 0 l457.1.length]]⟩)] [BT.of 600033 tySPair 4 e454 true, BT.of 600039 tySPair 4 l457.1 true] (by rfl))
     (fun l457 =>
      .br 0 (decide (l457.2 < (e454.length : Int)))
      (.bind 2
       (.lp (fun (l462 : Bool × Int) => Ext.of .normal [(6, .ptr 6 0 0), (7, .int .i64 0), (8, .ptr 8 0 0), (9, .ref 600033 0 e454.length), (15, .int .i64 l457.2), (16, .bool l462.1), (17, .int .i64 l462.2)] [(6, ⟨4, true, [[.bool false, .nilsl, .nilsl, .nilsl]]⟩), (8, ⟨4, true, [[.bool p2, .sl false 8 (List.map tySCandidate.c p0), .sl false 8 (List.map tySCandidate.c p1), .ref 600039 0 l457.1.length]]⟩)] [BT.of 600033 tySPair 4 e454 true, BT.of 600039 tySPair 4 l457.1 true] (by rfl))
        (fun l462 =>
         .br 0 (decide (l462.2 < l457.2))
         (.cnd 29 [16]
          (.br 29003 l462.1
           (.done true)
           (.chk 29006 (decide (0 ≤ l457.2) && decide (l457.2 < (e454.length : Int))) (.row 29007 tySPair e454 (0 + l457.2.toNat) true fun x463 =>
            .chk 29010 (decide (0 ≤ l462.2) && decide (l462.2 < (e454.length : Int))) (.row 29011 tySPair e454 (0 + l462.2.toNat) true fun x464 =>
            .view 29012 (s43 (SList.mk p2 p0 p1 l457.1) x463 x464) [(VwW.of 600039 tySPair l457.1)] fun r465 =>
            .done r465))))
          (fun (c466 : Bool) => [.bool c466]) fun c466 =>
          .done (.inl (c466, (wi64 (l462.2 + 1)))))
         (.done (.inr l462.1)))
        (false, 0))
       (fun (e467 : Bool) => Ext.of (.exit 8) [(6, .ptr 6 0 0), (7, .int .i64 0), (8, .ptr 8 0 0), (9, .ref 600033 0 e454.length), (15, .int .i64 l457.2), (16, .bool e467)] [(6, ⟨4, true, [[.bool false, .nilsl, .nilsl, .nilsl]]⟩), (8, ⟨4, true, [[.bool p2, .sl false 8 (List.map tySCandidate.c p0), .sl false 8 (List.map tySCandidate.c p1), .ref 600039 0 l457.1.length]]⟩)] [BT.of 600033 tySPair 4 e454 true, BT.of 600039 tySPair 4 l457.1 true] (by rfl))
       (fun e467 =>
        .cnd 30 [132]
        (.br 30004 (!e467)
         (.done (decide ((l457.1.length : Int) < 36)))
         (.done false))
        (fun (c468 : Bool) => [.bool c468]) fun c468 =>
        .br 0 c468
        (.chk 31005 (decide (0 ≤ l457.2) && decide (l457.2 < (e454.length : Int))) (.row 31006 tySPair e454 (0 + l457.2.toNat) true fun x469 =>
         .app 31008 tySPair l457.1 [x469] 32 false (by intro h; cases h) (.gh 0 (.drop [600039]) (.gh 0 (.ren 140 600039) (.done (.inl ((l457.1 ++ [x469]), (wi64 (l457.2 + 1)))))))))
        (.done (.inl (l457.1, (wi64 (l457.2 + 1)))))))
      (.done (.inr l457.1)))
     ([], 0))
    (fun (e470 : (List SPair)) => Ext.of (.exit 6) [(6, .ptr 6 0 0), (7, .int .i64 0), (8, .ptr 8 0 0)] [(6, ⟨4, true, [[.bool false, .nilsl, .nilsl, .nilsl]]⟩), (8, ⟨4, true, [[.bool p2, .sl false 8 (List.map tySCandidate.c p0), .sl false 8 (List.map tySCandidate.c p1), .ref 600039 0 e470.length]]⟩)] [BT.of 600039 tySPair 4 e470 true] (by rfl))
    (fun e470 =>
     .bind 1
     (.lp (fun (l490 : (List SPair) × Int) => Ext.of .normal [(6, .ptr 6 0 0), (7, .int .i64 0), (8, .ptr 8 0 0), (18, .int .i64 l490.2)] [(6, ⟨4, true, [[.bool false, .nilsl, .nilsl, .nilsl]]⟩), (8, ⟨4, true, [[.bool p2, .sl false 8 (List.map tySCandidate.c p0), .sl false 8 (List.map tySCandidate.c p1), .ref 600039 0 l490.1.length]]⟩)] [BT.of 600039 tySPair 4 l490.1 true] (by rfl))
      (fun l490 =>
       .br 0 (decide (l490.2 < (l490.1.length : Int)))
       (.chk 35006 (decide (0 ≤ l490.2) && decide (l490.2 < (l490.1.length : Int))) (.row 35008 tySPair l490.1 (0 + l490.2.toNat) true fun x491 =>
        .row 35009 tySCandidate p0 x491.fLocal.toNat (decide (0 ≤ x491.fLocal)) fun x492 =>
        .bind 1
        (.lp (fun (l500 : Bool × Int) => Ext.of .normal [(6, .ptr 6 0 0), (7, .int .i64 0), (8, .ptr 8 0 0), (18, .int .i64 l490.2), (19, .int .i64 x492.fComponent), (20, .bool l500.1), (21, .int .i64 l500.2)] [(6, ⟨4, true, [[.bool false, .nilsl, .nilsl, .nilsl]]⟩), (8, ⟨4, true, [[.bool p2, .sl false 8 (List.map tySCandidate.c p0), .sl false 8 (List.map tySCandidate.c p1), .ref 600039 0 l490.1.length]]⟩)] [BT.of 600039 tySPair 4 l490.1 true] (by rfl))
         (fun l500 =>
          .br 0 (decide (l500.2 < (l490.1.length : Int)))
          (.chk 40006 (decide (0 ≤ l500.2) && decide (l500.2 < (l490.1.length : Int))) (.row 40008 tySPair l490.1 (0 + l500.2.toNat) true fun x501 =>
           .row 40009 tySCandidate p0 x501.fLocal.toNat (decide (0 ≤ x501.fLocal)) fun x502 =>
           .cnd 41 [204]
           (.chk 41005 (decide (0 ≤ l490.2) && decide (l490.2 < (l490.1.length : Int))) (.row 41006 tySPair l490.1 (0 + l490.2.toNat) true fun x503 =>
            .chk 41010 (decide (0 ≤ l500.2) && decide (l500.2 < (l490.1.length : Int))) (.row 41011 tySPair l490.1 (0 + l500.2.toNat) true fun x504 =>
            .view 41012 (s44 (SList.mk p2 p0 p1 l490.1) x503 x504) [(VwW.of 600039 tySPair l490.1)] fun r505 =>
            .br 41014 r505
            (.br 41018 (decide (x502.fComponent < x492.fComponent))
             (.done true)
             (.br 41022 (x502.fComponent == x492.fComponent)
              (.done (decide (l500.2 < l490.2)))
              (.done false)))
            (.done false))))
           (fun (c506 : Bool) => [.bool c506]) fun c506 =>
           .br 0 c506
           (.done (.inl (false, (wi64 (l500.2 + 1)))))
           (.done (.inl (l500.1, (wi64 (l500.2 + 1)))))))
          (.done (.inr l500.1)))
         (true, 0))
        (fun (e507 : Bool) => Ext.of (.exit 12) [(6, .ptr 6 0 0), (7, .int .i64 0), (8, .ptr 8 0 0), (18, .int .i64 l490.2), (20, .bool e507)] [(6, ⟨4, true, [[.bool false, .nilsl, .nilsl, .nilsl]]⟩), (8, ⟨4, true, [[.bool p2, .sl false 8 (List.map tySCandidate.c p0), .sl false 8 (List.map tySCandidate.c p1), .ref 600039 0 l490.1.length]]⟩)] [BT.of 600039 tySPair 4 l490.1 true] (by rfl))
        (fun e507 =>
         .br 0 e507
         (.chk 44004 (decide (0 ≤ l490.2) && decide (l490.2 < (l490.1.length : Int))) (.row 44006 tySPair l490.1 (0 + l490.2.toNat) true fun x508 =>
          .re 44006 (ReW.put 600039 4 tySPair l490.1 (0 + l490.2.toNat) (SPair.mk x508.fLocal x508.fRemote x508.fPriority 1)) (.gh 36 (.len 600039 ((l490.1.set (0 + l490.2.toNat) (SPair.mk x508.fLocal x508.fRemote x508.fPriority 1)).length) [l490.1.length] (by simp)) (.done (.inl ((l490.1.set (0 + l490.2.toNat) (SPair.mk x508.fLocal x508.fRemote x508.fPriority 1)), (wi64 (l490.2 + 1))))))))
         (.done (.inl (l490.1, (wi64 (l490.2 + 1))))))))
       (.done (.inr l490.1)))
      (e470, 0))
     (fun (e509 : (List SPair)) => Ext.of (.exit 10) [(6, .ptr 6 0 0), (7, .int .i64 0), (8, .ptr 8 0 0)] [(6, ⟨4, true, [[.bool false, .nilsl, .nilsl, .nilsl]]⟩), (8, ⟨4, true, [[.bool p2, .sl false 8 (List.map tySCandidate.c p0), .sl false 8 (List.map tySCandidate.c p1), .ref 600039 0 e509.length]]⟩)] [BT.of 600039 tySPair 4 e509 true] (by rfl))
     (fun e509 =>
      .gh 0 (.share (VwW.of 600039 tySPair e509) 1) (.done ((SList.mk p2 p0 p1 e509), 0)))))))))
theorem k12 (p0 : (List SCandidate)) (p1 : (List SCandidate)) (p2 : Bool) : FnD Tryz.prog GG [0, 1, 2, 6, 7, 8, 9, 10, 11, 12, 13, 14, 15, 16, 17, 18, 19, 20, 21, 22, 30, 39, 48, 54, 68, 85, 104, 109, 132, 146, 164, 204, 205] Tryz.f12 [.sl false 8 (List.map tySCandidate.c p0), .sl false 8 (List.map tySCandidate.c p1), .bool p2] (g12 p0 p1 p2) (fun r => .tup [.agg [.bool r.1.fControlling, .sl false 8 (List.map tySCandidate.c r.1.fLocals), .sl false 8 (List.map tySCandidate.c r.1.fRemotes), .sl false 4 (List.map tySPair.c r.1.fPairs)], .int .i64 r.2]) := by unfold FnD; kernel_rfl
noncomputable def s12 (p0 : (List SCandidate)) (p1 : (List SCandidate)) (p2 : Bool) : EV.Spec Tryz.prog GG (SList × Int) := .ofFn 12 mixed Tryz.func12 (k12 p0 p1 p2)
noncomputable def g13 (p0 : SList) (p1 : SList) : TT (Bool) :=
 .cnd 1 [35]
 (.br 1007 (!(p0.fControlling == p1.fControlling))
  (.done true)
  (.call 1011 (s45 p0.fLocals p1.fLocals) [] [] fun r524 =>
   .br 1015 (!r524)
   (.done true)
   (.call 1019 (s45 p0.fRemotes p1.fRemotes) [] [] fun r525 =>
    .br 1023 (!r525)
    (.done true)
    (.done ((mlen tySPair p0.fPairs) != (mlen tySPair p1.fPairs))))))
 (fun (c526 : Bool) => [.bool c526]) fun c526 =>
 .br 0 c526
 (.done false)
 (.bind2 1
  (.lp (fun (l530 : Int) => Ext.lit .normal [(2, .ptr 2 0 0), (3, .ptr 3 0 0), (4, .bool false), (5, .int .i64 l530)] [(2, ⟨4, true, [[.bool p0.fControlling, .sl false 8 (List.map tySCandidate.c p0.fLocals), .sl false 8 (List.map tySCandidate.c p0.fRemotes), .sl false 4 (List.map tySPair.c p0.fPairs)]]⟩), (3, ⟨4, true, [[.bool p1.fControlling, .sl false 8 (List.map tySCandidate.c p1.fLocals), .sl false 8 (List.map tySCandidate.c p1.fRemotes), .sl false 4 (List.map tySPair.c p1.fPairs)]]⟩)])
   (fun l530 =>
    .br 0 (decide (l530 < (mlen tySPair p0.fPairs)))
    (.row 6004 tySPair p0.fPairs l530.toNat (decide (0 ≤ l530)) fun x531 =>
     .row 6009 tySPair p1.fPairs l530.toNat (decide (0 ≤ l530)) fun x532 =>
     .br 0 (!((x531.fLocal == x532.fLocal) && ((x531.fRemote == x532.fRemote) && ((x531.fPriority == x532.fPriority) && ((x531.fState == x532.fState) && true)))))
     (.done (.inr (.inl ())))
     (.done (.inl (wi64 (l530 + 1)))))
    (.done (.inr (.inr ()))))
   0)
  (fun (_ : Unit) => Ext.lit .ret [(4, .bool false)] [])
  (fun (_ : Unit) => Ext.lit (.exit 0) [(4, .bool false)] [])
  (fun _ =>
   .done false)
  (fun _ =>
   .done true))
theorem k13 (p0 : SList) (p1 : SList) : FnD Tryz.prog GG [0, 1, 2, 3, 4, 5, 35, 40, 53] Tryz.f13 [.agg [.bool p0.fControlling, .sl false 8 (List.map tySCandidate.c p0.fLocals), .sl false 8 (List.map tySCandidate.c p0.fRemotes), .sl false 4 (List.map tySPair.c p0.fPairs)], .agg [.bool p1.fControlling, .sl false 8 (List.map tySCandidate.c p1.fLocals), .sl false 8 (List.map tySCandidate.c p1.fRemotes), .sl false 4 (List.map tySPair.c p1.fPairs)]] (g13 p0 p1) (fun r => .bool r) := by unfold FnD; kernel_rfl
noncomputable def s13 (p0 : SList) (p1 : SList) : EV.Spec Tryz.prog GG (Bool) := .ofFn 13 mixed Tryz.func13 (k13 p0 p1)
end Go.Proofs.YtioobnkmohikjaaGreatDoor
namespace Go.Proofs.YtioobnkmohikjaaGreatDoor
open Go Go.EV
set_option maxRecDepth 100000
open Classical
theorem okSAMEC (l : List SCandidate) (hl : l.length ≤ 1000000) : SOk (s45 l l) (fun b => b = true) := by
 show Ok (g45 l l) _
 unfold g45
 simp only [mlen_eq]
 refine Ok.brF (by simp) (Ok.bind2 (R := fun e => match e with | .inl _ => False | .inr _ => True) ?_ (fun e he => he.elim) (fun e he => Ok.done rfl))
 refine Ok.scan l.length hl (fun k y => y = (k : Int)) rfl (fun k y hy hk => ?_) (fun y hy => ?_)
 ·subst hy
  refine Ok.br (fun hc => ?_) (fun hc => by simp at hc; omega)
  obtain ⟨x, hx1, hx2⟩ := get_lt hk
  exact Ok.row (by simp) hx1 (Ok.row (by simp) hx1 (Ok.brF (by simp) (Ok.done (wi64_nat hk hl))))
 ·subst hy
  exact Ok.br (fun hc => by simp at hc) (fun hc => Ok.done trivial)
theorem okSAME (l : SList) (h1 : l.fLocals.length ≤ 1000000) (h2 : l.fRemotes.length ≤ 1000000) (h3 : l.fPairs.length ≤ 1000000) : SOk (s13 l l) (fun b => b = true) := by
 show Ok (g13 l l) _
 unfold g13
 simp only [mlen_eq]
 refine Ok.cnd (R := fun c => c = false) (Ok.brF (by simp) (Ok.call (okSAMEC _ h1) fun r hr => Ok.brF (by rw [hr]; rfl) (Ok.call (okSAMEC _ h2) fun r hr => Ok.brF (by rw [hr]; rfl) (Ok.done (by simp))))) fun c hc => ?_
 refine Ok.brF hc (Ok.bind2 (R := fun e => match e with | .inl _ => False | .inr _ => True) ?_ (fun e he => he.elim) (fun e he => Ok.done rfl))
 refine Ok.scan l.fPairs.length h3 (fun k y => y = (k : Int)) rfl (fun k y hy hk => ?_) (fun y hy => ?_)
 ·subst hy
  refine Ok.br (fun hc => ?_) (fun hc => by simp at hc; omega)
  obtain ⟨x, hx1, hx2⟩ := get_lt hk
  exact Ok.row (by simp) hx1 (Ok.row (by simp) hx1 (Ok.brF (by simp) (Ok.done (wi64_nat hk h3))))
 ·subst hy
  exact Ok.br (fun hc => by simp at hc) (fun hc => Ok.done trivial)
end Go.Proofs.YtioobnkmohikjaaGreatDoor
namespace Go.Proofs.YtioobnkmohikjaaGreatDoor
open Go Go.EV
set_option maxRecDepth 100000
open Classical
theorem okPLACE (p : Int) : SOk (s59 p) (fun r => r.fHost.size ≤ 16) := by
 show Ok (g59 p) _
 unfold g59
 exact Ok.br (fun _ => Ok.done (by rw [strOfNums_size]; simp only [List.length_cons, List.length_nil]; omega)) (fun _ => Ok.done (by rw [strOfNums_size]; simp only [List.length_cons, List.length_nil]; omega))
theorem okITOA (n : Int) (h : 1 ≤ n ∧ n ≤ 4) : SOk (s80 n) (fun r => r.size ≤ 100) := by
 have h1 : SOk (s103 n) (fun r => r.size ≤ 100) := by
  show Ok (g103 n) _
  unfold g103
  refine Ok.brT (by simp; omega) (Ok.chk ?_ (Ok.done ?_))
  ·rw [wi64_id (by omega) (by omega)]; simp; omega
  ·rw [ByteArray.size_extract, wi64_id (by omega) (by omega)]; omega
 have h2 : SOk (s97 n 10) (fun r => r.size ≤ 100) := by
  show Ok (g97 n 10) _
  unfold g97
  refine Ok.brT rfl (Ok.cnd (R := fun c => c = true) (Ok.brT (by simp; omega) (Ok.done (by simp; omega))) fun c hc => ?_)
  subst hc
  exact Ok.brT rfl (Ok.call h1 fun r hr => Ok.done hr)
 have h3 : SOk (s86 n) (fun r => r.size ≤ 100) := by
  show Ok (g86 n) _
  unfold g86
  exact Ok.call h2 fun r hr => Ok.done hr
 show Ok (g80 n) _
 unfold g80
 exact Ok.call h3 fun r hr => Ok.done hr
theorem okHEX (s : ByteArray) (h : s.size ≤ 100000) : SOk (s81 s) (fun r => r.size ≤ 200000) := by
 show Ok (g81 s) _
 unfold g81
 have e : wi64 ((2 : Int) * (s.size : Int)) = 2 * (s.size : Int) := wi64_id (by omega) (by omega)
 refine Ok.opr (r := ()) (by rw [e]; simp only [Rule.makeD]; rw [show (decide ((0 : Int) ≤ 0) && decide ((0 : Int) ≤ 2 * (s.size : Int)) && decide (1 * (2 * (s.size : Int)).toNat ≤ 281474976710656) && decide (2 * (s.size : Int) ≤ 9223372036854775807)) = true from by simp; omega]; rfl) ?_
 refine Ok.gh (Ok.bind (R := fun l => l.length ≤ 2 * s.size) ?_ fun e he => Ok.opr (r := ()) rfl (Ok.done (by rw [strOfNums_size]; omega)))
 refine Ok.scan s.size (by omega) (fun k y => y.2 = (k : Int) ∧ y.1.length = 2 * k) ⟨rfl, rfl⟩ (fun k y hy hk => ?_) (fun y hy => ?_)
 ·obtain ⟨hi, hs⟩ := hy
  obtain ⟨y1, y2⟩ := y
  simp only at hi hs
  subst hi
  have hb := bAt_lt s (k : Int)
  have hq : (wu8 (Int.tdiv (bAt s (k : Int)) 16)) = bAt s (k : Int) / 16 := by
   rw [Int.tdiv_eq_ediv_of_nonneg hb.1]
   unfold wu8 IntKind.wrap
   simp [IntKind.signed, IntKind.bits]
   omega
  have hm : Int.tmod (bAt s (k : Int)) 16 = bAt s (k : Int) % 16 := Int.tmod_eq_emod_of_nonneg hb.1
  refine Ok.br (fun hc => ?_) (fun hc => by simp at hc; omega)
  refine Ok.chk (by simp; omega) (Ok.chk (by rw [hq]; simp [bs, ByteArray.size]; omega) (Ok.chk (by simp; omega) (Ok.chk (by rw [hm]; simp [bs, ByteArray.size]; omega) (Ok.app ?_ (Ok.gh (Ok.gh (Ok.done ⟨wi64_nat hk (by omega), ?_⟩)))))))
  ·simp [hs]; omega
  ·simp [hs]; omega
 ·obtain ⟨hi, hs⟩ := hy
  obtain ⟨y1, y2⟩ := y
  simp only at hi hs
  subst hi
  exact Ok.br (fun hc => by simp at hc) (fun hc => Ok.done (by show y1.length ≤ _; omega))
theorem okRFOUND (k : Int) (b s : SAddr) (hb : b.fHost.size ≤ 100000) (hs : s.fHost.size ≤ 100000) : SOk (s72 k b s) (fun _ => True) := by
 show Ok (g72 k b s) _
 unfold g72
 refine Ok.cnd (R := fun c => c = false → 1 ≤ k ∧ k ≤ 4) ?_ fun c hc => ?_
 ·refine Ok.br (fun h1 => Ok.done fun h => by simp at h) (fun h1 => Ok.br (fun h2 => Ok.done fun h => by simp at h) (fun h2 => ?_))
  simp only [decide_eq_false_iff_not] at h1 h2
  have hk : 1 ≤ k ∧ k ≤ 4 := ⟨by omega, by omega⟩
  exact Ok.call (okRUSABLE _) fun r hr => Ok.br (fun _ => Ok.done fun _ => hk) (fun _ => Ok.br (fun _ => Ok.call (okRUSABLE _) fun r hr => Ok.done fun _ => hk) (fun _ => Ok.done fun _ => hk))
 ·refine Ok.br (fun _ => Ok.done trivial) (fun h => ?_)
  have hk := hc h
  have h1 : (bs [45]).size = 1 := rfl
  refine Ok.call (okITOA k hk) fun r hr => Ok.chk (by simp only [decide_eq_true_eq]; omega) (Ok.call (okHEX _ hb) fun r2 hr2 => ?_)
  refine Ok.chk (by simp only [decide_eq_true_eq, ByteArray.size_append]; omega) (Ok.chk (by simp only [decide_eq_true_eq, ByteArray.size_append]; omega) (Ok.call (okHEX _ hs) fun r3 hr3 => Ok.chk (by simp only [decide_eq_true_eq, ByteArray.size_append]; omega) (Ok.done trivial)))
theorem okRPRI9 (k p c : Int) : SOk (s73 k p c) (fun _ => True) := by
 show Ok (g73 k p c) _
 unfold g73
 refine Ok.cnd (R := fun c => c = false → 1 ≤ k ∧ k ≤ 4) ?_ fun c hc => ?_
 ·refine Ok.br (fun h1 => Ok.done fun h => by simp at h) (fun h1 => Ok.br (fun h2 => Ok.done fun h => by simp at h) (fun h2 => ?_))
  simp only [decide_eq_false_iff_not] at h1 h2
  have hk : 1 ≤ k ∧ k ≤ 4 := ⟨by omega, by omega⟩
  exact Ok.br (fun _ => Ok.done fun _ => hk) (fun _ => Ok.br (fun _ => Ok.done fun _ => hk) (fun _ => Ok.br (fun _ => Ok.done fun _ => hk) (fun _ => Ok.done fun _ => hk)))
 ·refine Ok.br (fun _ => Ok.done trivial) (fun h => ?_)
  have hk := hc h
  have : k = 1 ∨ k = 2 ∨ k = 3 ∨ k = 4 := by omega
  rcases this with rfl | rfl | rfl | rfl
  all_goals exact Ok.ceq rfl (Ok.br (fun _ => Ok.done trivial) (fun _ => Ok.done trivial))
theorem okRNEW (k : Int) (a b s : SAddr) (p c : Int) (hb : b.fHost.size ≤ 100000) (hs : s.fHost.size ≤ 100000) : SOk (s60 k a b s p c) (fun _ => True) := by
 show Ok (g60 k a b s p c) _
 unfold g60
 refine Ok.call (okRFOUND k b s hb hs) fun r _ => Ok.br (fun _ => Ok.done trivial) (fun _ => Ok.call (okRPRI9 _ _ _) fun r2 _ => Ok.br (fun _ => Ok.done trivial) (fun _ => Ok.call (okRCAND _) fun r3 _ => Ok.br (fun _ => Ok.done trivial) (fun _ => Ok.done trivial)))
theorem okDCAND (d : SDraft) : SOk (s29 d) (fun _ => True) := by
 show Ok (g29 d) _
 unfold g29
 refine Ok.call (okPLACE _) fun a ha => Ok.call (okPLACE _) fun b hb => Ok.cnd (R := fun _ => True) ?_ fun c _ => ?_
 ·exact Ok.br (fun _ => Ok.done trivial) (fun _ => Ok.br (fun _ => Ok.done trivial) (fun _ => Ok.done trivial))
 refine Ok.bind (R := fun e => e.1.size ≤ 16) (Ok.br (fun _ => Ok.done ha) (fun _ => Ok.done hb)) fun e he => ?_
 refine Ok.cnd (R := fun _ => True) (Ok.br (fun _ => Ok.done trivial) (fun _ => Ok.done trivial)) fun c2 _ => ?_
 refine Ok.bind (R := fun e => e.1.size ≤ 16) (Ok.br (fun _ => Ok.call (okPLACE _) fun q hq => Ok.done hq) (fun _ => Ok.done (by show (0 : Nat) ≤ 16; omega))) fun e2 he2 => ?_
 exact Ok.call (okRNEW _ _ _ _ _ _ (by show e.1.size ≤ _; omega) (by show e2.1.size ≤ _; omega)) fun r _ => Ok.done trivial
theorem okBENDC (b : SBend) (c : SCandidate) : SOk (s9 b c) (fun _ => True) := by
 show Ok (g9 b c) _
 unfold g9
 exact Ok.br (fun _ => Ok.done trivial) (fun _ => Ok.br (fun _ => Ok.done trivial) (fun _ => Ok.br (fun _ => Ok.done trivial) (fun _ => Ok.br (fun _ => Ok.done trivial) (fun _ => Ok.br (fun _ => Ok.done trivial) (fun _ => Ok.done trivial)))))
theorem bif_ok {p : Prop} [Decidable p] (h : p) : (bif decide p then some () else none) = some () := by rw [decide_eq_true h]; rfl
def Few (a b c : Nat) (l : SList) : Prop := l.fLocals.length ≤ a ∧ l.fRemotes.length ≤ b ∧ l.fPairs.length ≤ c
theorem okCUT (l : List SCandidate) : SOk (s10 l) (fun r => r.length ≤ 14) := by
 show Ok (g10 l) _
 unfold g10
 simp only [mlen_eq, mlenn_eq]
 have hn : ∃ n, n ≤ 14 ∧ n ≤ l.length ∧ (if (14 : Int) < (l.length : Int) then (14 : Int) else (l.length : Int)) = (n : Int) := by
  by_cases h : (14 : Int) < (l.length : Int)
  ·exact ⟨14, by omega, by omega, if_pos h⟩
  ·exact ⟨l.length, by omega, Nat.le_refl _, if_neg h⟩
 obtain ⟨n, h14, hnl, e⟩ := hn
 rw [e]
 refine Ok.chk (by simp; omega) (Ok.re (Ok.gh (Ok.bind (R := fun r => r.length ≤ 14) ?_ fun e he => Ok.gh (Ok.done he))))
 have hL : (l.take n).length = n := by rw [List.length_take]; omega
 rw [Int.toNat_natCast, hL]
 refine Ok.scan n (by omega) (fun k y => y.2 = (k : Int) ∧ y.1.length = k) ⟨rfl, rfl⟩ (fun k y hy hk => ?_) (fun y hy => ?_)
 ·obtain ⟨hi, hs⟩ := hy
  obtain ⟨y1, y2⟩ := y
  simp only at hi hs
  subst hi
  refine Ok.br (fun hc => ?_) (fun hc => by simp at hc; omega)
  obtain ⟨x, hx1, hx2⟩ := get_lt (show k < (l.take n).length by omega)
  have hf : ∃ q : Int, 0 ≤ q ∧ q ≤ (x.fFoundation.size : Int) ∧ (if (100 : Int) < (x.fFoundation.size : Int) then (100 : Int) else (x.fFoundation.size : Int)) = q := by
   by_cases h : (100 : Int) < (x.fFoundation.size : Int)
   ·exact ⟨100, by omega, by omega, if_pos h⟩
   ·exact ⟨_, by omega, Int.le_refl _, if_neg h⟩
  obtain ⟨q, q1, q2, q3⟩ := hf
  refine Ok.row (by simp) hx1 (Ok.chk (by rw [q3]; simp; exact ⟨q1, q2⟩) (Ok.app (by simp [hs]; omega) (Ok.gh (Ok.gh (Ok.done ⟨wi64_nat hk (by omega), by simp [hs]⟩)))))
 ·obtain ⟨hi, hs⟩ := hy
  obtain ⟨y1, y2⟩ := y
  simp only at hi hs
  subst hi
  exact Ok.br (fun hc => by simp at hc) (fun hc => Ok.done (by show y1.length ≤ 14; omega))
theorem modAt {at_ : Int} {n : Nat} (h0 : 0 ≤ at_) (h1 : at_ ≤ 255) (hn : 0 < n) : ∃ k : Nat, k < n ∧ Int.tmod (wi64 at_) (n : Int) = (k : Int) := by
 rw [wi64_id (by omega) (by omega), Int.tmod_eq_emod_of_nonneg h0]
 have h2 := Int.emod_nonneg at_ (show (n : Int) ≠ 0 by omega)
 have h3 := Int.emod_lt_of_pos at_ (show (0 : Int) < n by omega)
 exact ⟨(at_ % (n : Int)).toNat, by omega, by omega⟩
end Go.Proofs.YtioobnkmohikjaaGreatDoor
namespace Go.Proofs.YtioobnkmohikjaaGreatDoor
open Go Go.EV
set_option maxRecDepth 100000
structure SEnt90 where
 fk : S2String
 fv : Int
def tySEnt90 : Ty SEnt90 := ⟨fun x => [.str x.fk.a0, .str x.fk.a1, .int .i64 x.fv], fun x => [.str x.fk.a0, .str x.fk.a1, .int .i64 x.fv], fun _ => rfl, fun _ => rfl, fun _ _ => rfl, fun _ => rfl⟩
noncomputable def g56_1 (p0 : Bool) (p1 : (List SCandidate)) (p2 : (List SCandidate)) (p3 : SPair) : TT (Int) :=
 .row 1008 tySCandidate p1 p3.fLocal.toNat (decide (0 ≤ p3.fLocal)) fun x542 =>
 .row 1018 tySCandidate p2 p3.fRemote.toNat (decide (0 ≤ p3.fRemote)) fun x543 =>
 .bind 0
 (.br 0 (!p0)
  (.done (x543.fPriority, x542.fPriority))
  (.done (x542.fPriority, x543.fPriority)))
 (fun (e544 : Int × Int) => Ext.lit .normal [(4, .int .i64 0), (5, .int .i64 e544.1), (6, .int .i64 e544.2)] [])
 (fun e544 =>
  .call 4003 (s71 e544.1 e544.2) [] [] fun r545 =>
  .done r545.1)
theorem k56_1 (p0 : Bool) (p1 : (List SCandidate)) (p2 : (List SCandidate)) (p3 : SPair) : FnD Tryz.prog GG [0, 1, 3, 4, 5, 6, 7, 34] Tryz.f56 [.snap [.bool p0, .sl false 8 (List.map tySCandidate.c p1), .sl false 8 (List.map tySCandidate.c p2), .nilsl], .agg [.int .i64 p3.fLocal, .int .i64 p3.fRemote, .int .i64 p3.fPriority, .int .i64 p3.fState]] (g56_1 p0 p1 p2 p3) (fun r => .int .i64 r) := by unfold FnD; kernel_rfl
noncomputable def s56_1 (p0 : Bool) (p1 : (List SCandidate)) (p2 : (List SCandidate)) (p3 : SPair) : EV.Spec Tryz.prog GG (Int) := .ofFn 56 mixed Tryz.func56 (k56_1 p0 p1 p2 p3)
noncomputable def g34 (p0 : SPair) (p1 : SPair) : TT (Int) :=
 .call 1005 (s35 p1.fPriority p0.fPriority) [] [] fun r551 =>
 .done r551
theorem k34 (p0 : SPair) (p1 : SPair) : FnD Tryz.prog GG [0, 1, 2, 3, 4] Tryz.f34 [.agg [.int .i64 p0.fLocal, .int .i64 p0.fRemote, .int .i64 p0.fPriority, .int .i64 p0.fState], .agg [.int .i64 p1.fLocal, .int .i64 p1.fRemote, .int .i64 p1.fPriority, .int .i64 p1.fState]] (g34 p0 p1) (fun r => .int .i64 r) := by unfold FnD; kernel_rfl
noncomputable def s34 (p0 : SPair) (p1 : SPair) : EV.Spec Tryz.prog GG (Int) := .ofFn 34 mixed Tryz.func34 (k34 p0 p1)
noncomputable def g76 (p0 : Nat) (p1 : Int) (p2 : Int) (p3 : (List SPair)) : TT ((List SPair)) :=
 .bind 1
 (.lp (fun (l587 : (List SPair) × Int) => Ext.of .normal [(0, .ref 1000000 0 p0), (1, .int .i64 p1), (2, .int .i64 p2), (3, .fn 34 [] []), (8, .int .i64 l587.2)] [] [BT.of 1000000 tySPair 4 l587.1 true] (by rfl))
  (fun l587 =>
   .br 0 (decide (l587.2 < p2))
   (.bind 2
    (.lp (fun (l597 : (List SPair) × Int) => Ext.of .normal [(0, .ref 1000000 0 p0), (1, .int .i64 p1), (2, .int .i64 p2), (3, .fn 34 [] []), (8, .int .i64 l587.2), (9, .int .i64 l597.2)] [] [BT.of 1000000 tySPair 4 l597.1 true] (by rfl))
     (fun l597 =>
      .cnd 4 [34]
      (.br 4005 (decide (p1 < l597.2))
       (.chk 4008 (decide (0 ≤ l597.2) && decide (l597.2 < (p0 : Int))) (.row 4009 tySPair l597.1 (0 + l597.2.toNat) true fun x598 =>
        .chk 4013 (decide (0 ≤ (wi64 (l597.2 - 1))) && decide ((wi64 (l597.2 - 1)) < (p0 : Int))) (.row 4014 tySPair l597.1 (0 + (wi64 (l597.2 - 1)).toNat) true fun x599 =>
        .call 4015 (s34 x598 x599) [] [] fun r600 =>
        .done (decide (r600 < 0)))))
       (.done false))
      (fun (c601 : Bool) => [.bool c601]) fun c601 =>
      .br 0 c601
      (.chk 6009 (decide (0 ≤ (wi64 (l597.2 - 1))) && decide ((wi64 (l597.2 - 1)) < (p0 : Int))) (.row 6010 tySPair l597.1 (0 + (wi64 (l597.2 - 1)).toNat) true fun x602 =>
       .chk 6013 (decide (0 ≤ l597.2) && decide (l597.2 < (p0 : Int))) (.row 6014 tySPair l597.1 (0 + l597.2.toNat) true fun x603 =>
       .chk 6015 (decide (0 ≤ l597.2) && decide (l597.2 < (p0 : Int))) (.row 6016 tySPair l597.1 (0 + l597.2.toNat) true fun x604 =>
       .re 6016 (ReW.put 1000000 4 tySPair l597.1 (0 + l597.2.toNat) x602) (.chk 6017 (decide (0 ≤ (wi64 (l597.2 - 1))) && decide ((wi64 (l597.2 - 1)) < (p0 : Int))) (.row 6018 tySPair (l597.1.set (0 + l597.2.toNat) x602) (0 + (wi64 (l597.2 - 1)).toNat) true fun x605 =>
       .re 6018 (ReW.put 1000000 4 tySPair (l597.1.set (0 + l597.2.toNat) x602) (0 + (wi64 (l597.2 - 1)).toNat) x603) (.done (.inl (((l597.1.set (0 + l597.2.toNat) x602).set (0 + (wi64 (l597.2 - 1)).toNat) x603), (wi64 (l597.2 - 1)))))))))))
      (.done (.inr l597.1)))
     (l587.1, l587.2))
    (fun (e606 : (List SPair)) => Ext.of (.exit 2) [(0, .ref 1000000 0 p0), (1, .int .i64 p1), (2, .int .i64 p2), (3, .fn 34 [] []), (8, .int .i64 l587.2)] [] [BT.of 1000000 tySPair 4 e606 true] (by rfl))
    (fun e606 =>
     .done (.inl (e606, (wi64 (l587.2 + 1))))))
   (.done (.inr l587.1)))
  (p3, (wi64 (p1 + 1))))
 (fun (e607 : (List SPair)) => Ext.of (.exit 0) [] [] [BT.of 1000000 tySPair 4 e607 true] (by rfl))
 (fun e607 =>
  .done e607)
theorem k76 (p0 : Nat) (p1 : Int) (p2 : Int) (p3 : (List SPair)) : FnB Tryz.prog GG [0, 1, 2, 3, 8, 9, 14, 34] Tryz.f76 [.ref 1000000 0 p0, .int .i64 p1, .int .i64 p2, .fn 34 [] []] (Ext.of .normal (argTs [.ref 1000000 0 p0, .int .i64 p1, .int .i64 p2, .fn 34 [] []]) [] [BT.of 1000000 tySPair 4 p3 true] (by rfl)) (g76 p0 p1 p2 p3) (fun (_ : (List SPair)) => .tup []) (fun (r : (List SPair)) => Ext.of .normal [] [] [BT.of 1000000 tySPair 4 r true] (by rfl)) := by unfold FnB; kernel_rfl
noncomputable def s76 (p0 : Nat) (p1 : Int) (p2 : Int) (p3 : (List SPair)) : EV.Spec Tryz.prog GG ((List SPair)) := .ofFnB 76 [1000000] mixed Tryz.func76 rfl (fun _ => rfl) (k76 p0 p1 p2 p3)
noncomputable def g95 (p0 : Nat) (p1 : Int) (p2 : Int) (p3 : Int) (p4 : (List SPair)) : TT ((List SPair)) :=
 .bind 1
 (.lp (fun (l671 : (List SPair) × Int) => Ext.of .normal [(0, .ref 1000000 0 p0), (1, .int .i64 p1), (2, .int .i64 p2), (3, .int .i64 p3), (10, .int .i64 l671.2)] [] [BT.of 1000000 tySPair 4 l671.1 true] (by rfl))
  (fun l671 =>
   .br 0 (decide (l671.2 < p3))
   (.chk 3013 (decide (0 ≤ (wi64 (p2 + l671.2))) && decide ((wi64 (p2 + l671.2)) < (p0 : Int))) (.row 3014 tySPair l671.1 (0 + (wi64 (p2 + l671.2)).toNat) true fun x672 =>
    .chk 3019 (decide (0 ≤ (wi64 (p1 + l671.2))) && decide ((wi64 (p1 + l671.2)) < (p0 : Int))) (.row 3020 tySPair l671.1 (0 + (wi64 (p1 + l671.2)).toNat) true fun x673 =>
    .chk 3021 (decide (0 ≤ (wi64 (p1 + l671.2))) && decide ((wi64 (p1 + l671.2)) < (p0 : Int))) (.row 3022 tySPair l671.1 (0 + (wi64 (p1 + l671.2)).toNat) true fun x674 =>
    .re 3022 (ReW.put 1000000 4 tySPair l671.1 (0 + (wi64 (p1 + l671.2)).toNat) x672) (.chk 3023 (decide (0 ≤ (wi64 (p2 + l671.2))) && decide ((wi64 (p2 + l671.2)) < (p0 : Int))) (.row 3024 tySPair (l671.1.set (0 + (wi64 (p1 + l671.2)).toNat) x672) (0 + (wi64 (p2 + l671.2)).toNat) true fun x675 =>
    .re 3024 (ReW.put 1000000 4 tySPair (l671.1.set (0 + (wi64 (p1 + l671.2)).toNat) x672) (0 + (wi64 (p2 + l671.2)).toNat) x673) (.done (.inl (((l671.1.set (0 + (wi64 (p1 + l671.2)).toNat) x672).set (0 + (wi64 (p2 + l671.2)).toNat) x673), (wi64 (l671.2 + 1)))))))))))
   (.done (.inr l671.1)))
  (p4, 0))
 (fun (e676 : (List SPair)) => Ext.of (.exit 0) [] [] [BT.of 1000000 tySPair 4 e676 true] (by rfl))
 (fun e676 =>
  .done e676)
theorem k95 (p0 : Nat) (p1 : Int) (p2 : Int) (p3 : Int) (p4 : (List SPair)) : FnB Tryz.prog GG [0, 1, 2, 3, 10, 13] Tryz.f95 [.ref 1000000 0 p0, .int .i64 p1, .int .i64 p2, .int .i64 p3, .fn 34 [] []] (Ext.of .normal (argTs [.ref 1000000 0 p0, .int .i64 p1, .int .i64 p2, .int .i64 p3, .fn 34 [] []]) [] [BT.of 1000000 tySPair 4 p4 true] (by rfl)) (g95 p0 p1 p2 p3 p4) (fun (_ : (List SPair)) => .tup []) (fun (r : (List SPair)) => Ext.of .normal [] [] [BT.of 1000000 tySPair 4 r true] (by rfl)) := by unfold FnB; kernel_rfl
noncomputable def s95 (p0 : Nat) (p1 : Int) (p2 : Int) (p3 : Int) (p4 : (List SPair)) : EV.Spec Tryz.prog GG ((List SPair)) := .ofFnB 95 [1000000] mixed Tryz.func95 rfl (fun _ => rfl) (k95 p0 p1 p2 p3 p4)
noncomputable def g84 (p0 : Nat) (p1 : Int) (p2 : Int) (p3 : Int) (p4 : (List SPair)) : TT ((List SPair)) :=
 .bind 1
 (.lp (fun (l672 : (List SPair) × Int × Int) => Ext.of .normal [(0, .ref 1000000 0 p0), (2, .int .i64 p2), (4, .fn 34 [] []), (10, .int .i64 l672.2.1), (11, .int .i64 l672.2.2)] [] [BT.of 1000000 tySPair 4 l672.1 true] (by rfl))
  (fun l672 =>
   .br 0 (l672.2.1 != l672.2.2)
   (.br 0 (decide (l672.2.2 < l672.2.1))
    (.call 4008 (s95 p0 (wi64 (p2 - l672.2.1)) p2 l672.2.2 l672.1) [(1000000, 1000000)] [] fun r677 =>
     .done (.inl (r677, (wi64 (l672.2.1 - l672.2.2)), l672.2.2)))
    (.call 6012 (s95 p0 (wi64 (p2 - l672.2.1)) (wi64 ((wi64 (p2 + l672.2.2)) - l672.2.1)) l672.2.1 l672.1) [(1000000, 1000000)] [] fun r682 =>
     .done (.inl (r682, l672.2.1, (wi64 (l672.2.2 - l672.2.1))))))
   (.done (.inr (l672.1, l672.2.1))))
  (p4, (wi64 (p2 - p1)), (wi64 (p3 - p2))))
 (fun (e683 : (List SPair) × Int) => Ext.of (.exit 0) [(0, .ref 1000000 0 p0), (2, .int .i64 p2), (4, .fn 34 [] []), (10, .int .i64 e683.2)] [] [BT.of 1000000 tySPair 4 e683.1 true] (by rfl))
 (fun e683 =>
  .call 8008 (s95 p0 (wi64 (p2 - e683.2)) p2 e683.2 e683.1) [(1000000, 1000000)] [] fun r688 =>
  .done r688)
theorem k84 (p0 : Nat) (p1 : Int) (p2 : Int) (p3 : Int) (p4 : (List SPair)) : FnB Tryz.prog GG [0, 1, 2, 3, 4, 10, 11, 20, 23] Tryz.f84 [.ref 1000000 0 p0, .int .i64 p1, .int .i64 p2, .int .i64 p3, .fn 34 [] []] (Ext.of .normal (argTs [.ref 1000000 0 p0, .int .i64 p1, .int .i64 p2, .int .i64 p3, .fn 34 [] []]) [] [BT.of 1000000 tySPair 4 p4 true] (by rfl)) (g84 p0 p1 p2 p3 p4) (fun (_ : (List SPair)) => .tup []) (fun (r : (List SPair)) => Ext.of .normal [] [] [BT.of 1000000 tySPair 4 r true] (by rfl)) := by unfold FnB; kernel_rfl
noncomputable def s84 (p0 : Nat) (p1 : Int) (p2 : Int) (p3 : Int) (p4 : (List SPair)) : EV.Spec Tryz.prog GG ((List SPair)) := .ofFnB 84 [1000000] mixed Tryz.func84 rfl (fun _ => rfl) (k84 p0 p1 p2 p3 p4)
noncomputable def symSh : Shape Tryz.prog GG (Nat × Int × Int × Int × (List SPair)) ((List SPair)) := {
 f := 77
 args := fun a => [.ref 1000000 0 a.1, .int .i64 a.2.1, .int .i64 a.2.2.1, .int .i64 a.2.2.2.1, .fn 34 [] []]
 X := fun a => Ext.of .normal (argTs [.ref 1000000 0 a.1, .int .i64 a.2.1, .int .i64 a.2.2.1, .int .i64 a.2.2.2.1, .fn 34 [] []]) [] [BT.of 1000000 tySPair 4 a.2.2.2.2 true] (by rfl)
 res := fun _ r => .tup []
 O := fun _ r => Ext.of .normal [] [] [BT.of 1000000 tySPair 4 r true] (by rfl)
 dt := [1000000]
 hdt := fun _ _ => rfl }
abbrev SymR : Type := symSh.R
noncomputable def g77 (R : SymR) (p0 : Nat) (p1 : Int) (p2 : Int) (p3 : Int) (p4 : (List SPair)) : TT ((List SPair)) :=
 .br 0 ((wi64 (p2 - p1)) == 1)
 (.bind 1
  (.lp (fun (l609 : Int × Int) => Ext.of .normal [(0, .ref 1000000 0 p0), (1, .int .i64 p1), (2, .int .i64 p2), (3, .int .i64 p3), (4, .fn 34 [] []), (10, .int .i64 l609.1), (11, .int .i64 l609.2)] [] [BT.of 1000000 tySPair 4 p4 true] (by rfl))
   (fun l609 =>
    .br 0 (decide (l609.1 < l609.2))
    (.chk 5004 (decide (0 ≤ (wi64 (bShr .u64 (wu64 (wi64 (l609.1 + l609.2))) 1))) && decide ((wi64 (bShr .u64 (wu64 (wi64 (l609.1 + l609.2))) 1)) < (p0 : Int))) (.row 5005 tySPair p4 (0 + (wi64 (bShr .u64 (wu64 (wi64 (l609.1 + l609.2))) 1)).toNat) true fun x610 =>
     .chk 5008 (decide (0 ≤ p1) && decide (p1 < (p0 : Int))) (.row 5009 tySPair p4 (0 + p1.toNat) true fun x611 =>
     .call 5010 (s34 x610 x611) [] [] fun r612 =>
     .br 0 (decide (r612 < 0))
     (.done (.inl ((wi64 ((wi64 (bShr .u64 (wu64 (wi64 (l609.1 + l609.2))) 1)) + 1)), l609.2)))
     (.done (.inl (l609.1, (wi64 (bShr .u64 (wu64 (wi64 (l609.1 + l609.2))) 1))))))))
    (.done (.inr l609.1)))
   (p2, p3))
  (fun (e613 : Int) => Ext.of (.exit 0) [(0, .ref 1000000 0 p0), (1, .int .i64 p1), (2, .int .i64 p2), (3, .int .i64 p3), (4, .fn 34 [] []), (10, .int .i64 e613)] [] [BT.of 1000000 tySPair 4 p4 true] (by rfl))
  (fun e613 =>
   .bind 1
   (.lp (fun (l619 : (List SPair) × Int) => Ext.of .normal [(0, .ref 1000000 0 p0), (1, .int .i64 p1), (2, .int .i64 p2), (3, .int .i64 p3), (4, .fn 34 [] []), (10, .int .i64 e613), (13, .int .i64 l619.2)] [] [BT.of 1000000 tySPair 4 l619.1 true] (by rfl))
    (fun l619 =>
     .br 0 (decide (l619.2 < (wi64 (e613 - 1))))
     (.chk 11009 (decide (0 ≤ (wi64 (l619.2 + 1))) && decide ((wi64 (l619.2 + 1)) < (p0 : Int))) (.row 11010 tySPair l619.1 (0 + (wi64 (l619.2 + 1)).toNat) true fun x620 =>
      .chk 11013 (decide (0 ≤ l619.2) && decide (l619.2 < (p0 : Int))) (.row 11014 tySPair l619.1 (0 + l619.2.toNat) true fun x621 =>
      .chk 11015 (decide (0 ≤ l619.2) && decide (l619.2 < (p0 : Int))) (.row 11016 tySPair l619.1 (0 + l619.2.toNat) true fun x622 =>
      .re 11016 (ReW.put 1000000 4 tySPair l619.1 (0 + l619.2.toNat) x620) (.chk 11017 (decide (0 ≤ (wi64 (l619.2 + 1))) && decide ((wi64 (l619.2 + 1)) < (p0 : Int))) (.row 11018 tySPair (l619.1.set (0 + l619.2.toNat) x620) (0 + (wi64 (l619.2 + 1)).toNat) true fun x623 =>
      .re 11018 (ReW.put 1000000 4 tySPair (l619.1.set (0 + l619.2.toNat) x620) (0 + (wi64 (l619.2 + 1)).toNat) x621) (.done (.inl (((l619.1.set (0 + l619.2.toNat) x620).set (0 + (wi64 (l619.2 + 1)).toNat) x621), (wi64 (l619.2 + 1)))))))))))
     (.done (.inr l619.1)))
    (p4, p1))
   (fun (e624 : (List SPair)) => Ext.of (.exit 2) [(0, .ref 1000000 0 p0), (1, .int .i64 p1), (2, .int .i64 p2), (3, .int .i64 p3), (4, .fn 34 [] [])] [] [BT.of 1000000 tySPair 4 e624 true] (by rfl))
   (fun e624 =>
    .done e624)))
 (.br 0 ((wi64 (p3 - p2)) == 1)
  (.bind 1
   (.lp (fun (l629 : Int × Int) => Ext.of .normal [(0, .ref 1000000 0 p0), (1, .int .i64 p1), (2, .int .i64 p2), (3, .int .i64 p3), (4, .fn 34 [] []), (14, .int .i64 l629.1), (15, .int .i64 l629.2)] [] [BT.of 1000000 tySPair 4 p4 true] (by rfl))
    (fun l629 =>
     .br 0 (decide (l629.1 < l629.2))
     (.chk 17004 (decide (0 ≤ p2) && decide (p2 < (p0 : Int))) (.row 17005 tySPair p4 (0 + p2.toNat) true fun x630 =>
      .chk 17008 (decide (0 ≤ (wi64 (bShr .u64 (wu64 (wi64 (l629.1 + l629.2))) 1))) && decide ((wi64 (bShr .u64 (wu64 (wi64 (l629.1 + l629.2))) 1)) < (p0 : Int))) (.row 17009 tySPair p4 (0 + (wi64 (bShr .u64 (wu64 (wi64 (l629.1 + l629.2))) 1)).toNat) true fun x631 =>
      .call 17010 (s34 x630 x631) [] [] fun r632 =>
      .br 0 (!(decide (r632 < 0)))
      (.done (.inl ((wi64 ((wi64 (bShr .u64 (wu64 (wi64 (l629.1 + l629.2))) 1)) + 1)), l629.2)))
      (.done (.inl (l629.1, (wi64 (bShr .u64 (wu64 (wi64 (l629.1 + l629.2))) 1))))))))
     (.done (.inr l629.1)))
    (p1, p2))
   (fun (e633 : Int) => Ext.of (.exit 4) [(0, .ref 1000000 0 p0), (1, .int .i64 p1), (2, .int .i64 p2), (3, .int .i64 p3), (4, .fn 34 [] []), (14, .int .i64 e633)] [] [BT.of 1000000 tySPair 4 p4 true] (by rfl))
   (fun e633 =>
    .bind 1
    (.lp (fun (l639 : (List SPair) × Int) => Ext.of .normal [(0, .ref 1000000 0 p0), (1, .int .i64 p1), (2, .int .i64 p2), (3, .int .i64 p3), (4, .fn 34 [] []), (14, .int .i64 e633), (17, .int .i64 l639.2)] [] [BT.of 1000000 tySPair 4 l639.1 true] (by rfl))
     (fun l639 =>
      .br 0 (decide (e633 < l639.2))
      (.chk 23009 (decide (0 ≤ (wi64 (l639.2 - 1))) && decide ((wi64 (l639.2 - 1)) < (p0 : Int))) (.row 23010 tySPair l639.1 (0 + (wi64 (l639.2 - 1)).toNat) true fun x640 =>
       .chk 23013 (decide (0 ≤ l639.2) && decide (l639.2 < (p0 : Int))) (.row 23014 tySPair l639.1 (0 + l639.2.toNat) true fun x641 =>
       .chk 23015 (decide (0 ≤ l639.2) && decide (l639.2 < (p0 : Int))) (.row 23016 tySPair l639.1 (0 + l639.2.toNat) true fun x642 =>
       .re 23016 (ReW.put 1000000 4 tySPair l639.1 (0 + l639.2.toNat) x640) (.chk 23017 (decide (0 ≤ (wi64 (l639.2 - 1))) && decide ((wi64 (l639.2 - 1)) < (p0 : Int))) (.row 23018 tySPair (l639.1.set (0 + l639.2.toNat) x640) (0 + (wi64 (l639.2 - 1)).toNat) true fun x643 =>
       .re 23018 (ReW.put 1000000 4 tySPair (l639.1.set (0 + l639.2.toNat) x640) (0 + (wi64 (l639.2 - 1)).toNat) x641) (.done (.inl (((l639.1.set (0 + l639.2.toNat) x640).set (0 + (wi64 (l639.2 - 1)).toNat) x641), (wi64 (l639.2 - 1)))))))))))
      (.done (.inr l639.1)))
     (p4, p2))
    (fun (e644 : (List SPair)) => Ext.of (.exit 6) [(0, .ref 1000000 0 p0), (1, .int .i64 p1), (2, .int .i64 p2), (3, .int .i64 p3), (4, .fn 34 [] [])] [] [BT.of 1000000 tySPair 4 e644 true] (by rfl))
    (fun e644 =>
     .done e644)))
  (.bind 0
   (.br 0 (decide ((wi64 (bShr .u64 (wu64 (wi64 (p1 + p3))) 1)) < p2))
    (.done ((wi64 ((wi64 ((wi64 (bShr .u64 (wu64 (wi64 (p1 + p3))) 1)) + p2)) - p3)), (wi64 (bShr .u64 (wu64 (wi64 (p1 + p3))) 1))))
    (.done (p1, p2)))
   (fun (e645 : Int × Int) => Ext.of .normal [(0, .ref 1000000 0 p0), (1, .int .i64 p1), (2, .int .i64 p2), (3, .int .i64 p3), (4, .fn 34 [] []), (18, .int .i64 (wi64 (bShr .u64 (wu64 (wi64 (p1 + p3))) 1))), (19, .int .i64 (wi64 ((wi64 (bShr .u64 (wu64 (wi64 (p1 + p3))) 1)) + p2))), (20, .int .i64 e645.1), (21, .int .i64 e645.2)] [] [BT.of 1000000 tySPair 4 p4 true] (by rfl))
   (fun e645 =>
    .bind 1
    (.lp (fun (l650 : Int × Int) => Ext.of .normal [(0, .ref 1000000 0 p0), (1, .int .i64 p1), (2, .int .i64 p2), (3, .int .i64 p3), (4, .fn 34 [] []), (18, .int .i64 (wi64 (bShr .u64 (wu64 (wi64 (p1 + p3))) 1))), (19, .int .i64 (wi64 ((wi64 (bShr .u64 (wu64 (wi64 (p1 + p3))) 1)) + p2))), (20, .int .i64 l650.1), (21, .int .i64 l650.2), (22, .int .i64 (wi64 ((wi64 ((wi64 (bShr .u64 (wu64 (wi64 (p1 + p3))) 1)) + p2)) - 1)))] [] [BT.of 1000000 tySPair 4 p4 true] (by rfl))
     (fun l650 =>
      .br 0 (decide (l650.1 < l650.2))
      (.chk 35006 (decide (0 ≤ (wi64 ((wi64 ((wi64 ((wi64 (bShr .u64 (wu64 (wi64 (p1 + p3))) 1)) + p2)) - 1)) - (wi64 (bShr .u64 (wu64 (wi64 (l650.1 + l650.2))) 1))))) && decide ((wi64 ((wi64 ((wi64 ((wi64 (bShr .u64 (wu64 (wi64 (p1 + p3))) 1)) + p2)) - 1)) - (wi64 (bShr .u64 (wu64 (wi64 (l650.1 + l650.2))) 1)))) < (p0 : Int))) (.row 35007 tySPair p4 (0 + (wi64 ((wi64 ((wi64 ((wi64 (bShr .u64 (wu64 (wi64 (p1 + p3))) 1)) + p2)) - 1)) - (wi64 (bShr .u64 (wu64 (wi64 (l650.1 + l650.2))) 1)))).toNat) true fun x651 =>
       .chk 35010 (decide (0 ≤ (wi64 (bShr .u64 (wu64 (wi64 (l650.1 + l650.2))) 1))) && decide ((wi64 (bShr .u64 (wu64 (wi64 (l650.1 + l650.2))) 1)) < (p0 : Int))) (.row 35011 tySPair p4 (0 + (wi64 (bShr .u64 (wu64 (wi64 (l650.1 + l650.2))) 1)).toNat) true fun x652 =>
       .call 35012 (s34 x651 x652) [] [] fun r653 =>
       .br 0 (!(decide (r653 < 0)))
       (.done (.inl ((wi64 ((wi64 (bShr .u64 (wu64 (wi64 (l650.1 + l650.2))) 1)) + 1)), l650.2)))
       (.done (.inl (l650.1, (wi64 (bShr .u64 (wu64 (wi64 (l650.1 + l650.2))) 1))))))))
      (.done (.inr l650.1)))
     (e645.1, e645.2))
    (fun (e654 : Int) => Ext.of (.exit 8) [(0, .ref 1000000 0 p0), (1, .int .i64 p1), (2, .int .i64 p2), (3, .int .i64 p3), (4, .fn 34 [] []), (18, .int .i64 (wi64 (bShr .u64 (wu64 (wi64 (p1 + p3))) 1))), (19, .int .i64 (wi64 ((wi64 (bShr .u64 (wu64 (wi64 (p1 + p3))) 1)) + p2))), (20, .int .i64 e654)] [] [BT.of 1000000 tySPair 4 p4 true] (by rfl))
    (fun e654 =>
     .cnd 39 [185]
     (.br 39005 (decide (e654 < p2))
      (.done (decide (p2 < (wi64 ((wi64 ((wi64 (bShr .u64 (wu64 (wi64 (p1 + p3))) 1)) + p2)) - e654)))))
      (.done false))
     (fun (c655 : Bool) => [.bool c655]) fun c655 =>
     .bind 0
     (.br 0 c655
      (.call 40006 (s84 p0 e654 p2 (wi64 ((wi64 ((wi64 (bShr .u64 (wu64 (wi64 (p1 + p3))) 1)) + p2)) - e654)) p4) [(1000000, 1000000)] [] fun r689 =>
       .done r689)
      (.done p4))
     (fun (e690 : (List SPair)) => Ext.of .normal [(0, .ref 1000000 0 p0), (1, .int .i64 p1), (3, .int .i64 p3), (4, .fn 34 [] []), (18, .int .i64 (wi64 (bShr .u64 (wu64 (wi64 (p1 + p3))) 1))), (20, .int .i64 e654), (24, .int .i64 (wi64 ((wi64 ((wi64 (bShr .u64 (wu64 (wi64 (p1 + p3))) 1)) + p2)) - e654)))] [] [BT.of 1000000 tySPair 4 e690 true] (by rfl))
     (fun e690 =>
      .cnd 41 [199]
      (.br 41005 (decide (p1 < e654))
       (.done (decide (e654 < (wi64 (bShr .u64 (wu64 (wi64 (p1 + p3))) 1)))))
       (.done false))
      (fun (c691 : Bool) => [.bool c691]) fun c691 =>
      .bind 0
      (.br 0 c691
       (.call 42006 (symSh.spec R (p0, p1, e654, (wi64 (bShr .u64 (wu64 (wi64 (p1 + p3))) 1)), e690)) [(1000000, 1000000)] [] fun r705 =>
        .done r705)
       (.done e690))
      (fun (e706 : (List SPair)) => Ext.of .normal [(0, .ref 1000000 0 p0), (3, .int .i64 p3), (4, .fn 34 [] []), (18, .int .i64 (wi64 (bShr .u64 (wu64 (wi64 (p1 + p3))) 1))), (24, .int .i64 (wi64 ((wi64 ((wi64 (bShr .u64 (wu64 (wi64 (p1 + p3))) 1)) + p2)) - e654)))] [] [BT.of 1000000 tySPair 4 e706 true] (by rfl))
      (fun e706 =>
       .cnd 43 [213]
       (.br 43005 (decide ((wi64 (bShr .u64 (wu64 (wi64 (p1 + p3))) 1)) < (wi64 ((wi64 ((wi64 (bShr .u64 (wu64 (wi64 (p1 + p3))) 1)) + p2)) - e654))))
        (.done (decide ((wi64 ((wi64 ((wi64 (bShr .u64 (wu64 (wi64 (p1 + p3))) 1)) + p2)) - e654)) < p3)))
        (.done false))
       (fun (c707 : Bool) => [.bool c707]) fun c707 =>
       .br 0 c707
       (.call 44006 (symSh.spec R (p0, (wi64 (bShr .u64 (wu64 (wi64 (p1 + p3))) 1)), (wi64 ((wi64 ((wi64 (bShr .u64 (wu64 (wi64 (p1 + p3))) 1)) + p2)) - e654)), p3, e706)) [(1000000, 1000000)] [] fun r721 =>
        .done r721)
       (.done e706)))))))
theorem k77 (R : SymR) (p0 : Nat) (p1 : Int) (p2 : Int) (p3 : Int) (p4 : (List SPair)) : FnB Tryz.prog GG [0, 1, 2, 3, 4, 10, 11, 12, 13, 14, 15, 16, 17, 18, 19, 20, 21, 22, 23, 24, 28, 33, 50, 58, 80, 85, 103, 110, 140, 151, 171, 185, 199, 213] Tryz.f77 [.ref 1000000 0 p0, .int .i64 p1, .int .i64 p2, .int .i64 p3, .fn 34 [] []] (Ext.of .normal (argTs [.ref 1000000 0 p0, .int .i64 p1, .int .i64 p2, .int .i64 p3, .fn 34 [] []]) [] [BT.of 1000000 tySPair 4 p4 true] (by rfl)) (g77 R p0 p1 p2 p3 p4) (fun (_ : (List SPair)) => .tup []) (fun (r : (List SPair)) => Ext.of .normal [] [] [BT.of 1000000 tySPair 4 r true] (by rfl)) := by unfold FnB; kernel_rfl
noncomputable def s77 (R : SymR) (p0 : Nat) (p1 : Int) (p2 : Int) (p3 : Int) (p4 : (List SPair)) : EV.Spec Tryz.prog GG ((List SPair)) := .ofFnB 77 [1000000] mixed Tryz.func77 rfl (fun _ => rfl) (k77 R p0 p1 p2 p3 p4)
noncomputable def symAll : SymR := symSh.fix (fun R a => (s77 R a.1 a.2.1 a.2.2.1 a.2.2.2.1 a.2.2.2.2)) (fun R a r h => (s77 R a.1 a.2.1 a.2.2.1 a.2.2.2.1 a.2.2.2.2).ok r h) 60
noncomputable def g65 (p0 : Nat) (p1 : Int) (p2 : (List SPair)) : TT ((List SPair)) :=
 .bind 1
 (.lp (fun (l568 : (List SPair) × Int × Int) => Ext.of .normal [(0, .ref 1000000 0 p0), (1, .int .i64 p1), (2, .fn 34 [] []), (6, .int .i64 20), (7, .int .i64 l568.2.1), (8, .int .i64 l568.2.2)] [] [BT.of 1000000 tySPair 4 l568.1 true] (by rfl))
  (fun l568 =>
   .br 0 (decide (l568.2.2 ≤ p1))
   (.call 3005 (s76 p0 l568.2.1 l568.2.2 l568.1) [(1000000, 1000000)] [] fun r578 =>
    .done (.inl (r578, l568.2.2, (wi64 (l568.2.2 + 20)))))
   (.done (.inr (l568.1, l568.2.1))))
  (p2, 0, 20))
 (fun (e579 : (List SPair) × Int) => Ext.of (.exit 0) [(0, .ref 1000000 0 p0), (1, .int .i64 p1), (2, .fn 34 [] []), (6, .int .i64 20), (7, .int .i64 e579.2)] [] [BT.of 1000000 tySPair 4 e579.1 true] (by rfl))
 (fun e579 =>
  .call 6005 (s76 p0 e579.2 p1 e579.1) [(1000000, 1000000)] [] fun r589 =>
  .bind 1
  (.lp (fun (l636 : (List SPair) × Int) => Ext.of .normal [(0, .ref 1000000 0 p0), (1, .int .i64 p1), (2, .fn 34 [] []), (6, .int .i64 l636.2)] [] [BT.of 1000000 tySPair 4 l636.1 true] (by rfl))
   (fun l636 =>
    .br 0 (decide (l636.2 < p1))
    (.bind 2
     (.lp (fun (l652 : (List SPair) × Int × Int) => Ext.of .normal [(0, .ref 1000000 0 p0), (1, .int .i64 p1), (2, .fn 34 [] []), (6, .int .i64 l636.2), (7, .int .i64 l652.2.1), (8, .int .i64 l652.2.2)] [] [BT.of 1000000 tySPair 4 l652.1 true] (by rfl))
      (fun l652 =>
       .br 0 (decide (l652.2.2 ≤ p1))
       (.call 10008 (s77 symAll p0 l652.2.1 (wi64 (l652.2.1 + l636.2)) l652.2.2 l652.1) [(1000000, 1000000)] [] fun r666 =>
        .done (.inl (r666, l652.2.2, (wi64 (l652.2.2 + (wi64 ((2 : Int) * l636.2)))))))
       (.done (.inr (l652.1, l652.2.1))))
      (l636.1, 0, (wi64 ((2 : Int) * l636.2))))
     (fun (e667 : (List SPair) × Int) => Ext.of (.exit 4) [(0, .ref 1000000 0 p0), (1, .int .i64 p1), (2, .fn 34 [] []), (6, .int .i64 l636.2), (7, .int .i64 e667.2)] [] [BT.of 1000000 tySPair 4 e667.1 true] (by rfl))
     (fun e667 =>
      .br 0 (decide ((wi64 (e667.2 + l636.2)) < p1))
      (.call 15006 (s77 symAll p0 e667.2 (wi64 (e667.2 + l636.2)) p1 e667.1) [(1000000, 1000000)] [] fun r681 =>
       .done (.inl (r681, (wi64 (l636.2 * 2)))))
      (.done (.inl (e667.1, (wi64 (l636.2 * 2)))))))
    (.done (.inr l636.1)))
   (r589, 20))
  (fun (e682 : (List SPair)) => Ext.of (.exit 2) [] [] [BT.of 1000000 tySPair 4 e682 true] (by rfl))
  (fun e682 =>
   .done e682))
theorem k65 (p0 : Nat) (p1 : Int) (p2 : (List SPair)) : FnB Tryz.prog GG [0, 1, 2, 6, 7, 8, 9, 13, 30, 35, 54] Tryz.f65 [.ref 1000000 0 p0, .int .i64 p1, .fn 34 [] []] (Ext.of .normal (argTs [.ref 1000000 0 p0, .int .i64 p1, .fn 34 [] []]) [] [BT.of 1000000 tySPair 4 p2 true] (by rfl)) (g65 p0 p1 p2) (fun (_ : (List SPair)) => .tup []) (fun (r : (List SPair)) => Ext.of .normal [] [] [BT.of 1000000 tySPair 4 r true] (by rfl)) := by unfold FnB; kernel_rfl
noncomputable def s65 (p0 : Nat) (p1 : Int) (p2 : (List SPair)) : EV.Spec Tryz.prog GG ((List SPair)) := .ofFnB 65 [1000000] mixed Tryz.func65 rfl (fun _ => rfl) (k65 p0 p1 p2)
noncomputable def g33 (p0 : Nat) (p1 : (List SPair)) : TT ((List SPair)) :=
 .call 5 (s65 p0 (p0 : Int) p1) [(1000000, 1000000)] [] fun r683 =>
 .done r683
theorem k33 (p0 : Nat) (p1 : (List SPair)) : FnB Tryz.prog GG [0, 1] Tryz.f33 [.ref 1000000 0 p0, .fn 34 [] []] (Ext.of .normal (argTs [.ref 1000000 0 p0, .fn 34 [] []]) [] [BT.of 1000000 tySPair 4 p1 true] (by rfl)) (g33 p0 p1) (fun (_ : (List SPair)) => .tup []) (fun (r : (List SPair)) => Ext.of .normal [] [] [BT.of 1000000 tySPair 4 r true] (by rfl)) := by unfold FnB; kernel_rfl
noncomputable def s33 (p0 : Nat) (p1 : (List SPair)) : EV.Spec Tryz.prog GG ((List SPair)) := .ofFnB 33 [1000000] mixed Tryz.func33 rfl (fun _ => rfl) (k33 p0 p1)
end Go.Proofs.YtioobnkmohikjaaGreatDoor
namespace Go.Proofs.YtioobnkmohikjaaGreatDoor
open Go Go.EV
set_option maxRecDepth 100000
def paC (x : SPair) : List V := [.int .i64 x.fLocal, .int .i64 x.fRemote, .int .i64 x.fPriority, .int .i64 x.fState]
def caC (x : SCandidate) : List V := [.int .i64 x.fKind, .int .i64 x.fComponent, .int .i64 x.fPriority, .str x.fFoundation, .str x.fAddr.fHost, .int .i64 x.fAddr.fPort, .str x.fBase.fHost, .int .i64 x.fBase.fPort]
def paO (out : List SPair) : V := .ref 1900070 0 out.length
def paTs : List (Nat × V) := [(6, .ptr 1000006 0 0), (7, .int .i64 0), (8, .ptr 1700061 0 0), (9, .ptr 1000009 0 0), (49, .fn 32 [.ptr 1700061 0 0] [])]
def paL (c : Bool) (ls rs : List SCandidate) (o : V) : List (Nat × Blk) :=
 [(1000006, ⟨4, true, [[.bool false, .nilsl, .nilsl, .nilsl]]⟩), (1000009, ⟨1, true, [[o]]⟩), (1700061, ⟨4, true, [[.bool c, .ref 1700062 0 ls.length, .ref 1700063 0 rs.length, .nilsl]]⟩)]
def paT (ls rs : List SCandidate) (out : List SPair) : List BT := [BT.of 1900070 tySPair 4 out true, BT.of 1700062 tySCandidate 8 ls true, BT.of 1700063 tySCandidate 8 rs true]
def paX (ts : List (Nat × V)) (c : Bool) (ls rs : List SCandidate) (out : List SPair) : Ext := Ext.of .normal ts (paL c ls rs (paO out)) (paT ls rs out) (by rfl)
def paB (c : Bool) (ls rs : List SCandidate) (out : List SPair) : List (Nat × Blk) := (paX [] c ls rs out).bs
theorem gst_to {st : St} (x : Ext) {n : Nat} (hok : x.ok = true) (hn : st.n = n) (h : extTs x st = x.ts ∧ extBs x st = x.bs.map fun p => (p.1, some p.2)) : Gst GG st (x.D n).st := by
 subst hn; exact ext_ghost hok h.1 h.2
def cRn : Code → Code
 | .seq _ (.scope (.seq _ (.seq _ (.seq _ (.seq _ (.seq (.seq _ (.block _ c)) _)))))) => c
 | _ => .skip
noncomputable def paR : Code := cRn (Tryz.f11.body.getD .skip)
noncomputable def paAs : Code := rAssign paR
noncomputable def paBd : Code := rBody paR
section
variable (c : Bool) (ls rs : List SCandidate) (out : List SPair)
def xRa (x : SPair) : Ext := paX ((50, .agg (paC x)) :: paTs) c ls rs out
def xRb (x : SPair) : Ext := Ext.of .normal (paTs ++ [(10, .ptr 10 0 0)]) ((10, ⟨4, true, [paC x]⟩) :: paL c ls rs (paO out)) (paT ls rs out) (by rfl)
def xRd (x : SPair) : Ext := Ext.of .normal [] (paL c ls rs (.ref 54 0 (out ++ [x]).length)) [BT.of 54 tySPair 4 (out ++ [x]) true, BT.of 1700062 tySCandidate 8 ls true, BT.of 1700063 tySCandidate 8 rs true] (by rfl)
theorem kRa (x : SPair) : Piece Tryz.prog GG [6, 7, 8, 9, 10, 49] 154 paAs (xRa c ls rs out x) (.done () : TT Unit) (fun _ => xRb c ls rs out x) := by unfold Piece; kernel_rfl
def gRd (x : SPair) : TT Unit := .app 9004 tySPair out [x] 32 false (by intro h; cases h) (.done ())
theorem kRd (x : SPair) : Piece Tryz.prog GG [54] 154 paBd (xRb c ls rs out x) (gRd out x) (fun _ => xRd c ls rs out x) := by unfold Piece; kernel_rfl
end
theorem mob9 {c : Bool} {ls rs : List SCandidate} {out : List SPair} {x : SPair} {g : St} (h : Gst GG g ((xRd c ls rs out x).D 154).st) : Gst GG g (susp 154 (fun _ => .undef) (ofL (paB c ls rs (out ++ [x])))) :=
 Gst.trans h (Gst.mob (lits := paL c ls rs (.ref 54 0 (out ++ [x]).length)) (rest := [(1700062, (BT.of 1700062 tySCandidate 8 ls true).k), (1700063, (BT.of 1700063 tySCandidate 8 rs true).k)]) (kd := (BT.of 54 tySPair 4 (out ++ [x]) true).k) (d := 54) (m := 1900070) (n := 154)
  (by decide) (by decide) (by decide) (by decide : ([1000006, 1000009, 1700061, 54, 1700062, 1700063] : List Nat).Nodup) (tySPair.data _) (by
   intro p hp
   simp only [List.mem_cons, List.not_mem_nil, or_false] at hp
   rcases hp with rfl | rfl
   ·exact tySCandidate.data ls
   ·exact tySCandidate.data rs) (by rfl) (by rfl))
theorem roundMake (c : Bool) (ls rs : List SCandidate) (out : List SPair) (x : SPair) (hb : (gRd out x).run = some ()) :
  RoundT Tryz.prog GG 154 (tOf paTs) [50] paAs paBd (ofL (paB c ls rs out)) [.agg (paC x)] (fun e b' => e = .normal ∧ b' = ofL (paB c ls rs (out ++ [x]))) := by
 refine ⟨((xRb c ls rs out x).D 154).st, ?_, ?_⟩
 ·have h := (kRa c ls rs out x).tv mixed (r := ()) rfl (by rfl)
  have e : ((xRa c ls rs out x).D 154).st = setP (susp 154 (tOf paTs) (ofL (paB c ls rs out))) ([50].zip [.agg (paC x)]) := by
   rw [ext_susp (by rfl)]
   exact (setP_susp 154 paTs _ 50 (.agg (paC x))).symm
  rw [e] at h
  exact h
 ·refine ((kRd c ls rs out x).tv mixed hb (by rfl)).mono fun e s' hg => ?_
  obtain ⟨rfl, g⟩ := hg
  exact ⟨_, 154, ⟨rfl, rfl⟩, mob9 g⟩
def paArgs (l : Nat) : List V := [.ptr 1700061 0 0, .yld l]
noncomputable def cIt : Code := Tryz.f32.body.getD .skip
noncomputable def iR0 : Code := cL cIt
noncomputable def cOut : Code := cB (cB (cR cIt))
noncomputable def iR1 : Code := cL cOut
noncomputable def cO2 : Code := cB (cL (cR (cR cOut)))
noncomputable def iR2 : Code := cL cO2
noncomputable def iR3 : Code := cL (cR cO2)
noncomputable def cIn : Code := cB (cB (cR (cR cO2)))
noncomputable def iR10 : Code := cR (cR (cR cOut))
noncomputable def iR4 : Code := cL cIn
noncomputable def cI2 : Code := cB (cL (cR (cR cIn)))
noncomputable def iR5 : Code := cL cI2
noncomputable def iR6 : Code := cL (cR cI2)
noncomputable def iR7 : Code := cL (cR (cR cI2))
noncomputable def ops8 : Array Oper := rOps (cL (cR (cR (cR cI2))))
noncomputable def iR9 : Code := cR (cR (cR cIn))
theorem eIt : cIt = .seq iR0 (.block 0 (.loop cOut)) := by kernel_rfl
theorem eOut : cOut = .seq iR1 (.seq (.cond (.tmp 16) .skip (.exit 0)) (.seq (.block 1 (.seq iR2 (.seq iR3 (.block 2 (.loop cIn))))) iR10)) := by kernel_rfl
theorem eIn : cIn = .seq iR4 (.seq (.cond (.tmp 27) .skip (.exit 2)) (.seq (.block 3 (.seq iR5 (.seq iR6 (.seq iR7 (.seq (.region 8 ops8 false) (.cond (.tmp 46) .ret .skip)))))) iR9)) := by kernel_rfl
section
variable (l : Nat) (c : Bool) (ls rs : List SCandidate)
def tA (i : Int) : List (Nat × V) := [(0, .ptr 1700061 0 0), (1, .yld l), (13, .ref 1700062 0 ls.length), (14, .int .i64 (ls.length : Int)), (15, .int .i64 i)]
def tB (i : Int) (a : SCandidate) : List (Nat × V) := tA l ls i ++ [(4, .int .i64 i), (5, .snap (caC a))]
def tC (i k : Int) (a : SCandidate) : List (Nat × V) := tB l ls i a ++ [(24, .ref 1700063 0 rs.length), (25, .int .i64 (rs.length : Int)), (26, .int .i64 k)]
def tD (i k : Int) (a : SCandidate) : List (Nat × V) := tC l ls rs i k a ++ [(6, .int .i64 k), (7, .ptr 7 0 0)]
def tE (i k : Int) (a : SCandidate) : List (Nat × V) := tD l ls rs i k a ++ [(8, .ptr 8 0 0)]
def xI (out : List SPair) : Ext := paX (argTs (paArgs l)) c ls rs out
def xA (i : Int) (out : List SPair) : Ext := paX (tA l ls i) c ls rs out
def xA1 (i : Int) (out : List SPair) : Ext := paX (tA l ls i ++ [(16, .bool (decide (i < (ls.length : Int))))]) c ls rs out
def xB0 (i : Int) (a : SCandidate) (out : List SPair) : Ext := Ext.of .normal (tA l ls i ++ [(4, .int .i64 i), (5, .ptr 5 0 0)]) ((5, ⟨8, true, [caC a]⟩) :: paL c ls rs (paO out)) (paT ls rs out) (by rfl)
def xB (i : Int) (a : SCandidate) (out : List SPair) : Ext := paX (tB l ls i a) c ls rs out
def xC (i k : Int) (a : SCandidate) (out : List SPair) : Ext := paX (tC l ls rs i k a) c ls rs out
def xC1 (i k : Int) (a : SCandidate) (out : List SPair) : Ext := paX (tC l ls rs i k a ++ [(27, .bool (decide (k < (rs.length : Int))))]) c ls rs out
def xD (i k : Int) (a b : SCandidate) (out : List SPair) : Ext := Ext.of .normal (tD l ls rs i k a) ((7, ⟨8, true, [caC b]⟩) :: paL c ls rs (paO out)) (paT ls rs out) (by rfl)
def xE (i k p : Int) (a b : SCandidate) (out : List SPair) : Ext := Ext.of .normal (tE l ls rs i k a) ((7, ⟨8, true, [caC b]⟩) :: (8, ⟨4, true, [paC ⟨i, k, p, 0⟩]⟩) :: paL c ls rs (paO out)) (paT ls rs out) (by rfl)
def tF (i k p : Int) (f : Bool) : List (Nat × V) := bif f then [(41, .bool true), (42, .yld l), (43, .agg (paC ⟨i, k, p, 0⟩))] else [(41, .bool false), (42, .tup []), (43, .tup [])]
def xF (i k p : Int) (a b : SCandidate) (out : List SPair) (f : Bool) : Ext := Ext.of .normal (tE l ls rs i k a ++ tF l i k p f) ((7, ⟨8, true, [caC b]⟩) :: (8, ⟨4, true, [paC ⟨i, k, p, 0⟩]⟩) :: paL c ls rs (paO out)) (paT ls rs out) (by rfl)
def xG (i k p : Int) (a : SCandidate) (out : List SPair) (f : Bool) : Ext := paX (tC l ls rs i k a ++ tF l i k p f) c ls rs out
theorem kR0 (out : List SPair) : Piece Tryz.prog GG [0, 1, 13, 14, 15] 49 iR0 (xI l c ls rs out) (.done () : TT Unit) (fun _ => xA l c ls rs 0 out) := by unfold Piece; kernel_rfl
theorem kR1 (i : Int) (out : List SPair) : Piece Tryz.prog GG [0, 1, 13, 14, 15, 16] 49 iR1 (xA l c ls rs i out) (.done () : TT Unit) (fun _ => xA1 l c ls rs i out) := by unfold Piece; kernel_rfl
def gR2 (i : Int) : TT SCandidate := .chk 2002 (decide (0 ≤ i) && decide (i < (ls.length : Int))) (.row 2003 tySCandidate ls (0 + i.toNat) true fun x => .done x)
theorem kR2 (i : Int) (out : List SPair) : Piece Tryz.prog GG [0, 1, 4, 5, 13, 14, 15] 49 iR2 (xA l c ls rs i out) (gR2 ls i) (fun a => xB0 l c ls rs i a out) := by unfold Piece; kernel_rfl
theorem kR3 (i : Int) (a : SCandidate) (out : List SPair) : Piece Tryz.prog GG [0, 1, 4, 5, 13, 14, 15, 24, 25, 26] 49 iR3 (xB l c ls rs i a out) (.done () : TT Unit) (fun _ => xC l c ls rs i 0 a out) := by unfold Piece; kernel_rfl
theorem kR4 (i k : Int) (a : SCandidate) (out : List SPair) : Piece Tryz.prog GG [0, 1, 4, 5, 13, 14, 15, 24, 25, 26, 27] 49 iR4 (xC l c ls rs i k a out) (.done () : TT Unit) (fun _ => xC1 l c ls rs i k a out) := by unfold Piece; kernel_rfl
def gR5 (k : Int) : TT SCandidate := .chk 5002 (decide (0 ≤ k) && decide (k < (rs.length : Int))) (.row 5003 tySCandidate rs (0 + k.toNat) true fun x => .done x)
theorem kR5 (i k : Int) (a : SCandidate) (out : List SPair) : Piece Tryz.prog GG [0, 1, 4, 5, 6, 7, 13, 14, 15, 24, 25, 26] 49 iR5 (xC l c ls rs i k a out) (gR5 rs k) (fun b => xD l c ls rs i k a b out) := by unfold Piece; kernel_rfl
theorem kR6 (i k : Int) (a b : SCandidate) (out : List SPair) : Piece Tryz.prog GG [0, 1, 4, 5, 6, 7, 8, 13, 14, 15, 24, 25, 26] 49 iR6 (xD l c ls rs i k a b out) (.done () : TT Unit) (fun _ => xE l c ls rs i k 0 a b out) := by unfold Piece; kernel_rfl
noncomputable def gR7 (i k : Int) : TT Int := .view 7003 (s56_1 c ls rs (SPair.mk i k 0 0)) [(VwW.of 1700062 tySCandidate ls), (VwW.of 1700063 tySCandidate rs)] fun r => .done r
theorem kR7 (i k : Int) (a b : SCandidate) (out : List SPair) : Piece Tryz.prog GG [0, 1, 4, 5, 6, 7, 8, 13, 14, 15, 24, 25, 26] 49 iR7 (xE l c ls rs i k 0 a b out) (gR7 c ls rs i k) (fun p => xE l c ls rs i k p a b out) := by unfold Piece; kernel_rfl
noncomputable def gR8 (a b : SCandidate) : TT Bool := .call 8003 (s64 a b) [] [] fun r => .br 8005 r (.done true) (.done false)
theorem kR8 (i k p : Int) (a b : SCandidate) (out : List SPair) : PieceOps Tryz.prog GG [0, 1, 4, 5, 6, 7, 8, 13, 14, 15, 24, 25, 26, 41, 42, 43] 49 8 ops8 6 (xE l c ls rs i k p a b out) (gR8 a b) (xF l c ls rs i k p a b out) := by unfold PieceOps; kernel_rfl
theorem kR9 (i k : Int) (a : SCandidate) (out : List SPair) : Piece Tryz.prog GG [0, 1, 4, 5, 13, 14, 15, 24, 25, 26] 49 iR9 (xC l c ls rs i k a out) (.done () : TT Unit) (fun _ => xC l c ls rs i (wi64 (k + 1)) a out) := by unfold Piece; kernel_rfl
theorem kR10 (i : Int) (out : List SPair) : Piece Tryz.prog GG [0, 1, 13, 14, 15] 49 iR10 (xA l c ls rs i out) (.done () : TT Unit) (fun _ => xA l c ls rs (wi64 (i + 1)) out) := by unfold Piece; kernel_rfl
end
noncomputable def inStep (c : Bool) (ls rs : List SCandidate) (i : Int) (a : SCandidate) (s : Int × List SPair) : Option ((Int × List SPair) ⊕ List SPair) :=
 bif decide (s.1 < (rs.length : Int)) then
  (match (gR5 rs s.1).run with
  | none => none
  | some b => match (gR7 c ls rs i s.1).run with
   | none => none
   | some p => match (gR8 a b).run with
    | none => none
    | some f => bif f then (match (gRd s.2 ⟨i, s.1, p, 0⟩).run with
      | none => none
      | some _ => some (.inl (wi64 (s.1 + 1), s.2 ++ [⟨i, s.1, p, 0⟩])))
     else some (.inl (wi64 (s.1 + 1), s.2)))
 else some (.inr s.2)
noncomputable def inM (c : Bool) (ls rs : List SCandidate) (i : Int) (a : SCandidate) (out : List SPair) : Option (List SPair) := iter (inStep c ls rs i a) FUEL (0, out)
noncomputable def outStep (c : Bool) (ls rs : List SCandidate) (s : Int × List SPair) : Option ((Int × List SPair) ⊕ List SPair) :=
 bif decide (s.1 < (ls.length : Int)) then
  (match (gR2 ls s.1).run with
  | none => none
  | some a => match inM c ls rs s.1 a s.2 with
   | none => none
   | some out => some (.inl (wi64 (s.1 + 1), out)))
 else some (.inr s.2)
noncomputable def pairsM (c : Bool) (ls rs : List SCandidate) : Option (List SPair) := iter (outStep c ls rs) FUEL (0, [])
noncomputable def paYL : YL := ⟨154, tOf paTs, #[50], paAs, paBd⟩
theorem inner (l : Nat) (c : Bool) (ls rs : List SCandidate) (i : Int) (a : SCandidate) (out : List SPair) {r : List SPair} (h : inM c ls rs i a out = some r) {Q : Exit → YS → Prop}
    (hq : ∀ st, Gst GG st ((xA l c ls rs i r).D 49).st → Q .normal ⟨.normal, st⟩) :
    YT Tryz.prog GG paYL l (.block 2 (.loop cIn)) ⟨.normal, ((xC l c ls rs i 0 a out).D 49).st⟩ Q := by
  refine YT.block ?_
  refine YT.loop (fun m s => s.x = .normal ∧ ∃ y : Int × List SPair, Gst GG s.st ((xC l c ls rs i y.1 a y.2).D 49).st ∧ iter (inStep c ls rs i a) m y = some r) (fun m s hI => ?_) (n := FUEL) ⟨rfl, (0, out), Gst.same _, h⟩
  obtain ⟨x, st⟩ := s
  obtain ⟨rfl, ⟨k, o⟩, g, hit⟩ := hI
  refine YT.gst g ?_
  cases m with
  | zero => simp [iter] at hit
  | succ m =>
    rw [iter_succ] at hit
    rw [eIn]
    refine YT.seq (YT.piece (kR4 l c ls rs i k a o) mixed rfl (by rfl) fun s g => ?_)
    show YT _ _ _ _ _ _ _
    refine YT.gst g ?_
    cases hc : decide (k < (rs.length : Int)) with
    | false =>
      have hs0 : inStep c ls rs i a (k, o) = some (.inr o) := by unfold inStep; simp only [hc]; rfl
      rw [hs0] at hit
      obtain rfl : o = r := Option.some.inj hit
      refine YT.seq (YT.cond (b := false) (by show some (V.bool (decide (k < (rs.length : Int)))) = _; rw [hc]) (YT.exit ?_))
      show Q .normal _
      exact hq _ (gst_to (xA l c ls rs i o) (by rfl) rfl ⟨by rfl, by rfl⟩)
    | true =>
      refine YT.seq (YT.cond (b := true) (by show some (V.bool (decide (k < (rs.length : Int)))) = _; rw [hc]) (YT.skip ?_))
      show YT _ _ _ _ _ _ _
      refine YT.gst (st' := ((xC l c ls rs i k a o).D 49).st) (gst_to (xC l c ls rs i k a o) (by rfl) rfl ⟨by rfl, by rfl⟩) ?_
      cases h5 : (gR5 rs k).run with
      | none => have hs0 : inStep c ls rs i a (k, o) = none := by unfold inStep; simp only [hc, h5]; rfl
                rw [hs0] at hit; simp at hit
      | some b =>
      cases h7 : (gR7 c ls rs i k).run with
      | none => have hs0 : inStep c ls rs i a (k, o) = none := by unfold inStep; simp only [hc, h5, h7]; rfl
                rw [hs0] at hit; simp at hit
      | some p =>
      cases h8 : (gR8 a b).run with
      | none => have hs0 : inStep c ls rs i a (k, o) = none := by unfold inStep; simp only [hc, h5, h7, h8]; rfl
                rw [hs0] at hit; simp at hit
      | some f =>
      have next : ∀ (o2 : List SPair) (st : St), iter (inStep c ls rs i a) m (wi64 (k + 1), o2) = some r → Gst GG st ((xC l c ls rs i k a o2).D 49).st →
          YT Tryz.prog GG paYL l iR9 ⟨.normal, st⟩ (thenY (fun s' => ∃ m', m' < m + 1 ∧ s'.x = .normal ∧ ∃ y : Int × List SPair, Gst GG s'.st ((xC l c ls rs i y.1 a y.2).D 49).st ∧ iter (inStep c ls rs i a) m' y = some r) (inBlockY 2 Q)) := fun o2 st h2 g2 => by
        refine YT.gst g2 ?_
        refine YT.piece (kR9 l c ls rs i k a o2) mixed rfl (by rfl) fun s g => ?_
        exact ⟨m, Nat.lt_succ_self m, rfl, (wi64 (k + 1), o2), g, h2⟩
      refine YT.seq (YT.block (YT.seq (YT.piece (kR5 l c ls rs i k a o) mixed h5 (by rfl) fun s g => ?_)))
      show YT _ _ _ _ _ _ _
      refine YT.gst g ?_
      refine YT.seq (YT.piece (kR6 l c ls rs i k a b o) mixed rfl (by rfl) fun s g => ?_)
      show YT _ _ _ _ _ _ _
      refine YT.gst g ?_
      refine YT.seq (YT.piece (kR7 l c ls rs i k a b o) mixed h7 (by rfl) fun s g => ?_)
      show YT _ _ _ _ _ _ _
      refine YT.gst g ?_
      refine YT.seq (YT.region ?_)
      show YTops _ _ _ _ _ ([0, 1, 2, 3, 4, 5] ++ [6, 7, 8]) _ _
      refine YTops.tv ((kR8 l c ls rs i k p a b o).tv mixed h8 (by cases f <;> rfl)) fun e st hq' => ⟨by rw [hq'.1]; cases f <;> rfl, YTops.gst hq'.2 ?_⟩
      refine YTops.gst (st' := ((xG l c ls rs i k p a o f).D 49).st) (by cases f <;> exact gst_to _ (by rfl) rfl ⟨by rfl, by rfl⟩) ?_
      cases f with
      | false =>
        have hs0 : inStep c ls rs i a (k, o) = some (.inl (wi64 (k + 1), o)) := by unfold inStep; simp only [hc, h5, h7, h8]; rfl
        rw [hs0] at hit
        refine YTops.step rfl (YTops.step rfl (YTops.step rfl (YTops.nil ?_)))
        show YT _ _ _ _ _ _ _
        refine YT.cond (b := false) rfl (YT.skip ?_)
        show YT _ _ _ _ _ _ _
        exact next o _ hit (gst_to (xC l c ls rs i k a o) (by rfl) rfl ⟨by rfl, by rfl⟩)
      | true =>
        cases hd : (gRd o ⟨i, k, p, 0⟩).run with
        | none => have hs0 : inStep c ls rs i a (k, o) = none := by unfold inStep; simp only [hc, h5, h7, h8, hd]; rfl
                  rw [hs0] at hit; simp at hit
        | some u =>
        have hs0 : inStep c ls rs i a (k, o) = some (.inl (wi64 (k + 1), o ++ [⟨i, k, p, 0⟩])) := by unfold inStep; simp only [hc, h5, h7, h8, hd]; rfl
        rw [hs0] at hit
        rw [ext_susp (x := xG l c ls rs i k p a o true) (by rfl) 49]
        refine YTops.yieldG (hi := rfl) rfl rfl rfl rfl rfl rfl rfl ?_ ?_ ?_ rfl (roundMake c ls rs o ⟨i, k, p, 0⟩ hd) ?_ ?_
        · exact fun i => tOf_ok (by rfl) i
        · exact fun i => tOf_ok (by rfl) i
        · intro p hp
          have : p ∈ [50] := hp
          simp at this
          subst this
          exact (by decide : 50 < 154)
        · exact fun e b' h => .inl h.1
        · intro e b' h
          obtain ⟨rfl, rfl⟩ := h
          refine YTops.step rfl (YTops.step rfl (YTops.nil ?_))
          show YT _ _ _ _ _ _ _
          refine YT.cond (b := false) rfl (YT.skip ?_)
          show YT _ _ _ _ _ _ _
          exact next _ _ hit (gst_to (xC l c ls rs i k a (o ++ [⟨i, k, p, 0⟩])) (by rfl) rfl ⟨by rfl, by rfl⟩)
theorem iterMake (c : Bool) (ls rs : List SCandidate) {r : List SPair} (h : pairsM c ls rs = some r) :
    IterT Tryz.prog GG cIt 49 paArgs (ofL (paB c ls rs [])) paYL (fun e b => e = .normal ∧ b = ofL (paB c ls rs r)) := by
  refine IterT.of fun l => ?_
  have e0 : entry 49 (paArgs l) (ofL (paB c ls rs [])) = ((xI l c ls rs []).D 49).st := (entry_ext (x := xI l c ls rs []) (by rfl) (by rfl) 49).symm
  rw [e0, eIt]
  refine YT.seq (YT.piece (kR0 l c ls rs []) mixed rfl (by rfl) fun s g => ?_)
  show YT _ _ _ _ _ _ _
  refine YT.gst g ?_
  refine YT.block ?_
  refine YT.loop (fun m s => s.x = .normal ∧ ∃ y : Int × List SPair, Gst GG s.st ((xA l c ls rs y.1 y.2).D 49).st ∧ iter (outStep c ls rs) m y = some r) (fun m s hI => ?_) (n := FUEL) ⟨rfl, (0, []), Gst.same _, h⟩
  obtain ⟨x, st⟩ := s
  obtain ⟨rfl, ⟨i, o⟩, g, hit⟩ := hI
  refine YT.gst g ?_
  cases m with
  | zero => simp [iter] at hit
  | succ m =>
    rw [iter_succ] at hit
    rw [eOut]
    refine YT.seq (YT.piece (kR1 l c ls rs i o) mixed rfl (by rfl) fun s g => ?_)
    show YT _ _ _ _ _ _ _
    refine YT.gst g ?_
    cases hc : decide (i < (ls.length : Int)) with
    | false =>
      have hs0 : outStep c ls rs (i, o) = some (.inr o) := by unfold outStep; simp only [hc]; rfl
      rw [hs0] at hit
      obtain rfl : o = r := Option.some.inj hit
      refine YT.seq (YT.cond (b := false) (by show some (V.bool (decide (i < (ls.length : Int)))) = _; rw [hc]) (YT.exit ?_))
      refine ⟨.inl rfl, 49, tOf (xA1 l c ls rs i o).ts, ofL (paB c ls rs o), ?_, rfl, rfl⟩
      show Gst GG ((xA1 l c ls rs i o).D 49).st _
      rw [ext_susp (by rfl) 49]
      exact Gst.same _
    | true =>
      refine YT.seq (YT.cond (b := true) (by show some (V.bool (decide (i < (ls.length : Int)))) = _; rw [hc]) (YT.skip ?_))
      show YT _ _ _ _ _ _ _
      refine YT.gst (st' := ((xA l c ls rs i o).D 49).st) (gst_to (xA l c ls rs i o) (by rfl) rfl ⟨by rfl, by rfl⟩) ?_
      cases h2 : (gR2 ls i).run with
      | none => have hs0 : outStep c ls rs (i, o) = none := by unfold outStep; simp only [hc, h2]; rfl
                rw [hs0] at hit; simp at hit
      | some a =>
      cases h3 : inM c ls rs i a o with
      | none => have hs0 : outStep c ls rs (i, o) = none := by unfold outStep; simp only [hc, h2, h3]; rfl
                rw [hs0] at hit; simp at hit
      | some o2 =>
      have hs0 : outStep c ls rs (i, o) = some (.inl (wi64 (i + 1), o2)) := by unfold outStep; simp only [hc, h2, h3]; rfl
      rw [hs0] at hit
      refine YT.seq (YT.block (YT.seq (YT.piece (kR2 l c ls rs i o) mixed h2 (by rfl) fun s g => ?_)))
      show YT _ _ _ _ _ _ _
      refine YT.gst g ?_
      refine YT.gst (Gst.snapT (t := 5) (b := 5) (k := ⟨8, true, [caC a]⟩) (row := caC a) rfl rfl rfl (by show 8 < MAPS; decide) (by simp [caC, dcell])) ?_
      refine YT.gst (st' := ((xB l c ls rs i a o).D 49).st) (gst_to (xB l c ls rs i a o) (by rfl) rfl ⟨by rfl, by rfl⟩) ?_
      refine YT.seq (YT.piece (kR3 l c ls rs i a o) mixed rfl (by rfl) fun s g => ?_)
      show YT _ _ _ _ _ _ _
      refine YT.gst g ?_
      refine inner l c ls rs i a o h3 fun st g => ?_
      show YT _ _ _ _ _ _ _
      refine YT.gst g ?_
      refine YT.piece (kR10 l c ls rs i o2) mixed rfl (by rfl) fun s g => ?_
      exact ⟨m, Nat.lt_succ_self m, rfl, (wi64 (i + 1), o2), g, hit⟩
def paFTs : List (Nat × V) := [(6, .ptr 6 0 0), (7, .int .i64 0), (8, .ptr 700061 0 0), (9, .ptr 9 0 0)]
def paFL (c : Bool) (ls rs : List SCandidate) (out : List SPair) : List (Nat × Blk) :=
 [(6, ⟨4, true, [[.bool false, .nilsl, .nilsl, .nilsl]]⟩), (9, ⟨1, true, [[.ref 900070 0 out.length]]⟩), (700061, ⟨4, true, [[.bool c, .ref 700062 0 ls.length, .ref 700063 0 rs.length, .nilsl]]⟩)]
def paFT (ls rs : List SCandidate) (out : List SPair) : List BT := [BT.of 900070 tySPair 4 out true, BT.of 700062 tySCandidate 8 ls true, BT.of 700063 tySCandidate 8 rs true]
def xPa (c : Bool) (ls rs : List SCandidate) (out : List SPair) : Ext := Ext.of .normal (paFTs ++ [(49, .fn 32 [.ptr 700061 0 0] [])]) (paFL c ls rs out) (paFT ls rs out) (by rfl)
def ePa (c : Bool) (ls rs : List SCandidate) (out : List SPair) : Ext := Ext.of .normal paFTs (paFL c ls rs out) (paFT ls rs out) (by rfl)
theorem sh_rows {α : Type} (ty : Ty α) (l : List α) : (List.map ty.c l).map (renL sh) = List.map ty.c l := by
 have h : DataRows (l.map ty.c) := ty.data l
 have : (⟨0, true, List.map ty.c l⟩ : Blk).ren sh = ⟨0, true, List.map ty.c l⟩ := DataRows.ren (k := ⟨0, true, List.map ty.c l⟩) h sh
 have := congrArg Blk.rows this
 exact this
theorem bsMake (c : Bool) (ls rs : List SCandidate) (out : List SPair) : shB (ofL (xPa c ls rs out).bs) = ofL (paB c ls rs out) := by
 rw [shB_ofL]
 have : ((xPa c ls rs out).bs.map fun p => (sh p.1, p.2.ren sh)) = paB c ls rs out := by
  simp only [xPa, Ext.of, paFL, paFT, List.cons_append, List.nil_append, List.map_cons, List.map_nil, BT.of, Blk.ren, sh_rows]
  kernel_rfl
 rw [this]
theorem loopMake (c : Bool) (ls rs : List SCandidate) {r : List SPair} (h : pairsM c ls rs = some r) :
  TV Tryz.prog GG (.rangeFunc (.tmp 49) #[50] paAs paBd) ((xPa c ls rs []).D 154).st (fun e st => e = .normal ∧ Gst GG st ((ePa c ls rs r).D 154).st) := by
 have ht : (fun i => renV sh (((xPa c ls rs []).D 154).st.t i)) = tOf paTs := by
  have : ((xPa c ls rs []).D 154).st.t = tOf (xPa c ls rs []).ts := rfl
  rw [this, tOf_shift]
  have : ((xPa c ls rs []).ts.map fun p => (p.1, renV sh p.2)) = paTs := by kernel_rfl
  rw [this]
 have hb : Tryz.f32.body = some cIt := by kernel_rfl
 refine TV.rangeF (f := 32) (fi := Tryz.f32) (c := cIt) (first := [.ptr 1700061 0 0]) (caps := []) (R := fun e b => e = .normal ∧ b = ofL (paB c ls rs r)) ?_ Tryz.func32 hb (by kernel_rfl) (by kernel_rfl) ?_ (fun i => ?_) ?_ ?_
 ·show some ((fun i => renV sh (((xPa c ls rs []).D 154).st.t i)) 49) = _
  rw [ht]; rfl
 ·intro b k hk
  obtain ⟨q, h1, rfl, _⟩ := find_b (show ofL (xPa c ls rs []).bs b = some k from hk)
  show (((xPa c ls rs []).us).contains q.1 || uTop q.1) = true
  simp only [Ext.us, Bool.or_eq_true, List.contains_eq_mem, decide_eq_true_eq]
  exact .inl (List.mem_map.2 ⟨q, h1, rfl⟩)
 ·have := congrFun ht i
  rw [show renV sh (((xPa c ls rs []).D 154).st.t i) = tOf paTs i from this]
  exact tOf_ok (by rfl) i
 ·have hbb : shB ((xPa c ls rs []).D 154).st.b = ofL (paB c ls rs []) := bsMake c ls rs []
  rw [ht, hbb]
  have e : max Tryz.f32.ntmps ([V.ptr 1700061 0 0].length + 1 + ([] : List V).length) = 49 := by kernel_rfl
  rw [e]
  exact iterMake c ls rs h
 ·intro e b' ho
  obtain ⟨rfl, rfl⟩ := ho
  refine ⟨.inl rfl, ofL (xPa c ls rs r).bs, (bsMake c ls rs r).symm, ?_, rfl, ?_⟩
  ·show (stOf 154 (xPa c ls rs []).ts (xPa c ls rs r).bs (xPa c ls rs []).us).known
   refine ⟨fun i b hm => ?_, fun i k hk => ?_⟩
   ·have hm' : b ∈ refsV (tOf (xPa c ls rs []).ts i) := hm
    unfold tOf at hm'
    cases hf : (xPa c ls rs []).ts.find? (fun p => p.1 == i) with
    | none => rw [hf] at hm'; simp [refsV] at hm'
    | some p =>
     rw [hf] at hm'
     have all : ((xPa c ls rs []).ts.all fun p => (refsV p.2).all fun b => (xPa c ls rs []).us.contains b) = true := by rfl
     have := List.all_eq_true.1 (List.all_eq_true.1 all p (List.mem_of_find?_eq_some hf)) b hm'
     show ((xPa c ls rs []).us.contains b || uTop b) = true
     rw [this]; rfl
   ·obtain ⟨q, h1, rfl, rfl⟩ := find_b (show ofL (xPa c ls rs r).bs i = some k from hk)
    have husl : (xPa c ls rs r).us = (xPa c ls rs []).us := rfl
    refine ⟨?_, fun b hm => ?_⟩
    ·show ((xPa c ls rs []).us.contains q.1 || uTop q.1) = true
     rw [← husl]
     simp only [Ext.us, Bool.or_eq_true, List.contains_eq_mem, decide_eq_true_eq]
     exact .inl (List.mem_map.2 ⟨q, h1, rfl⟩)
    ·have : q ∈ paFL c ls rs r ++ (paFT ls rs r).map fun x => (x.id, x.k) := h1
     rcases List.mem_append.1 this with h2 | h2
     ·have all : ((paFL c ls rs r).all fun q => (refsL q.2.rows.flatten).all fun b => (xPa c ls rs []).us.contains b) = true := by rfl
      have := List.all_eq_true.1 (List.all_eq_true.1 all q h2) b hm
      show ((xPa c ls rs []).us.contains b || uTop b) = true
      rw [this]; rfl
     ·have hdat := bts_dat _ h2
      rw [hdat.refs] at hm; simp at hm
  ·show Gst GG (stOf 154 (xPa c ls rs []).ts (xPa c ls rs r).bs (xPa c ls rs []).us) _
   exact gst_to (ePa c ls rs r) (by rfl) rfl ⟨by rfl, by rfl⟩
noncomputable def subPairs (c : Bool) (ls rs : List SCandidate) : Sub Tryz.prog GG (List SPair) :=
 ⟨.rangeFunc (.tmp 49) #[50] paAs paBd, 154, xPa c ls rs [], pairsM c ls rs, ePa c ls rs, fun _ h => loopMake c ls rs h⟩
end Go.Proofs.YtioobnkmohikjaaGreatDoor
namespace Go.Proofs.YtioobnkmohikjaaGreatDoor
open Go Go.EV
set_option maxRecDepth 100000
noncomputable def cMk : Code := cB (cR (Tryz.f11.body.getD .skip))
def cWt : Code → Code
 | .seq _ (.seq _ (.seq _ (.seq _ (.seq _ (.seq _ (.seq _ (.seq _ (.seq _ (.seq _ (.seq _ (.seq c _))))))))))) => c
 | _ => .skip
noncomputable def wCode : Code := cWt cMk
noncomputable def wOps29 : Array Oper := rOps (cL wCode)
noncomputable def wLoop : Code := cB (cB (cR wCode))
noncomputable def wOps30 : Array Oper := rOps (cL wLoop)
noncomputable def wBody : Code := cB (cR (cR wLoop))
noncomputable def wOps31 : Array Oper := rOps (cL wBody)
noncomputable def wOps32 : Array Oper := rOps (cR wBody)
theorem eWt : wCode = .seq (.region 29 wOps29 false) (.block 6 (.loop (.seq (.region 30 wOps30 false) (.seq (.cond (.tmp 139) .skip (.exit 6)) (.block 7 (.seq (.region 31 wOps31 false) (.region 32 wOps32 false))))))) := by kernel_rfl
def wTs : List (Nat × V) := [(6, .ptr 6 0 0), (7, .int .i64 0), (8, .ptr 700061 0 0)]
def wL (c : Bool) (ls rs : List SCandidate) (m : Nat) : List (Nat × Blk) := [(6, ⟨4, true, [[.bool false, .nilsl, .nilsl, .nilsl]]⟩), (700061, ⟨4, true, [[.bool c, .ref 700062 0 ls.length, .ref 700063 0 rs.length, .ref 700064 0 m]]⟩)]
def wT (ls rs : List SCandidate) (s : List SPair) : List BT := [BT.of 700062 tySCandidate 8 ls true, BT.of 700063 tySCandidate 8 rs true, BT.of 700064 tySPair 4 s true]
section
variable (c : Bool) (ls rs : List SCandidate) (m : Nat)
def eW (s : List SPair) : Ext := Ext.of .normal wTs (wL c ls rs m) (wT ls rs s) (by rfl)
def xW (l : List SEnt90) (s : List SPair) : Ext := Ext.of .normal (wTs ++ [(14, .mp 700065)]) (wL c ls rs m) (wT ls rs s ++ [BT.of 700065 tySEnt90 1114370 l true]) (by rfl)
def xWi (i : Int) (s : List SPair) : Ext := Ext.of .normal (wTs ++ [(21, .int .i64 i)]) (wL c ls rs m) (wT ls rs s) (by rfl)
def gW (i : Int) (s : List SPair) : TT (List SPair) :=
 .chk 32007 (decide (0 ≤ i) && decide (i < (m : Int))) (.row 32009 tySPair s (0 + i.toNat) true fun x =>
  .re 32009 (ReW.put 700064 4 tySPair s (0 + i.toNat) (SPair.mk x.fLocal x.fRemote x.fPriority 1)) (.done (s.set (0 + i.toNat) (SPair.mk x.fLocal x.fRemote x.fPriority 1))))
theorem kW (i : Int) (s : List SPair) : PieceOps Tryz.prog GG [6, 7, 8] 154 32 wOps32 9 (xWi c ls rs m i s) (gW m i s) (fun s' => eW c ls rs m s') := by unfold PieceOps; kernel_rfl
end
def wSet (m : Nat) (i : Int) (s : List SPair) : Option (List SPair) :=
 bif decide (0 ≤ i) && decide (i < (m : Int)) then (match s[i.toNat]? with | some x => some (s.set i.toNat (SPair.mk x.fLocal x.fRemote x.fPriority 1)) | none => none) else none
theorem gW_run (m : Nat) (i : Int) (s : List SPair) : (gW m i s).run = wSet m i s := by
 unfold gW wSet
 simp only [T.run, Nat.zero_add, cond_true]
 cases (decide (0 ≤ i) && decide (i < (m : Int))) with
 | false => rfl
 | true => simp only [cond_true]; cases s[i.toNat]? <;> rfl
theorem wSet_comm (m : Nat) (i j : Int) (s : List SPair) : (wSet m i s).bind (wSet m j) = (wSet m j s).bind (wSet m i) := by
 unfold wSet
 cases hi : (decide (0 ≤ i) && decide (i < (m : Int))) <;> cases hj : (decide (0 ≤ j) && decide (j < (m : Int)))
 ·rfl
 ·simp only [cond_true, cond_false]
  cases s[j.toNat]? <;> rfl
 ·simp only [cond_true, cond_false]
  cases s[i.toNat]? <;> rfl
 ·simp only [cond_true]
  by_cases e : i.toNat = j.toNat
  ·rw [e]
  ·cases h1 : s[i.toNat]? with
   | none =>
    cases h2 : s[j.toNat]? with
    | none => rfl
    | some y => simp only [Option.bind_none, Option.bind_some, List.getElem?_set_ne (Ne.symm e), h1]
   | some x =>
    cases h2 : s[j.toNat]? with
    | none => simp only [Option.bind_none, Option.bind_some, List.getElem?_set_ne e, h2]
    | some y => simp only [Option.bind_some, List.getElem?_set_ne e, List.getElem?_set_ne (Ne.symm e), h1, h2, Option.some.injEq]; exact List.set_comm _ _ e
def wAll (m : Nat) (l : List SEnt90) (s : List SPair) : Option (List SPair) := foldB (fun x s => wSet m x.fv s) l s
theorem loopWait (c : Bool) (ls rs : List SCandidate) (m : Nat) (l : List SEnt90) (s0 : List SPair) {r : List SPair} (h : wAll m l s0 = some r) :
  TV Tryz.prog GG wCode ((xW c ls rs m l s0).D 154).st (fun e st => e = .normal ∧ Gst GG st ((eW c ls rs m r).D 154).st) := by
 rw [eWt]
 have key := TV.rangeMap (P := Tryz.prog) (G := GG) (ty := tySEnt90) (z := 1114370) (b := 700065) (mt := 90) (kt := 91) (et := 3) (n := 154) (ex := true) (l := l) (kd := .i64) (fv := fun x => x.fv) (i29 := 29) (i30 := 30) (i31 := 31) (i32 := 32) (B := 6) (B2 := 7) (ops29 := wOps29) (ops30 := wOps30) (ops31 := wOps31) (ops32 := wOps32)
  (tm := 14) (t0 := 136) (it := 137) (tn := 138) (tb := 139) (te := 140) (tw := 141) (tv := 21) (st := ((xW c ls rs m l s0).D 154).st) (S := fun s => ((eW c ls rs m s).D 154).st) (body := fun x s => wSet m x.fv s) (s0 := s0) (r := r)
  (by kernel_rfl) (by kernel_rfl) (by kernel_rfl) (by kernel_rfl) (by decide) (by decide) (by kernel_rfl) ⟨by decide, by decide⟩ (by decide) rfl rfl rfl (fun x => rfl) (fun s => ⟨rfl, rfl, rfl, rfl, rfl, rfl, rfl⟩)
  (gst_to (eW c ls rs m s0) (by rfl) rfl ⟨by rfl, by rfl⟩) (fun x s s' hs => ?_) (fun x y s => wSet_comm m x.fv y.fv s) h
 ·exact key.mono fun e st hq => ⟨hq.1, by rw [hq.2]; exact Gst.same _⟩
 ·have e : ((eW c ls rs m s).D 154).st.setT 21 (.int .i64 x.fv) = ((xWi c ls rs m x.fv s).D 154).st := by
   refine St.ext' rfl fun l => ?_
   cases l with
   | b j => exact ⟨rfl, rfl⟩
   | t j =>
    show (if j = 21 then V.int .i64 x.fv else tOf wTs j) = tOf (wTs ++ [(21, .int .i64 x.fv)]) j
    unfold tOf
    by_cases hj : j = 21
    ·subst hj; rfl
    ·rw [if_neg hj, List.find?_append]
     cases wTs.find? (fun p => p.1 == j) with
     | some p => rfl
     | none =>
      have : ((21 : Nat) == j) = false := by simpa using fun e => hj e.symm
      simp [this]
  have := (kW c ls rs m x.fv s).tv mixed (r := s') (by rw [gW_run]; exact hs) (by rfl)
  rw [← e] at this
  exact this
noncomputable def subWait (c : Bool) (ls rs : List SCandidate) (m : Nat) (l : List SEnt90) (s : List SPair) : Sub Tryz.prog GG (List SPair) :=
 ⟨wCode, 154, xW c ls rs m l s, wAll m l s, eW c ls rs m, fun _ h => loopWait c ls rs m l s h⟩
end Go.Proofs.YtioobnkmohikjaaGreatDoor
namespace Go.Proofs.YtioobnkmohikjaaGreatDoor
open Go Go.EV
set_option maxRecDepth 100000
noncomputable def g31 (p0 : (List SCandidate)) : TT Unit := .app 3003 tySCandidate [] p0 88 true (by intros; rfl) (.done ())
theorem k31y : Piece Tryz.prog GG [2] 8 (cloneYes Tryz.f31.body) (Ext.lit .normal [(2, .nilsl)] []) (.done () : TT Unit) (fun _ => Ext.lit .ret [(2, .nilsl)] []) := by unfold Piece; kernel_rfl
theorem k31r (p0 : (List SCandidate)) : Piece Tryz.prog GG [0, 2, 5, 6, 7] 8 (cloneRest Tryz.f31.body) (Ext.lit .normal [(0, .sl false 8 (List.map tySCandidate.c p0)), (2, .nilsl)] []) (g31 p0) (fun _ => Ext.of .ret [(2, .ref 7 0 ([] ++ p0).length)] [] [BT.of 7 tySCandidate 8 ([] ++ p0)] (by rfl)) := by unfold Piece; kernel_rfl
theorem k31 (p0 : (List SCandidate)) {r : Unit} (h : (g31 p0).run = some r) : CallC Tryz.prog GG 31 [.sl false 8 (List.map tySCandidate.c p0)] (ofL []) (.ref 7 0 p0.length) (ofL [(7, ⟨8, true, List.map tySCandidate.c p0⟩)]) :=
 clone_ok (ty := tySCandidate) (ops0 := cloneOps0 Tryz.f31.body) (ops1 := cloneOps1 Tryz.f31.body) (yes := cloneYes Tryz.f31.body) (rest := cloneRest Tryz.f31.body) (t := 31) mixed (by decide) Tryz.func31 (by kernel_rfl) (by kernel_rfl) (by kernel_rfl) (by kernel_rfl) (by kernel_rfl) (by kernel_rfl) (by kernel_rfl) (by kernel_rfl) (by kernel_rfl) k31y (k31r p0) (by rfl) h
noncomputable def s31 (p0 : (List SCandidate)) : EV.Spec Tryz.prog GG Unit := ⟨31, [.sl false 8 (List.map tySCandidate.c p0)], [], (g31 p0).run, fun _ => .ref 7 0 p0.length, fun _ => [(7, ⟨8, true, List.map tySCandidate.c p0⟩)], [7], fun _ p hp _ => by
 rw [List.mem_singleton.1 hp]; exact tySCandidate.data _, fun _ h => k31 p0 h⟩
noncomputable def g11 (p0 : (List SCandidate)) (p1 : (List SCandidate)) (p2 : Bool) : TT (SList × Int) :=
 .cnd 1 [29]
 (.br 1005 (decide ((12 : Int) < (mlen tySCandidate p0)))
  (.done true)
  (.done (decide ((12 : Int) < (mlen tySCandidate p1)))))
 (fun (c684 : Bool) => [.bool c684]) fun c684 =>
 .br 0 c684
 (.done ((SList.mk false [] [] []), 3))
 (.cnd 3 [38]
  (.call 3002 (s30 p0) [] [] fun r685 =>
   .br 3005 (!r685)
   (.done true)
   (.call 3006 (s30 p1) [] [] fun r686 =>
    .done (!r686)))
  (fun (c687 : Bool) => [.bool c687]) fun c687 =>
  .br 0 c687
  (.done ((SList.mk false [] [] []), 90))
  (.call 5003 (s31 p0) [] [(7, 500040)] fun r688 =>
   .call 5005 (s31 p1) [] [(7, 500041)] fun r689 =>
   .gh 1 (.ren 47 700061) (.gh 1 (.ren 500040 700062) (.gh 1 (.ren 500041 700063) (.gh 1 (.virtC 900070 9 0 4) (.sub (subPairs p2 p0 p1) fun r690 =>
   .call 10002 (s33 r690.length r690) [(1000000, 900070)] [] fun r701 =>
   .opr 11001 (Rule.makeMap 86 57 1114373 (by decide)) fun _ =>
   .gh 1 (.virtC 600043 700061 3 4) (.bind 0
   (.lp (fun (l706 : (List SEnt86) × (List SPair) × Int) => Ext.of .normal [(6, .ptr 6 0 0), (7, .int .i64 0), (8, .ptr 700061 0 0), (11, .mp 57), (58, .ref 900070 0 r690.length), (59, .int .i64 (r690.length : Int)), (60, .int .i64 l706.2.2)] [(6, ⟨4, true, [[.bool false, .nilsl, .nilsl, .nilsl]]⟩), (700061, ⟨4, true, [[.bool p2, .ref 700062 0 p0.length, .ref 700063 0 p1.length, .ref 600043 0 l706.2.1.length]]⟩)] [BT.of 57 tySEnt86 1114373 l706.1 true, BT.of 600043 tySPair 4 l706.2.1 true, BT.of 700062 tySCandidate 8 p0 true, BT.of 700063 tySCandidate 8 p1 true, BT.of 900070 tySPair 4 r701 true] (by rfl))
    (fun l706 =>
     .br 0 (decide (l706.2.2 < (r690.length : Int)))
     (.chk 14001 (decide (0 ≤ l706.2.2) && decide (l706.2.2 < (r690.length : Int))) (.row 14002 tySPair r701 (0 + l706.2.2.toNat) true fun x707 =>
      .br 0 ((l706.2.1.length : Int) == 36)
      (.done (.inr l706.2.1))
      (.view 16004 (s36 (SPlanner.mk (SList.mk p2 p0 p1 l706.2.1)) x707) [(VwW.of 700062 tySCandidate p0), (VwW.of 700063 tySCandidate p1), (VwW.of 600043 tySPair l706.2.1)] fun r708 =>
       .opr 16005 (Rule.look (mt := 86) (kt := 88) (et := 4) (z := 1114373) (ty := tySEnt86) (p := (fun x => ((decide (r708.fbase.fHost = x.fk.fbase.fHost)) && ((r708.fbase.fPort == x.fk.fbase.fPort) && ((decide (r708.faddr.fHost = x.fk.faddr.fHost)) && ((r708.faddr.fPort == x.fk.faddr.fPort) && ((r708.fcomponent == x.fk.fcomponent) && true))))))) (kc := [.str r708.fbase.fHost, .int .i64 r708.fbase.fPort, .str r708.faddr.fHost, .int .i64 r708.faddr.fPort, .int .i64 r708.fcomponent]) (.tmp 71) (.tmp 74) 75 57 true l706.1 (.bool false) (.bool (mlook l706.1 (fun x => ((decide (r708.fbase.fHost = x.fk.fbase.fHost)) && ((r708.fbase.fPort == x.fk.fbase.fPort) && ((decide (r708.faddr.fHost = x.fk.faddr.fHost)) && ((r708.faddr.fPort == x.fk.faddr.fPort) && ((r708.fcomponent == x.fk.fcomponent) && true)))))) (fun x => x.fv) false)) ⟨by kernel_rfl, by kernel_rfl, by kernel_rfl, fun _ => by kernel_rfl⟩ (by kernel_rfl) (mlook_map _ _ (fun x : SEnt86 => x.fv) false V.bool)) fun _ =>
       .br 0 (mlook l706.1 (fun x => ((decide (r708.fbase.fHost = x.fk.fbase.fHost)) && ((r708.fbase.fPort == x.fk.fbase.fPort) && ((decide (r708.faddr.fHost = x.fk.faddr.fHost)) && ((r708.faddr.fPort == x.fk.faddr.fPort) && ((r708.fcomponent == x.fk.fcomponent) && true)))))) (fun x => x.fv) false)
       (.done (.inl (l706.1, l706.2.1, (wi64 (l706.2.2 + 1)))))
       (.view 17004 (s36 (SPlanner.mk (SList.mk p2 p0 p1 l706.2.1)) x707) [(VwW.of 700062 tySCandidate p0), (VwW.of 700063 tySCandidate p1), (VwW.of 600043 tySPair l706.2.1)] fun r709 =>
        .opr 17005 (Rule.put (mt := 86) (kt := 88) (et := 4) (z := 1114373) (ty := tySEnt86) (p := (fun x => ((decide (r709.fbase.fHost = x.fk.fbase.fHost)) && ((r709.fbase.fPort == x.fk.fbase.fPort) && ((decide (r709.faddr.fHost = x.fk.faddr.fHost)) && ((r709.faddr.fPort == x.fk.faddr.fPort) && ((r709.fcomponent == x.fk.fcomponent) && true))))))) (kc := [.str r709.fbase.fHost, .int .i64 r709.fbase.fPort, .str r709.faddr.fHost, .int .i64 r709.faddr.fPort, .int .i64 r709.fcomponent]) (.tmp 76) (.tmp 79) (.const (.bool true)) 57 l706.1 (SEnt86.mk r709 true) [.bool true] ⟨by kernel_rfl, by kernel_rfl, by kernel_rfl, fun _ => by kernel_rfl⟩ (by rfl) (by kernel_rfl) (by kernel_rfl) (by decide) (by decide)) fun _ =>
        .app 18009 tySPair l706.2.1 [x707] 32 false (by intro h; cases h) (.gh 0 (.drop [600043]) (.gh 0 (.ren 88 600043) (.done (.inl ((mput l706.1 (fun x => ((decide (r709.fbase.fHost = x.fk.fbase.fHost)) && ((r709.fbase.fPort == x.fk.fbase.fPort) && ((decide (r709.faddr.fHost = x.fk.faddr.fHost)) && ((r709.faddr.fPort == x.fk.faddr.fPort) && ((r709.fcomponent == x.fk.fcomponent) && true)))))) (SEnt86.mk r709 true)), (l706.2.1 ++ [x707]), (wi64 (l706.2.2 + 1)))))))))))
     (.done (.inr l706.2.1)))
    ([], [], 0))
   (fun (e710 : (List SPair)) => Ext.of (.exit 2) [(6, .ptr 6 0 0), (7, .int .i64 0), (8, .ptr 700061 0 0)] [(6, ⟨4, true, [[.bool false, .nilsl, .nilsl, .nilsl]]⟩), (700061, ⟨4, true, [[.bool p2, .ref 700062 0 p0.length, .ref 700063 0 p1.length, .ref 600043 0 e710.length]]⟩)] [BT.of 600043 tySPair 4 e710 true, BT.of 700062 tySCandidate 8 p0 true, BT.of 700063 tySCandidate 8 p1 true] (by rfl))
   (fun e710 =>
    .opr 20001 (Rule.makeMap 90 93 1114370 (by decide)) fun _ =>
    .bind 1
    (.lp (fun (l718 : (List SEnt90) × Int) => Ext.of .normal [(6, .ptr 6 0 0), (7, .int .i64 0), (8, .ptr 700061 0 0), (14, .mp 93), (98, .ref 600043 0 e710.length), (99, .int .i64 (e710.length : Int)), (100, .int .i64 l718.2)] [(6, ⟨4, true, [[.bool false, .nilsl, .nilsl, .nilsl]]⟩), (700061, ⟨4, true, [[.bool p2, .ref 700062 0 p0.length, .ref 700063 0 p1.length, .ref 600043 0 e710.length]]⟩)] [BT.of 93 tySEnt90 1114370 l718.1 true, BT.of 600043 tySPair 4 e710 true, BT.of 700062 tySCandidate 8 p0 true, BT.of 700063 tySCandidate 8 p1 true] (by rfl))
     (fun l718 =>
      .br 0 (decide (l718.2 < (e710.length : Int)))
      (.chk 23002 (decide (0 ≤ l718.2) && decide (l718.2 < (e710.length : Int))) (.row 23003 tySPair e710 (0 + l718.2.toNat) true fun x719 =>
       .view 24003 (s37 (SPlanner.mk (SList.mk p2 p0 p1 e710)) x719) [(VwW.of 700062 tySCandidate p0), (VwW.of 700063 tySCandidate p1), (VwW.of 600043 tySPair e710)] fun r720 =>
       .opr 25003 (Rule.look2 (mt := 90) (kt := 91) (et := 3) (z := 1114370) (ty := tySEnt90) (p := (fun x => ((decide (r720.a0 = x.fk.a0)) && ((decide (r720.a1 = x.fk.a1)) && true)))) (kc := [.str r720.a0, .str r720.a1]) (.tmp 109) (.tmp 110) 111 93 true l718.1 (.int .i64 0) (.int .i64 (mlook l718.1 (fun x => ((decide (r720.a0 = x.fk.a0)) && ((decide (r720.a1 = x.fk.a1)) && true))) (fun x => x.fv) 0)) ⟨by kernel_rfl, by kernel_rfl, by kernel_rfl, fun _ => by kernel_rfl⟩ (by kernel_rfl) (mlook_map _ _ (fun x : SEnt90 => x.fv) 0 (V.int .i64))) fun _ =>
       .cnd 26 [131]
       (.br 26004 (!(l718.1.findIdx? (fun x => ((decide (r720.a0 = x.fk.a0)) && ((decide (r720.a1 = x.fk.a1)) && true)))).isSome)
        (.done true)
        (.view 26006 (s38 (SPlanner.mk (SList.mk p2 p0 p1 e710)) x719) [(VwW.of 700062 tySCandidate p0), (VwW.of 700063 tySCandidate p1), (VwW.of 600043 tySPair e710)] fun r721 =>
         .chk 26014 (decide (0 ≤ (mlook l718.1 (fun x => ((decide (r720.a0 = x.fk.a0)) && ((decide (r720.a1 = x.fk.a1)) && true))) (fun x => x.fv) 0)) && decide ((mlook l718.1 (fun x => ((decide (r720.a0 = x.fk.a0)) && ((decide (r720.a1 = x.fk.a1)) && true))) (fun x => x.fv) 0) < (e710.length : Int))) (.row 26015 tySPair e710 (0 + (mlook l718.1 (fun x => ((decide (r720.a0 = x.fk.a0)) && ((decide (r720.a1 = x.fk.a1)) && true))) (fun x => x.fv) 0).toNat) true fun x722 =>
         .view 26016 (s38 (SPlanner.mk (SList.mk p2 p0 p1 e710)) x722) [(VwW.of 700062 tySCandidate p0), (VwW.of 700063 tySCandidate p1), (VwW.of 600043 tySPair e710)] fun r723 =>
         .done (decide (r721 < r723)))))
       (fun (c724 : Bool) => [.bool c724]) fun c724 =>
       .br 0 c724
       (.opr 27004 (Rule.put (mt := 90) (kt := 91) (et := 3) (z := 1114370) (ty := tySEnt90) (p := (fun x => ((decide (r720.a0 = x.fk.a0)) && ((decide (r720.a1 = x.fk.a1)) && true)))) (kc := [.str r720.a0, .str r720.a1]) (.tmp 132) (.tmp 133) (.tmp 134) 93 l718.1 (SEnt90.mk r720 l718.2) [.int .i64 l718.2] ⟨by kernel_rfl, by kernel_rfl, by kernel_rfl, fun _ => by kernel_rfl⟩ (by rfl) (by kernel_rfl) (by kernel_rfl) (by decide) (by decide)) fun _ =>
        .done (.inl ((mput l718.1 (fun x => ((decide (r720.a0 = x.fk.a0)) && ((decide (r720.a1 = x.fk.a1)) && true))) (SEnt90.mk r720 l718.2)), (wi64 (l718.2 + 1)))))
       (.done (.inl (l718.1, (wi64 (l718.2 + 1)))))))
      (.done (.inr l718.1)))
     ([], 0))
    (fun (e725 : (List SEnt90)) => Ext.of (.exit 4) [(6, .ptr 6 0 0), (7, .int .i64 0), (8, .ptr 700061 0 0), (14, .mp 93)] [(6, ⟨4, true, [[.bool false, .nilsl, .nilsl, .nilsl]]⟩), (700061, ⟨4, true, [[.bool p2, .ref 700062 0 p0.length, .ref 700063 0 p1.length, .ref 600043 0 e710.length]]⟩)] [BT.of 93 tySEnt90 1114370 e725 true, BT.of 600043 tySPair 4 e710 true, BT.of 700062 tySCandidate 8 p0 true, BT.of 700063 tySCandidate 8 p1 true] (by rfl))
    (fun e725 =>
     .gh 1 (.ren 600043 700064) (.gh 1 (.ren 93 700065) (.sub (subWait p2 p0 p1 e710.length e725 e710) fun r726 =>
     .gh 0 (.share (VwW.of 700062 tySCandidate p0) 1) (.gh 0 (.share (VwW.of 700063 tySCandidate p1) 1) (.gh 0 (.share (VwW.part 700064 tySPair r726 e710.length) 1) (.done ((SList.mk p2 p0 p1 (r726.take e710.length)), 0)))))))))))))))
theorem k11 (p0 : (List SCandidate)) (p1 : (List SCandidate)) (p2 : Bool) : FnD Tryz.prog GG [0, 1, 2, 6, 7, 8, 9, 10, 11, 13, 14, 15, 16, 17, 18, 19, 21, 29, 38, 49, 50, 58, 59, 60, 61, 70, 75, 98, 99, 100, 101, 131, 139] Tryz.f11 [.sl false 8 (List.map tySCandidate.c p0), .sl false 8 (List.map tySCandidate.c p1), .bool p2] (g11 p0 p1 p2) (fun r => .tup [.agg [.bool r.1.fControlling, .sl false 8 (List.map tySCandidate.c r.1.fLocals), .sl false 8 (List.map tySCandidate.c r.1.fRemotes), .sl false 4 (List.map tySPair.c r.1.fPairs)], .int .i64 r.2]) := by unfold FnD; kernel_rfl
noncomputable def s11 (p0 : (List SCandidate)) (p1 : (List SCandidate)) (p2 : Bool) : EV.Spec Tryz.prog GG (SList × Int) := .ofFn 11 mixed Tryz.func11 (k11 p0 p1 p2)
noncomputable def g11_1 (p0 : Bool) (p1 : (List SCandidate)) (p2 : (List SCandidate)) : TT (Int × Bool × (List SCandidate) × (List SCandidate) × (List SPair)) :=
 .cnd 1 [29]
 (.br 1005 (decide ((12 : Int) < (p1.length : Int)))
  (.done true)
  (.done (decide ((12 : Int) < (p2.length : Int)))))
 (fun (c730 : Bool) => [.bool c730]) fun c730 =>
 .br 0 c730
 (.done (3, false, [], [], []))
 (.cnd 3 [38]
  (.view 3002 (s30 p1) [(VwW.of 1000000 tySCandidate p1)] fun r731 =>
   .br 3005 (!r731)
   (.done true)
   (.view 3006 (s30 p2) [(VwW.of 1000001 tySCandidate p2)] fun r732 =>
    .done (!r732)))
  (fun (c733 : Bool) => [.bool c733]) fun c733 =>
  .br 0 c733
  (.done (90, false, [], [], []))
  (.gh 7 (.share (VwW.of 1000000 tySCandidate p1) 0) (.gh 7 (.share (VwW.of 1000001 tySCandidate p2) 0) (.call 5003 (s31 p1) [] [(7, 500045)] fun r734 =>
   .call 5005 (s31 p2) [] [(7, 500046)] fun r735 =>
   .gh 1 (.ren 47 700061) (.gh 1 (.ren 500045 700062) (.gh 1 (.ren 500046 700063) (.gh 1 (.virtC 900070 9 0 4) (.sub (subPairs p0 p1 p2) fun r736 =>
   .call 10002 (s33 r736.length r736) [(1000000, 900070)] [] fun r747 =>
   .opr 11001 (Rule.makeMap 86 57 1114373 (by decide)) fun _ =>
   .gh 1 (.virtC 600048 700061 3 4) (.bind 0
   (.lp (fun (l752 : (List SEnt86) × (List SPair) × Int) => Ext.of .normal [(6, .ptr 6 0 0), (7, .int .i64 0), (8, .ptr 700061 0 0), (11, .mp 57), (58, .ref 900070 0 r736.length), (59, .int .i64 (r736.length : Int)), (60, .int .i64 l752.2.2)] [(6, ⟨4, true, [[.bool false, .nilsl, .nilsl, .nilsl]]⟩), (700061, ⟨4, true, [[.bool p0, .ref 700062 0 p1.length, .ref 700063 0 p2.length, .ref 600048 0 l752.2.1.length]]⟩)] [BT.of 57 tySEnt86 1114373 l752.1 true, BT.of 600048 tySPair 4 l752.2.1 true, BT.of 700062 tySCandidate 8 p1 true, BT.of 700063 tySCandidate 8 p2 true, BT.of 900070 tySPair 4 r747 true] (by rfl))
    (fun l752 =>
     .br 0 (decide (l752.2.2 < (r736.length : Int)))
     (.chk 14001 (decide (0 ≤ l752.2.2) && decide (l752.2.2 < (r736.length : Int))) (.row 14002 tySPair r747 (0 + l752.2.2.toNat) true fun x753 =>
      .br 0 ((l752.2.1.length : Int) == 36)
      (.done (.inr l752.2.1))
      (.view 16004 (s36 (SPlanner.mk (SList.mk p0 p1 p2 l752.2.1)) x753) [(VwW.of 700062 tySCandidate p1), (VwW.of 700063 tySCandidate p2), (VwW.of 600048 tySPair l752.2.1)] fun r754 =>
       .opr 16005 (Rule.look (mt := 86) (kt := 88) (et := 4) (z := 1114373) (ty := tySEnt86) (p := (fun x => ((decide (r754.fbase.fHost = x.fk.fbase.fHost)) && ((r754.fbase.fPort == x.fk.fbase.fPort) && ((decide (r754.faddr.fHost = x.fk.faddr.fHost)) && ((r754.faddr.fPort == x.fk.faddr.fPort) && ((r754.fcomponent == x.fk.fcomponent) && true))))))) (kc := [.str r754.fbase.fHost, .int .i64 r754.fbase.fPort, .str r754.faddr.fHost, .int .i64 r754.faddr.fPort, .int .i64 r754.fcomponent]) (.tmp 71) (.tmp 74) 75 57 true l752.1 (.bool false) (.bool (mlook l752.1 (fun x => ((decide (r754.fbase.fHost = x.fk.fbase.fHost)) && ((r754.fbase.fPort == x.fk.fbase.fPort) && ((decide (r754.faddr.fHost = x.fk.faddr.fHost)) && ((r754.faddr.fPort == x.fk.faddr.fPort) && ((r754.fcomponent == x.fk.fcomponent) && true)))))) (fun x => x.fv) false)) ⟨by kernel_rfl, by kernel_rfl, by kernel_rfl, fun _ => by kernel_rfl⟩ (by kernel_rfl) (mlook_map _ _ (fun x : SEnt86 => x.fv) false V.bool)) fun _ =>
       .br 0 (mlook l752.1 (fun x => ((decide (r754.fbase.fHost = x.fk.fbase.fHost)) && ((r754.fbase.fPort == x.fk.fbase.fPort) && ((decide (r754.faddr.fHost = x.fk.faddr.fHost)) && ((r754.faddr.fPort == x.fk.faddr.fPort) && ((r754.fcomponent == x.fk.fcomponent) && true)))))) (fun x => x.fv) false)
       (.done (.inl (l752.1, l752.2.1, (wi64 (l752.2.2 + 1)))))
       (.view 17004 (s36 (SPlanner.mk (SList.mk p0 p1 p2 l752.2.1)) x753) [(VwW.of 700062 tySCandidate p1), (VwW.of 700063 tySCandidate p2), (VwW.of 600048 tySPair l752.2.1)] fun r755 =>
        .opr 17005 (Rule.put (mt := 86) (kt := 88) (et := 4) (z := 1114373) (ty := tySEnt86) (p := (fun x => ((decide (r755.fbase.fHost = x.fk.fbase.fHost)) && ((r755.fbase.fPort == x.fk.fbase.fPort) && ((decide (r755.faddr.fHost = x.fk.faddr.fHost)) && ((r755.faddr.fPort == x.fk.faddr.fPort) && ((r755.fcomponent == x.fk.fcomponent) && true))))))) (kc := [.str r755.fbase.fHost, .int .i64 r755.fbase.fPort, .str r755.faddr.fHost, .int .i64 r755.faddr.fPort, .int .i64 r755.fcomponent]) (.tmp 76) (.tmp 79) (.const (.bool true)) 57 l752.1 (SEnt86.mk r755 true) [.bool true] ⟨by kernel_rfl, by kernel_rfl, by kernel_rfl, fun _ => by kernel_rfl⟩ (by rfl) (by kernel_rfl) (by kernel_rfl) (by decide) (by decide)) fun _ =>
        .app 18009 tySPair l752.2.1 [x753] 32 false (by intro h; cases h) (.gh 0 (.drop [600048]) (.gh 0 (.ren 88 600048) (.done (.inl ((mput l752.1 (fun x => ((decide (r755.fbase.fHost = x.fk.fbase.fHost)) && ((r755.fbase.fPort == x.fk.fbase.fPort) && ((decide (r755.faddr.fHost = x.fk.faddr.fHost)) && ((r755.faddr.fPort == x.fk.faddr.fPort) && ((r755.fcomponent == x.fk.fcomponent) && true)))))) (SEnt86.mk r755 true)), (l752.2.1 ++ [x753]), (wi64 (l752.2.2 + 1)))))))))))
     (.done (.inr l752.2.1)))
    ([], [], 0))
   (fun (e756 : (List SPair)) => Ext.of (.exit 2) [(6, .ptr 6 0 0), (7, .int .i64 0), (8, .ptr 700061 0 0)] [(6, ⟨4, true, [[.bool false, .nilsl, .nilsl, .nilsl]]⟩), (700061, ⟨4, true, [[.bool p0, .ref 700062 0 p1.length, .ref 700063 0 p2.length, .ref 600048 0 e756.length]]⟩)] [BT.of 600048 tySPair 4 e756 true, BT.of 700062 tySCandidate 8 p1 true, BT.of 700063 tySCandidate 8 p2 true] (by rfl))
   (fun e756 =>
    .opr 20001 (Rule.makeMap 90 93 1114370 (by decide)) fun _ =>
    .bind 1
    (.lp (fun (l764 : (List SEnt90) × Int) => Ext.of .normal [(6, .ptr 6 0 0), (7, .int .i64 0), (8, .ptr 700061 0 0), (14, .mp 93), (98, .ref 600048 0 e756.length), (99, .int .i64 (e756.length : Int)), (100, .int .i64 l764.2)] [(6, ⟨4, true, [[.bool false, .nilsl, .nilsl, .nilsl]]⟩), (700061, ⟨4, true, [[.bool p0, .ref 700062 0 p1.length, .ref 700063 0 p2.length, .ref 600048 0 e756.length]]⟩)] [BT.of 93 tySEnt90 1114370 l764.1 true, BT.of 600048 tySPair 4 e756 true, BT.of 700062 tySCandidate 8 p1 true, BT.of 700063 tySCandidate 8 p2 true] (by rfl))
     (fun l764 =>
      .br 0 (decide (l764.2 < (e756.length : Int)))
      (.chk 23002 (decide (0 ≤ l764.2) && decide (l764.2 < (e756.length : Int))) (.row 23003 tySPair e756 (0 + l764.2.toNat) true fun x765 =>
       .view 24003 (s37 (SPlanner.mk (SList.mk p0 p1 p2 e756)) x765) [(VwW.of 700062 tySCandidate p1), (VwW.of 700063 tySCandidate p2), (VwW.of 600048 tySPair e756)] fun r766 =>
       .opr 25003 (Rule.look2 (mt := 90) (kt := 91) (et := 3) (z := 1114370) (ty := tySEnt90) (p := (fun x => ((decide (r766.a0 = x.fk.a0)) && ((decide (r766.a1 = x.fk.a1)) && true)))) (kc := [.str r766.a0, .str r766.a1]) (.tmp 109) (.tmp 110) 111 93 true l764.1 (.int .i64 0) (.int .i64 (mlook l764.1 (fun x => ((decide (r766.a0 = x.fk.a0)) && ((decide (r766.a1 = x.fk.a1)) && true))) (fun x => x.fv) 0)) ⟨by kernel_rfl, by kernel_rfl, by kernel_rfl, fun _ => by kernel_rfl⟩ (by kernel_rfl) (mlook_map _ _ (fun x : SEnt90 => x.fv) 0 (V.int .i64))) fun _ =>
       .cnd 26 [131]
       (.br 26004 (!(l764.1.findIdx? (fun x => ((decide (r766.a0 = x.fk.a0)) && ((decide (r766.a1 = x.fk.a1)) && true)))).isSome)
        (.done true)
        (.view 26006 (s38 (SPlanner.mk (SList.mk p0 p1 p2 e756)) x765) [(VwW.of 700062 tySCandidate p1), (VwW.of 700063 tySCandidate p2), (VwW.of 600048 tySPair e756)] fun r767 =>
         .chk 26014 (decide (0 ≤ (mlook l764.1 (fun x => ((decide (r766.a0 = x.fk.a0)) && ((decide (r766.a1 = x.fk.a1)) && true))) (fun x => x.fv) 0)) && decide ((mlook l764.1 (fun x => ((decide (r766.a0 = x.fk.a0)) && ((decide (r766.a1 = x.fk.a1)) && true))) (fun x => x.fv) 0) < (e756.length : Int))) (.row 26015 tySPair e756 (0 + (mlook l764.1 (fun x => ((decide (r766.a0 = x.fk.a0)) && ((decide (r766.a1 = x.fk.a1)) && true))) (fun x => x.fv) 0).toNat) true fun x768 =>
         .view 26016 (s38 (SPlanner.mk (SList.mk p0 p1 p2 e756)) x768) [(VwW.of 700062 tySCandidate p1), (VwW.of 700063 tySCandidate p2), (VwW.of 600048 tySPair e756)] fun r769 =>
         .done (decide (r767 < r769)))))
       (fun (c770 : Bool) => [.bool c770]) fun c770 =>
       .br 0 c770
       (.opr 27004 (Rule.put (mt := 90) (kt := 91) (et := 3) (z := 1114370) (ty := tySEnt90) (p := (fun x => ((decide (r766.a0 = x.fk.a0)) && ((decide (r766.a1 = x.fk.a1)) && true)))) (kc := [.str r766.a0, .str r766.a1]) (.tmp 132) (.tmp 133) (.tmp 134) 93 l764.1 (SEnt90.mk r766 l764.2) [.int .i64 l764.2] ⟨by kernel_rfl, by kernel_rfl, by kernel_rfl, fun _ => by kernel_rfl⟩ (by rfl) (by kernel_rfl) (by kernel_rfl) (by decide) (by decide)) fun _ =>
        .done (.inl ((mput l764.1 (fun x => ((decide (r766.a0 = x.fk.a0)) && ((decide (r766.a1 = x.fk.a1)) && true))) (SEnt90.mk r766 l764.2)), (wi64 (l764.2 + 1)))))
       (.done (.inl (l764.1, (wi64 (l764.2 + 1)))))))
      (.done (.inr l764.1)))
     ([], 0))
    (fun (e771 : (List SEnt90)) => Ext.of (.exit 4) [(6, .ptr 6 0 0), (7, .int .i64 0), (8, .ptr 700061 0 0), (14, .mp 93)] [(6, ⟨4, true, [[.bool false, .nilsl, .nilsl, .nilsl]]⟩), (700061, ⟨4, true, [[.bool p0, .ref 700062 0 p1.length, .ref 700063 0 p2.length, .ref 600048 0 e756.length]]⟩)] [BT.of 93 tySEnt90 1114370 e771 true, BT.of 600048 tySPair 4 e756 true, BT.of 700062 tySCandidate 8 p1 true, BT.of 700063 tySCandidate 8 p2 true] (by rfl))
    (fun e771 =>
     .gh 1 (.ren 600048 700064) (.gh 1 (.ren 93 700065) (.sub (subWait p0 p1 p2 e756.length e771 e756) fun r772 =>
     .gh 0 (.share (VwW.of 700062 tySCandidate p1) 1) (.gh 0 (.share (VwW.of 700063 tySCandidate p2) 1) (.gh 0 (.share (VwW.part 700064 tySPair r772 e756.length) 1) (.done (0, p0, p1, p2, (r772.take e756.length))))))))))))))))))
theorem k11_1 (p0 : Bool) (p1 : (List SCandidate)) (p2 : (List SCandidate)) : FnB Tryz.prog GG [0, 1, 2, 6, 7, 8, 9, 10, 11, 13, 14, 15, 16, 17, 18, 19, 21, 29, 38, 49, 50, 58, 59, 60, 61, 70, 75, 98, 99, 100, 101, 131, 139] Tryz.f11 [.ref 1000000 0 p1.length, .ref 1000001 0 p2.length, .bool p0] (Ext.of .normal (argTs [.ref 1000000 0 p1.length, .ref 1000001 0 p2.length, .bool p0]) [] [BT.of 1000000 tySCandidate 8 p1 true, BT.of 1000001 tySCandidate 8 p2 true] (by rfl)) (g11_1 p0 p1 p2) (fun (r : Int × Bool × (List SCandidate) × (List SCandidate) × (List SPair)) => .tup [.agg [.bool r.2.1, .sl false 8 (List.map tySCandidate.c r.2.2.1), .sl false 8 (List.map tySCandidate.c r.2.2.2.1), .sl false 4 (List.map tySPair.c r.2.2.2.2)], .int .i64 r.1]) (fun (_ : Int × Bool × (List SCandidate) × (List SCandidate) × (List SPair)) => Ext.of .normal [] [] [] (by rfl)) := by unfold FnB; kernel_rfl
noncomputable def s11_1 (p0 : Bool) (p1 : (List SCandidate)) (p2 : (List SCandidate)) : EV.Spec Tryz.prog GG (Int × Bool × (List SCandidate) × (List SCandidate) × (List SPair)) := .ofFnB 11 [] mixed Tryz.func11 rfl (fun _ => rfl) (k11_1 p0 p1 p2)
noncomputable def g27  : TT (SList × Int) :=
 .call 1001 (s58 1 1 2) [] [] fun r727 =>
 .call 1002 (s58 2 1 1) [] [] fun r728 =>
 .call 1004 (s58 9 9 3) [] [] fun r729 =>
 .call 1006 (s11_1 true [r727, r728] [r729]) [(1000000, 4), (1000001, 6)] [] fun r773 =>
 .done ((SList.mk r773.2.1 r773.2.2.1 r773.2.2.2.1 r773.2.2.2.2), r773.1)
theorem k27  : FnD Tryz.prog GG [0, 1] Tryz.f27 [] (g27) (fun r => .tup [.agg [.bool r.1.fControlling, .sl false 8 (List.map tySCandidate.c r.1.fLocals), .sl false 8 (List.map tySCandidate.c r.1.fRemotes), .sl false 4 (List.map tySPair.c r.1.fPairs)], .int .i64 r.2]) := by unfold FnD; kernel_rfl
noncomputable def s27  : EV.Spec Tryz.prog GG (SList × Int) := .ofFn 27 mixed Tryz.func27 (k27)
end Go.Proofs.YtioobnkmohikjaaGreatDoor
namespace Go.Proofs.YtioobnkmohikjaaGreatDoor
open Go Go.EV
set_option maxRecDepth 100000
noncomputable def g7  : TT (Bool) :=
 .call 1001 s27 [] [] fun r774 =>
 .call 2002 (s17 r774.1) [] [] fun r775 =>
 .call 3002 (s23 r774.1 0 2) [] [] fun r776 =>
 .call 4002 (s17 r776.1) [] [] fun r777 =>
 .call 5002 (s21 r774.1) [] [] fun r778 =>
 .call 6002 (s19 r774.1) [] [] fun r779 =>
 .cnd 7 [0]
 (.br 7004 (r774.2 == 0)
  (.br 7010 ((mlen tySPair r774.1.fPairs) == 2)
   (.call 7011 (s28 r774.1 0 0 0 1) [] [] fun r780 =>
    .br 7014 r780
    (.call 7015 (s28 r774.1 1 1 0 1) [] [] fun r781 =>
     .br 7018 r781
     (.br 7022 (r775.2 == 0)
      (.br 7026 (r775.1 == 0)
       (.br 7030 (r776.2 == 0)
        (.br 7034 (r777.2 == 0)
         (.br 7038 (r777.1 == 1)
          (.br 7042 (r778.2 == 0)
           (.br 7047 (!r778.1.fControlling)
            (.br 7051 (r779.2 == 0)
             (.br 7055 (!r779.1)
              (.call 7056 (s16 r774.1) [] [] fun r782 =>
               .br 7060 (r782 == 0)
               (.view 7063 (s16 (SList.mk false [] [] [(SPair.mk 0 0 0 0)])) [] fun r783 =>
                .done (r783 == 100))
               (.done false))
              (.done false))
             (.done false))
            (.done false))
           (.done false))
          (.done false))
         (.done false))
        (.done false))
       (.done false))
      (.done false))
     (.done false))
    (.done false))
   (.done false))
  (.done false))
 (fun (c784 : Bool) => [.bool c784]) fun c784 =>
 .done c784
theorem k7  : FnD Tryz.prog GG [0, 1, 2, 3, 4, 5, 6, 7, 8, 9, 10, 11, 12] Tryz.f7 [] (g7) (fun r => .bool r) := by unfold FnD; kernel_rfl
noncomputable def s7  : EV.Spec Tryz.prog GG (Bool) := .ofFn 7 mixed Tryz.func7 (k7)
end Go.Proofs.YtioobnkmohikjaaGreatDoor
namespace Go.Proofs.YtioobnkmohikjaaGreatDoor
open Go Go.EV
set_option maxRecDepth 1000000
theorem okWAKES : SOk s7 (fun r => r = true) := SOk.of (by kernel_rfl)
end Go.Proofs.YtioobnkmohikjaaGreatDoor
namespace Go.Proofs.YtioobnkmohikjaaGreatDoor
open Go Go.EV
set_option maxRecDepth 100000
end Go.Proofs.YtioobnkmohikjaaGreatDoor
namespace Go.Proofs.YtioobnkmohikjaaGreatDoor
open Go Go.EV
set_option maxRecDepth 100000
open Classical
theorem SOk.fn {P : Program} {G : Nat → Option (List V)} {kp : List Nat} {f : FuncId} {fn : Func} {args : List V} {ρ : Type} {g : T P G ρ} {res : ρ → V} {hm : P.follows .mixedOrders = true} {hf : P.funcs[f]? = some fn} {k : FnD P G kp fn args g res} {Q : ρ → Prop} (h : Ok g Q) : SOk (.ofFn f hm hf k) Q := h
end Go.Proofs.YtioobnkmohikjaaGreatDoor
namespace Go.Proofs.YtioobnkmohikjaaGreatDoor
section
variable {α : Type} {lt : α → α → Prop}
def Sorts (lt : α → α → Prop) (l s : List α) : Prop := s.Perm l ∧ s.Pairwise lt
theorem pairwise_le {l : List α} (hl : l.Pairwise lt) {i j : Nat} {x y : α} (hi : l[i]? = some x) (hj : l[j]? = some y) (h : i < j) : lt x y := by
 obtain ⟨a, rfl⟩ := List.getElem?_eq_some_iff.1 hi
 obtain ⟨b, rfl⟩ := List.getElem?_eq_some_iff.1 hj
 exact List.pairwise_iff_getElem.1 hl i j a b h
theorem mem_take_at {l : List α} {n : Nat} {x : α} (h : x ∈ l.take n) : ∃ i, i < n ∧ l[i]? = some x := by
 obtain ⟨i, hi⟩ := List.mem_iff_getElem?.1 h
 rw [List.getElem?_take] at hi
 split at hi
 ·exact ⟨i, by assumption, hi⟩
 ·simp at hi
theorem mem_drop_at {l : List α} {n : Nat} {x : α} (h : x ∈ l.drop n) : ∃ i, n ≤ i ∧ l[i]? = some x := by
 obtain ⟨i, hi⟩ := List.mem_iff_getElem?.1 h
 rw [List.getElem?_drop] at hi
 exact ⟨n + i, by omega, hi⟩
theorem cut_lt (trans : ∀ x y z, lt x y → lt y z → lt x z) {l r : List α} (hl : l.Pairwise lt) (hr : r.Pairwise lt) {s t : Nat} (hs : s ≤ l.length) (ht : t ≤ r.length)
  (h1 : ∀ x y, 0 < s → l[s - 1]? = some x → r[t]? = some y → lt x y) (h2 : ∀ x y, 0 < t → r[t - 1]? = some x → l[s]? = some y → lt x y) :
  ∀ x, x ∈ l.take s ++ r.take t → ∀ y, y ∈ l.drop s ++ r.drop t → lt x y := by

 have cross : ∀ {p q : List α} {a b : Nat}, a ≤ p.length → p.Pairwise lt → q.Pairwise lt → (∀ x y, 0 < a → p[a - 1]? = some x → q[b]? = some y → lt x y) → ∀ x, x ∈ p.take a → ∀ y, y ∈ q.drop b → lt x y := by
  intro p q a b hap hp hq h x hx y hy
  obtain ⟨i, hi, hxi⟩ := mem_take_at hx
  obtain ⟨j, hj, hyj⟩ := mem_drop_at hy
  have ha : a - 1 < p.length ∨ p.length ≤ a - 1 := Nat.lt_or_ge _ _
  have hil := (List.getElem?_eq_some_iff.1 hxi).1
  have hjl := (List.getElem?_eq_some_iff.1 hyj).1
  have hb : q[b]? = some q[b] := List.getElem?_eq_getElem (by omega)
  have step : lt x q[b] → lt x y := fun hh => by
   rcases Nat.lt_or_ge b j with hbj | hbj
   ·exact trans _ _ _ hh (pairwise_le hq hb hyj hbj)
   ·obtain rfl : b = j := by omega
    rw [Option.some.inj (hyj.symm.trans hb)]; exact hh
  refine step ?_
  rcases ha with ha | ha
  ·have hpa : p[a - 1]? = some p[a - 1] := List.getElem?_eq_getElem ha
   have h0 := h _ _ (by omega) hpa hb
   rcases Nat.lt_or_ge i (a - 1) with hia | hia
   ·exact trans _ _ _ (pairwise_le hp hxi hpa hia) h0
   ·obtain rfl : i = a - 1 := by omega
    rw [Option.some.inj (hxi.symm.trans hpa)]; exact h0
  ·omega
 intro x hx y hy
 rcases List.mem_append.1 hx with hx | hx <;> rcases List.mem_append.1 hy with hy | hy
 ·obtain ⟨i, hi, hxi⟩ := mem_take_at hx
  obtain ⟨j, hj, hyj⟩ := mem_drop_at hy
  exact pairwise_le hl hxi hyj (by omega)
 ·exact cross hs hl hr h1 x hx y hy
 ·exact cross ht hr hl h2 x hx y hy
 ·obtain ⟨i, hi, hxi⟩ := mem_take_at hx
  obtain ⟨j, hj, hyj⟩ := mem_drop_at hy
  exact pairwise_le hr hxi hyj (by omega)
theorem Sorts.halves {l r a b : List α} {s t : Nat} (hc : ∀ x, x ∈ l.take s ++ r.take t → ∀ y, y ∈ l.drop s ++ r.drop t → lt x y)
  (ha : Sorts lt (l.take s ++ r.take t) a) (hb : Sorts lt (l.drop s ++ r.drop t) b) : Sorts lt (l ++ r) (a ++ b) := by
 refine ⟨?_, List.pairwise_append.2 ⟨ha.2, hb.2, fun x hx y hy => hc x (ha.1.mem_iff.1 hx) y (hb.1.mem_iff.1 hy)⟩⟩
 refine (ha.1.append hb.1).trans ?_
 have e : (l.take s ++ r.take t) ++ (l.drop s ++ r.drop t) = l.take s ++ (r.take t ++ l.drop s) ++ r.drop t := by simp
 rw [e]
 have p : (l.take s ++ (r.take t ++ l.drop s) ++ r.drop t).Perm (l.take s ++ (l.drop s ++ r.take t) ++ r.drop t) :=
  ((List.perm_append_comm).append_left _).append_right _
 refine p.trans ?_
 have e2 : l.take s ++ (l.drop s ++ r.take t) ++ r.drop t = l ++ r := by
  rw [← List.append_assoc, List.take_append_drop, List.append_assoc, List.take_append_drop]
 rw [e2]
theorem Sorts.one (irr : ∀ x, ¬ lt x x) (trans : ∀ x y z, lt x y → lt y z → lt x z) : ∀ {s t : List α}, s.Perm t → s.Pairwise lt → t.Pairwise lt → s = t := by
 intro s
 induction s with
 | nil => intro t h _ _; exact (h.symm.eq_nil).symm
 | cons x s ih =>
  intro t h hs ht
  cases t with
  | nil => exact absurd h.length_eq (by simp)
  | cons y t =>
   have hx : x = y := by
    rcases List.mem_cons.1 (h.mem_iff.1 (List.mem_cons_self ..)) with e | e
    ·exact e
    ·rcases List.mem_cons.1 (h.mem_iff.2 (List.mem_cons_self ..)) with e2 | e2
     ·exact e2.symm
     ·exact absurd (trans _ _ _ ((List.pairwise_cons.1 hs).1 y e2) ((List.pairwise_cons.1 ht).1 x e)) (irr x)
   subst hx
   rw [ih (List.Perm.cons_inv h) (List.pairwise_cons.1 hs).2 (List.pairwise_cons.1 ht).2]
end
end Go.Proofs.YtioobnkmohikjaaGreatDoor
namespace Go.Proofs.YtioobnkmohikjaaGreatDoor
open Go Go.EV
set_option maxRecDepth 100000
theorem okNAN (x : Int) : SOk (s66 x) (fun r => r = false) := by
 show Ok (g66 x) _
 unfold g66
 exact Ok.done (by simp)
theorem okCMPP (x y : SPair) : SOk (s34 x y) (fun r => (r < 0 ↔ y.fPriority < x.fPriority)) := by
 show Ok (g34 x y) _
 unfold g34
 refine Ok.call (R := fun r => (r < 0 ↔ y.fPriority < x.fPriority)) ?_ fun r hr => Ok.done hr
 show Ok (g35 y.fPriority x.fPriority) _
 unfold g35
 refine Ok.call (okNAN _) fun a ha => Ok.call (okNAN _) fun b hb => ?_
 subst ha hb
 refine Ok.brF rfl (Ok.brF rfl (Ok.br (fun h => Ok.done ?_) (fun h => Ok.br (fun h2 => Ok.done ?_) (fun h2 => Ok.done ?_))))
 ·simp only [decide_eq_true_eq] at h; omega
 ·simp only [decide_eq_true_eq, decide_eq_false_iff_not] at h h2; omega
 ·simp only [decide_eq_false_iff_not] at h h2; omega
theorem get_mid {α : Type} {L P Q : List α} {x : α} {i : Nat} (e : L = P ++ x :: Q) (h : P.length = i) : L[i]? = some x := by
 subst e h; simp
theorem set_mid {α : Type} {L P Q : List α} {x y : α} {i : Nat} (e : L = P ++ x :: Q) (h : P.length = i) : L.set i y = P ++ y :: Q := by
 subst e h; simp [List.set_append_right]
theorem cons_of {α : Type} {l : List α} (h : 0 < l.length) : ∃ x t, l = x :: t := by
 cases l with
 | nil => simp at h
 | cons x t => exact ⟨x, t, rfl⟩
theorem inP {i p : Nat} (h : i < p) : (decide (0 ≤ (i : Int)) && decide ((i : Int) < (p : Int))) = true := by simp; omega
theorem okSWAPR (A U M V B : List SPair) (p : Nat) (a b n : Int) (hp : p = (A ++ U ++ M ++ V ++ B).length) (hp2 : p ≤ 1000000) (hU : n = U.length) (hV : V.length = U.length) (ha : a = A.length) (hb : b = (A ++ U ++ M).length) :
  SOk (s95 p a b n (A ++ U ++ M ++ V ++ B)) (fun r => r = A ++ V ++ M ++ U ++ B) := by
 show Ok (g95 p a b n _) _
 unfold g95
 subst hU ha hb
 have hlen : A.length + (U.length + (M.length + (V.length + B.length))) = p := by rw [hp]; simp
 refine Ok.bind (R := fun r => r = A ++ V ++ M ++ U ++ B) ?_ fun e he => Ok.done he
 refine Ok.scan U.length (by omega) (fun k y => y.2 = (k : Int) ∧ ∃ U1 U2 V1 V2, U = U1 ++ U2 ∧ V = V1 ++ V2 ∧ U1.length = k ∧ V1.length = k ∧ y.1 = A ++ V1 ++ U2 ++ M ++ U1 ++ V2 ++ B) ⟨rfl, [], U, [], V, rfl, rfl, rfl, rfl, by simp⟩ (fun k y hy hk => ?_) (fun y hy => ?_)
 ·obtain ⟨hi, U1, U2, V1, V2, e1, e2, e3, e4, e5⟩ := hy
  obtain ⟨y1, y2⟩ := y
  simp only at hi e5
  subst hi
  have h2 : U1.length + U2.length = U.length := by rw [e1]; simp
  have h3 : V1.length + V2.length = V.length := by rw [e2]; simp
  obtain ⟨u, U3, rfl⟩ := cons_of (l := U2) (by omega)
  obtain ⟨v, V3, rfl⟩ := cons_of (l := V2) (by omega)
  simp only [List.length_cons] at h2 h3
  have ia : wi64 ((A.length : Int) + (k : Int)) = ((A.length + k : Nat) : Int) := by rw [wi64_id (by omega) (by omega)]; omega
  have ib : wi64 (((A ++ U ++ M).length : Int) + (k : Int)) = ((A.length + U.length + M.length + k : Nat) : Int) := by
   rw [wi64_id (by simp; omega) (by simp; omega)]; simp; omega
  have w1 : y1 = (A ++ V1) ++ u :: (U3 ++ M ++ U1 ++ v :: V3 ++ B) := by rw [e5]; simp
  have w2 : y1 = (A ++ V1 ++ u :: U3 ++ M ++ U1) ++ v :: (V3 ++ B) := by rw [e5]; simp
  have w3 : y1.set (A.length + k) v = (A ++ V1 ++ v :: U3 ++ M ++ U1) ++ v :: (V3 ++ B) := by rw [set_mid w1 (by simp; omega)]; simp
  refine Ok.br (fun hc => ?_) (fun hc => by simp at hc; omega)
  simp only [ia, ib, Int.toNat_natCast, Nat.zero_add]
  refine Ok.chk (inP (by omega)) (Ok.row rfl (get_mid w2 (by simp; omega)) (Ok.chk (inP (by omega)) (Ok.row rfl (get_mid w1 (by simp; omega)) (Ok.chk (inP (by omega)) (Ok.row rfl (get_mid w1 (by simp; omega)) (Ok.re (Ok.chk (inP (by omega)) (Ok.row rfl (get_mid w3 (by simp; omega)) (Ok.re (Ok.done ⟨wi64_nat hk (by omega), ?_⟩)))))))))) 
  refine ⟨U1 ++ [u], U3, V1 ++ [v], V3, by rw [e1]; simp, by rw [e2]; simp, by simp; omega, by simp; omega, ?_⟩
  rw [set_mid w3 (by simp; omega)]
  simp
 ·obtain ⟨hi, U1, U2, V1, V2, e1, e2, e3, e4, e5⟩ := hy
  obtain ⟨y1, y2⟩ := y
  simp only at hi e5
  subst hi
  have h2 : U1.length + U2.length = U.length := by rw [← List.length_append, ← e1]
  have h3 : V1.length + V2.length = V.length := by rw [← List.length_append, ← e2]
  have z1 : U2 = [] := List.length_eq_zero_iff.1 (by omega)
  have z2 : V2 = [] := List.length_eq_zero_iff.1 (by omega)
  subst z1 z2
  refine Ok.br (fun hc => by simp at hc) (fun hc => Ok.done ?_)
  show y1 = _
  rw [e5, e1, e2]; simp
theorem okROT (A X Y B : List SPair) (p : Nat) (a m b : Int) (hp : p = (A ++ X ++ Y ++ B).length) (hp2 : p ≤ 1000000) (ha : a = A.length) (hm : m = (A ++ X).length) (hb : b = (A ++ X ++ Y).length) (hX : 0 < X.length) (hY : 0 < Y.length) :
  SOk (s84 p a m b (A ++ X ++ Y ++ B)) (fun r => r = A ++ Y ++ X ++ B) := by
 show Ok (g84 p a m b _) _
 unfold g84
 subst ha hm hb
 have hlen : A.length + (X.length + (Y.length + B.length)) = p := by rw [hp]; simp
 have i0 : wi64 (((A ++ X).length : Int) - (A.length : Int)) = (X.length : Int) := by rw [wi64_id (by simp; omega) (by simp; omega)]; simp; omega
 have j0 : wi64 (((A ++ X ++ Y).length : Int) - ((A ++ X).length : Int)) = (Y.length : Int) := by rw [wi64_id (by simp; omega) (by simp; omega)]; simp; omega
 rw [i0, j0]
 have hmA : (A ++ X).length = A.length + X.length := by simp
 clear i0 j0
 generalize hmm : (A ++ X).length = mm at *
 refine Ok.bind (R := fun e => ∃ A' U V B', A'.length + U.length = mm ∧ U.length = V.length ∧ e.2 = (U.length : Int) ∧ e.1 = A' ++ U ++ V ++ B' ∧ A' ++ V ++ U ++ B' = A ++ Y ++ X ++ B) ?_ fun e he => ?_
 ·refine Ok.lp (fun y => ∃ A' U V B', A'.length + U.length = mm ∧ 0 < U.length ∧ 0 < V.length ∧ y.2.1 = (U.length : Int) ∧ y.2.2 = (V.length : Int) ∧ y.1 = A' ++ U ++ V ++ B' ∧ A' ++ V ++ U ++ B' = A ++ Y ++ X ++ B) (fun y => y.2.1.toNat + y.2.2.toNat) ⟨A, X, Y, B, hmA.symm, hX, hY, rfl, rfl, rfl, rfl⟩ (fuel (by simp; omega)) (fun y hy => ?_)
  obtain ⟨y1, y2, y3⟩ := y
  obtain ⟨A', U, V, B', q1, q2, q3, q4, q5, q6, q7⟩ := hy
  simp only at q4 q5 q6
  subst q4 q5 q6
  have ql : A'.length + V.length + U.length + B'.length = p := by
   have := congrArg List.length q7
   simp at this
   omega
  refine Ok.br (fun h => ?_) (fun h => Ok.done ⟨A', U, V, B', q1, by simp at h; omega, rfl, rfl, q7⟩)
  refine Ok.br (fun h2 => ?_) (fun h2 => ?_)
  ·simp only [decide_eq_true_eq] at h2
   have hUV : V.length < U.length := by omega
   obtain ⟨U1, U2, hU, hU1⟩ : ∃ U1 U2, U = U1 ++ U2 ∧ U1.length = V.length := ⟨U.take V.length, U.drop V.length, (List.take_append_drop _ _).symm, by simp; omega⟩
   subst hU
   simp only [List.length_append] at q1 hUV ql
   dsimp only
   have e1 : A' ++ (U1 ++ U2) ++ V ++ B' = A' ++ U1 ++ U2 ++ V ++ B' := by simp
   rw [e1]
   refine Ok.call (okSWAPR A' U1 U2 V B' p _ _ _ (by simp; omega) hp2 (by omega) (by omega) ?_ ?_) fun r hr => Ok.done ?_
   ·rw [wi64_id (by simp; omega) (by simp; omega)]; simp; omega
   ·simp; omega
   ·refine ⟨⟨A' ++ V, U2, U1, B', by simp; omega, by omega, by omega, ?_, by simp; omega, by rw [hr], by rw [← q7]; simp⟩, ?_⟩
    ·show wi64 _ = _
     rw [wi64_id (by simp; omega) (by simp; omega)]; simp; omega
    ·show (wi64 _).toNat + _ < _
     rw [wi64_id (by simp; omega) (by simp; omega)]; simp; omega
  ·simp only [decide_eq_false_iff_not] at h2
   simp only [bne_iff_ne, ne_eq] at h
   have hUV : U.length < V.length := by omega
   obtain ⟨V1, V2, hV, hV2⟩ : ∃ V1 V2, V = V1 ++ V2 ∧ V2.length = U.length := ⟨V.take (V.length - U.length), V.drop (V.length - U.length), (List.take_append_drop _ _).symm, by simp; omega⟩
   subst hV
   simp only [List.length_append] at q1 hUV ql
   dsimp only
   have e1 : A' ++ U ++ (V1 ++ V2) ++ B' = A' ++ U ++ V1 ++ V2 ++ B' := by simp
   rw [e1]
   refine Ok.call (okSWAPR A' U V1 V2 B' p _ _ _ (by simp; omega) hp2 rfl hV2 ?_ ?_) fun r hr => Ok.done ?_
   ·rw [wi64_id (by omega) (by omega)]; omega
   ·rw [wi64_id (n := (mm : Int) + _) (by first | omega | (simp; omega)) (by first | omega | (simp; omega)), wi64_id (by first | omega | (simp; omega)) (by first | omega | (simp; omega))]; first | omega | (simp; omega)
   ·refine ⟨⟨A', V2, V1, U ++ B', by omega, by omega, by omega, by dsimp only; omega, ?_, by rw [hr]; simp, by rw [← q7]; simp⟩, ?_⟩
    ·show wi64 _ = _
     rw [wi64_id (by simp; omega) (by simp; omega)]; simp; omega
    ·show _ + (wi64 _).toNat < _
     rw [wi64_id (by simp; omega) (by simp; omega)]; simp; omega
 ·obtain ⟨e1, e2⟩ := e
  obtain ⟨A', U, V, B', q1, q2, q4, q6, q7⟩ := he
  simp only at q4 q6
  subst q4 q6
  have ql : A'.length + V.length + U.length + B'.length = p := by
   have := congrArg List.length q7
   simp at this
   omega
  have e3 : A' ++ U ++ V ++ B' = A' ++ U ++ [] ++ V ++ B' := by simp
  rw [e3]
  refine Ok.call (okSWAPR A' U [] V B' p _ _ _ (by simp; omega) hp2 rfl q2.symm ?_ ?_) fun r hr => Ok.done ?_
  ·dsimp only; rw [wi64_id (by omega) (by omega)]; omega
  ·simp; omega
  ·rw [hr, ← q7]; simp
def ix (x y : SPair) : Prop := x.fLocal < y.fLocal ∨ (x.fLocal = y.fLocal ∧ x.fRemote < y.fRemote)
def bef (x y : SPair) : Prop := y.fPriority < x.fPriority ∨ (x.fPriority = y.fPriority ∧ ix x y)
theorem bef_irr (x : SPair) : ¬ bef x x := by unfold bef ix; omega
theorem bef_trans (x y z : SPair) : bef x y → bef y z → bef x z := by unfold bef ix; omega
theorem bef_less {x y : SPair} (h : y.fPriority < x.fPriority) : bef x y := .inl h
theorem bef_not {x y : SPair} (h : ¬ y.fPriority < x.fPriority) (k : ix y x) : bef y x := by unfold bef; rcases Int.lt_or_eq_of_le (Int.not_lt.1 h) with h | h; exact .inl h; exact .inr ⟨h.symm, k⟩
theorem snoc_of {α : Type} {l : List α} (h : 0 < l.length) : ∃ t x, l = t ++ [x] := by
 rcases List.eq_nil_or_concat l with e | ⟨t, x, e⟩
 ·subst e; simp at h
 ·exact ⟨t, x, by rw [e]; simp⟩
theorem ins_sorts {P P1 P2 : List SPair} {x : SPair} (h : Sorts bef P (P1 ++ P2)) (h2 : ∀ z, z ∈ P2 → bef x z) (h1 : ∀ z, z ∈ P1 → bef z x) : Sorts bef (P ++ [x]) (P1 ++ x :: P2) := by
 refine ⟨?_, ?_⟩
 ·refine List.perm_middle.trans ?_
  refine ((List.Perm.cons x h.1).trans ?_)
  exact (List.perm_append_singleton x P).symm
 ·have := List.pairwise_append.1 h.2
  refine List.pairwise_append.2 ⟨this.1, List.pairwise_cons.2 ⟨h2, this.2.1⟩, fun a ha b hb => ?_⟩
  rcases List.mem_cons.1 hb with rfl | hb
  ·exact h1 a ha
  ·exact this.2.2 a ha b hb
theorem okINS (A S B : List SPair) (p : Nat) (a b : Int) (hp : p = (A ++ S ++ B).length) (hp2 : p ≤ 1000000) (ha : a = A.length) (hb : b = (A ++ S).length) (hS : S.Pairwise ix) :
  SOk (s76 p a b (A ++ S ++ B)) (fun r => ∃ S', r = A ++ S' ++ B ∧ Sorts bef S S') := by
 show Ok (g76 p a b _) _
 unfold g76
 subst ha hb
 have hlen : A.length + (S.length + B.length) = p := by rw [hp]; simp
 have i0 : wi64 ((A.length : Int) + 1) = ((A.length + 1 : Nat) : Int) := by rw [wi64_id (by omega) (by omega)]; omega
 rw [i0]
 refine Ok.bind (R := fun r => ∃ S', r = A ++ S' ++ B ∧ Sorts bef S S') ?_ fun e he => Ok.done he
 refine Ok.scan (S.length - 1) (by omega) (fun k y => y.2 = ((A.length + 1 + k : Nat) : Int) ∧ ∃ P', y.1 = A ++ P' ++ S.drop (k + 1) ++ B ∧ Sorts bef (S.take (k + 1)) P') ⟨rfl, S.take 1, ?_, .refl _, ?_⟩ (fun k y hy hk => ?_) (fun y hy => ?_)
 ·show A ++ S ++ B = A ++ S.take (0 + 1) ++ S.drop (0 + 1) ++ B
  rw [List.append_assoc A (S.take (0 + 1)), List.take_append_drop]
 ·match S with
  | [] => exact List.Pairwise.nil
  | x :: t => exact List.pairwise_singleton _ _
 ·obtain ⟨hi, P', e1, e2⟩ := hy
  obtain ⟨y1, y2⟩ := y
  simp only at hi e1
  subst hi e1
  have hPl : P'.length = k + 1 := by rw [e2.1.length_eq, List.length_take]; omega
  obtain ⟨x, hx1, hx2⟩ := get_lt (l := S) (k := k + 1) (by omega)
  have hdrop : S.drop (k + 1) = x :: S.drop (k + 2) := by
   rw [List.drop_eq_getElem_cons (by omega)]
   rw [List.getElem?_eq_getElem (by omega)] at hx2
   rw [Option.some.inj hx2]
  have htake : S.take (k + 2) = S.take (k + 1) ++ [x] := by rw [List.take_add_one (i := k + 1), hx2]; rfl
  have hix : ∀ w, w ∈ P' → ix w x := fun w hw => by
   obtain ⟨j, hj, hjw⟩ := mem_take_at (e2.1.mem_iff.1 hw)
   exact pairwise_le hS hjw hx2 hj
  have hB : S.length - (k + 2) + (k + 2) = S.length := by omega
  refine Ok.br (fun _ => ?_) (fun hc => by simp at hc; omega)
  refine Ok.bind (R := fun e => ∃ P'', e = A ++ P'' ++ S.drop (k + 2) ++ B ∧ Sorts bef (S.take (k + 2)) P'') ?_ fun e he => Ok.done ⟨?_, he⟩
  ·rw [hdrop]
   refine Ok.lp (fun y => ∃ P1 P2, P' = P1 ++ P2 ∧ y.1 = A ++ P1 ++ x :: (P2 ++ S.drop (k + 2) ++ B) ∧ y.2 = ((A.length + P1.length : Nat) : Int) ∧ ∀ z, z ∈ P2 → bef x z) (fun y => y.2.toNat) ⟨P', [], by simp, by simp, by show ((A.length + 1 + k : Nat) : Int) = _; omega, fun z h => by simp at h⟩ (fuel (by show (((A.length + 1 + k : Nat) : Int)).toNat ≤ _; omega)) (fun y hy => ?_)
   obtain ⟨P1, P2, q1, q2, q3, q4⟩ := hy
   obtain ⟨y1, y2⟩ := y
   simp only at q2 q3
   subst q2 q3
   have ql : P1.length + P2.length = k + 1 := by rw [← hPl, q1]; simp
   refine Ok.cnd (R := fun c => (c = true → ∃ P3 w, P1 = P3 ++ [w] ∧ w.fPriority < x.fPriority) ∧ (c = false → ∀ z, z ∈ P1 → bef z x)) ?_ fun c hc => Ok.br (fun h => ?_) (fun h => Ok.done ?_)
   ·refine Ok.br (fun h => ?_) (fun h => Ok.done ⟨fun h => by simp at h, fun _ z hz => ?_⟩)
    ·simp only [decide_eq_true_eq] at h
     obtain ⟨P3, w, rfl⟩ := snoc_of (l := P1) (by omega)
     simp only [List.length_append, List.length_cons, List.length_nil] at ql
     have im : wi64 (((A.length + (P3 ++ [w]).length : Nat) : Int) - 1) = ((A.length + P3.length : Nat) : Int) := by rw [wi64_id (by simp; omega) (by simp; omega)]; simp; omega
     simp only [im, Int.toNat_natCast, Nat.zero_add]
     refine Ok.chk (inP (by simp; omega)) (Ok.row rfl (get_mid (P := A ++ (P3 ++ [w])) (x := x) rfl (by simp)) (Ok.chk (inP (by omega)) (Ok.row rfl (get_mid (P := A ++ P3) (x := w) (Q := x :: (P2 ++ S.drop (k + 2) ++ B)) (by simp) (by simp)) (Ok.call (okCMPP x w) fun r hr => Ok.done ?_))))
     refine ⟨fun h5 => ⟨P3, w, rfl, hr.1 (by simpa using h5)⟩, fun h5 z hz => ?_⟩
     have h6 : ¬ w.fPriority < x.fPriority := fun h7 => by have := hr.2 h7; simp at h5; omega
     have h7 : bef w x := bef_not h6 (hix w (by rw [q1]; simp))
     rcases List.mem_append.1 hz with hz | hz
     ·have h8 : (P3 ++ [w] ++ P2).Pairwise bef := by rw [← q1]; exact e2.2
      have h9 := (List.pairwise_append.1 (List.pairwise_append.1 h8).1).2.2 z hz w (by simp)
      exact bef_trans _ _ _ h9 h7
     ·simp only [List.mem_singleton] at hz; subst hz; exact h7
    ·simp only [decide_eq_false_iff_not] at h
     have : P1 = [] := List.length_eq_zero_iff.1 (by omega)
     subst this; simp at hz
   ·obtain ⟨P3, w, rfl, hw⟩ := hc.1 h
    simp only [List.length_append, List.length_cons, List.length_nil] at ql
    have im : wi64 (((A.length + (P3 ++ [w]).length : Nat) : Int) - 1) = ((A.length + P3.length : Nat) : Int) := by rw [wi64_id (by simp; omega) (by simp; omega)]; simp; omega
    have w1 : A ++ (P3 ++ [w]) ++ x :: (P2 ++ S.drop (k + 2) ++ B) = (A ++ P3) ++ w :: (x :: (P2 ++ S.drop (k + 2) ++ B)) := by simp
    have w2 : (A ++ (P3 ++ [w]) ++ x :: (P2 ++ S.drop (k + 2) ++ B)).set (A.length + (P3 ++ [w]).length) w = (A ++ P3) ++ w :: (w :: (P2 ++ S.drop (k + 2) ++ B)) := by
     rw [set_mid (P := A ++ (P3 ++ [w])) (x := x) rfl (by simp)]; simp
    simp only [im, Int.toNat_natCast, Nat.zero_add]
    refine Ok.chk (inP (by omega)) (Ok.row rfl (get_mid w1 (by simp)) (Ok.chk (inP (by simp; omega)) (Ok.row rfl (get_mid (P := A ++ (P3 ++ [w])) (x := x) rfl (by simp)) (Ok.chk (inP (by simp; omega)) (Ok.row rfl (get_mid (P := A ++ (P3 ++ [w])) (x := x) rfl (by simp)) (Ok.re (Ok.chk (inP (by omega)) (Ok.row rfl (get_mid w2 (by simp)) (Ok.re (Ok.done ⟨⟨P3, w :: P2, by rw [q1]; simp, ?_, rfl, fun z hz => ?_⟩, ?_⟩))))))))))
    ·show List.set _ _ _ = _
     rw [set_mid w2 (by simp)]; simp
    ·rcases List.mem_cons.1 hz with rfl | hz
     ·exact bef_less hw
     ·exact q4 z hz
    ·show (((A.length + P3.length : Nat) : Int)).toNat < (((A.length + (P3 ++ [w]).length : Nat) : Int)).toNat
     simp only [Int.toNat_natCast, List.length_append, List.length_cons, List.length_nil]; omega
   ·refine ⟨P1 ++ x :: P2, by simp, ?_⟩
    rw [htake]
    exact ins_sorts (by rw [← q1]; exact e2) q4 (hc.2 h)
  ·show wi64 _ = _
   rw [wi64_id (by omega) (by omega)]; omega
 ·obtain ⟨hi, P', e1, e2⟩ := hy
  obtain ⟨y1, y2⟩ := y
  simp only at hi e1
  subst hi e1
  refine Ok.br (fun hc => by simp at hc; omega) (fun hc => Ok.done ?_)
  have h1 : S.drop (S.length - 1 + 1) = [] := List.drop_eq_nil_of_le (by omega)
  have h2 : S.take (S.length - 1 + 1) = S := List.take_of_length_le (by omega)
  rw [h2] at e2
  exact ⟨P', by rw [h1]; simp, e2⟩
end Go.Proofs.YtioobnkmohikjaaGreatDoor
