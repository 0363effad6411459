/- ChecklistPairs: all candidates that fit are paired, in order; of each foundations one pair waits.
   Guides and contracts, printed by a program.
   ChecklistSides: both sides have the same priorities in the same order; turning twice changes nothing.
   The listed variables: laid in the witness; no function of the laws reads them. What a call may change: nothing of what was there.
   Arguments opened: what comes in reads as typed data. Conditions: none but that it reads at all.
   Readers of the laws' parameters, printed by a program.
   What is read of a bend, or of drafts. -/
import Derived.Test.YtioobnkmohikjaaDoorS11
import Derived.Test.YtioobnkmohikjaaDoorS12
import Derived.Test.YtioobnkmohikjaaDoorS6
import Derived.Test.YtioobnkmohikjaaDoorS8
import Derived.Test.YtioobnkmohikjaaDoorRows
import Derived.ChangeSame
import Derived.ChangeVars
import Derived.JoinedOf
import Derived.RowKit
import Derived.ProofKit
import Derived.LaidMore
import Derived.Lay
import Derived.OpenShut
import Derived.Carry
import Derived.Stop.Joined
import Derived.ChangeArms
import Derived.DataReads
import Derived.SevenTiedAt
import Derived.KernelRfl
namespace Go.Proofs.YtioobnkmohikjaaDoor
open Go Go.EV
set_option maxRecDepth 100000
open Classical
theorem SOk.fn {P : Program} {G : Nat → Option (List V)} {kp : List Nat} {f : FuncId} {fn : Func} {args : List V} {ρ : Type} {g : T P G ρ} {res : ρ → V} {hm : P.follows .mixedOrders = true} {hf : P.funcs[f]? = some fn} {k : FnD P G kp fn args g res} {Q : ρ → Prop} (h : Ok g Q) : SOk (.ofFn f hm hf k) Q := h
theorem okGOOD (c : Bool) (a b : List SCandidate) (ps : List SPair) (ha : a.length ≤ 1000) (hb : b.length ≤ 1000) (hp : ps.length ≤ 1000) (hI : ∀ x, x ∈ ps → InB ⟨c, a, b, []⟩ x) : SOk (s9 ⟨c, a, b, ps⟩ a b) (fun r => r = true) := by
 show Ok (g9 ⟨c, a, b, ps⟩ a b) _
 unfold g9
 simp only [mlen_eq]
 refine Ok.cnd (R := fun c => c = false) (Ok.call (okSAMEC a (by omega)) fun r hr => Ok.brF (by rw [hr]; rfl) (Ok.call (okSAMEC b (by omega)) fun r hr => Ok.done (by rw [hr]; rfl))) fun c hc => Ok.brF hc (Ok.bind2 (R := fun e => match e with | .inl _ => False | .inr _ => True) ?_ (fun e he => he.elim) (fun e he => Ok.done rfl))
 refine Ok.scan ps.length (by omega) (fun k y => y = (k : Int)) rfl (fun k y hy hk => ?_) (fun y hy => ?_)
 ·subst hy
  refine Ok.br (fun hc => ?_) (fun hc => by simp at hc; omega)
  obtain ⟨x, hx1, hx2⟩ := get_lt hk
  obtain ⟨⟨h1, h2⟩, ⟨h3, h4⟩⟩ := hI x (List.mem_of_getElem? hx2)
  have h2' : x.fLocal < (a.length : Int) := h2
  have h4' : x.fRemote < (b.length : Int) := h4
  exact Ok.row (by simp) hx1 (Ok.cnd (R := fun c => c = false) (Ok.brF (by simp; omega) (Ok.brF (by simp; omega) (Ok.brF (by simp; omega) (Ok.done (by simp; omega))))) fun c hc => Ok.brF hc (Ok.done (wi64_nat hk (by omega))))
 ·subst hy
  exact Ok.br (fun hc => by simp at hc) (fun hc => Ok.done trivial)
theorem MakeR.shape {a b : List SCandidate} {c : Bool} {m : SList × Int} (hm : MakeR a b c m) (ha : a.length ≤ 12) (hb : b.length ≤ 12) (ca : CandsOk a) (cb : CandsOk b) : ∃ ps, m = (⟨c, a, b, ps⟩, 0) ∧ MShape ⟨c, a, b, []⟩ ps := by
 unfold MakeR at hm
 rw [if_neg (by omega), if_neg (fun h => h ⟨ca, cb⟩)] at hm
 obtain ⟨ps, h1, h2⟩ := hm
 exact ⟨ps, h1, h2.shape⟩
end Go.Proofs.YtioobnkmohikjaaDoor
namespace Go.Proofs.YtioobnkmohikjaaDoor
open Go Go.EV
set_option maxRecDepth 100000
noncomputable def g4 (p0 : SDraft1) : TT (Bool) :=
 .call 1001 s6 [] [] fun r801 =>
 .br 0 (!r801)
 (.done false)
 (.call 3003 (s7 p0.fLocals 12) [] [] fun r802 =>
  .call 3006 (s7 p0.fRemotes 12) [] [] fun r803 =>
  .call 4005 (s8 r802 r803 p0.fControlling) [] [] fun r804 =>
  .call 5006 (s8 r803 r802 (!p0.fControlling)) [] [] fun r805 =>
  .cnd 6 [63]
  (.br 6004 (r804.2 != 0)
   (.done true)
   (.br 6008 (r805.2 != 0)
    (.done true)
    (.call 6011 (s9 r804.1 r802 r803) [] [] fun r806 =>
     .br 6015 (!r806)
     (.done true)
     (.call 6018 (s9 r805.1 r803 r802) [] [] fun r807 =>
      .done (!r807)))))
  (fun (c808 : Bool) => [.bool c808]) fun c808 =>
  .br 0 c808
  (.done false)
  (.call 8002 (s12 r804.1) [] [] fun r809 =>
   .call 9002 (s12 r809.1) [] [] fun r810 =>
   .cnd 10 [101]
   (.br 10004 (r809.2 != 0)
    (.done true)
    (.br 10008 (r810.2 != 0)
     (.done true)
     (.call 10010 (s13 r810.1 r804.1) [] [] fun r811 =>
      .br 10014 (!r811)
      (.done true)
      (.br 10021 (r809.1.fControlling == r804.1.fControlling)
       (.done true)
       (.done ((mlen tySPair r809.1.fPairs) != (mlen tySPair r804.1.fPairs)))))))
   (fun (c812 : Bool) => [.bool c812]) fun c812 =>
   .br 0 c812
   (.done false)
   (.bind 1
    (.lp (fun (l822 : Bool × (List SCandidate) × (List SCandidate) × (List SPair) × Bool × (List SCandidate) × (List SCandidate) × (List SPair) × (List SCandidate) × Int × (List SCandidate) × Int × Int) => Ext.lit .normal [(2, .bool false), (4, .sl false 8 (List.map tySCandidate.c l822.2.2.2.2.2.2.2.2.1)), (5, .ptr 5 0 0), (7, .ptr 7 0 0), (13, .int .i64 l822.2.2.2.2.2.2.2.2.2.1), (102, .sl false 8 (List.map tySCandidate.c l822.2.2.2.2.2.2.2.2.2.2.1)), (103, .int .i64 l822.2.2.2.2.2.2.2.2.2.2.2.1), (104, .int .i64 l822.2.2.2.2.2.2.2.2.2.2.2.2)] [(5, ⟨4, true, [[.bool l822.1, .sl false 8 (List.map tySCandidate.c l822.2.1), .sl false 8 (List.map tySCandidate.c l822.2.2.1), .sl false 4 (List.map tySPair.c l822.2.2.2.1)]]⟩), (7, ⟨4, true, [[.bool l822.2.2.2.2.1, .sl false 8 (List.map tySCandidate.c l822.2.2.2.2.2.1), .sl false 8 (List.map tySCandidate.c l822.2.2.2.2.2.2.1), .sl false 4 (List.map tySPair.c l822.2.2.2.2.2.2.2.1)]]⟩)])
     (fun l822 =>
      .br 0 (decide (l822.2.2.2.2.2.2.2.2.2.2.2.2 < l822.2.2.2.2.2.2.2.2.2.2.2.1))
      (.row 15001 tySCandidate l822.2.2.2.2.2.2.2.2.2.2.1 l822.2.2.2.2.2.2.2.2.2.2.2.2.toNat (decide (0 ≤ l822.2.2.2.2.2.2.2.2.2.2.2.2)) fun x823 =>
       .bind 1
       (.lp (fun (l827 : Int × Int) => Ext.lit .normal [(2, .bool false), (4, .sl false 8 (List.map tySCandidate.c l822.2.2.2.2.2.2.2.2.1)), (5, .ptr 5 0 0), (7, .ptr 7 0 0), (13, .int .i64 l827.1), (15, .ptr 15 0 0), (102, .sl false 8 (List.map tySCandidate.c l822.2.2.2.2.2.2.2.2.2.2.1)), (103, .int .i64 l822.2.2.2.2.2.2.2.2.2.2.2.1), (104, .int .i64 l822.2.2.2.2.2.2.2.2.2.2.2.2), (108, .sl false 8 (List.map tySCandidate.c l822.2.2.2.2.2.2.2.2.1)), (109, .int .i64 (mlen tySCandidate l822.2.2.2.2.2.2.2.2.1)), (110, .int .i64 l827.2)] [(5, ⟨4, true, [[.bool l822.1, .sl false 8 (List.map tySCandidate.c l822.2.1), .sl false 8 (List.map tySCandidate.c l822.2.2.1), .sl false 4 (List.map tySPair.c l822.2.2.2.1)]]⟩), (7, ⟨4, true, [[.bool l822.2.2.2.2.1, .sl false 8 (List.map tySCandidate.c l822.2.2.2.2.2.1), .sl false 8 (List.map tySCandidate.c l822.2.2.2.2.2.2.1), .sl false 4 (List.map tySPair.c l822.2.2.2.2.2.2.2.1)]]⟩), (15, ⟨8, true, [[.int .i64 x823.fKind, .int .i64 x823.fComponent, .int .i64 x823.fPriority, .str x823.fFoundation, .str x823.fAddr.fHost, .int .i64 x823.fAddr.fPort, .str x823.fBase.fHost, .int .i64 x823.fBase.fPort]]⟩)])
        (fun l827 =>
         .br 0 (decide (l827.2 < (mlen tySCandidate l822.2.2.2.2.2.2.2.2.1)))
         (.row 18001 tySCandidate l822.2.2.2.2.2.2.2.2.1 l827.2.toNat (decide (0 ≤ l827.2)) fun x828 =>
          .cnd 19 [129]
          (.br 19007 (x823.fComponent == x828.fComponent)
           (.done ((x823.fAddr.fHost.size : Int) == (x828.fAddr.fHost.size : Int)))
           (.done false))
          (fun (c829 : Bool) => [.bool c829]) fun c829 =>
          .br 0 c829
          (.done (.inl ((wi64 (l827.1 + 1)), (wi64 (l827.2 + 1)))))
          (.done (.inl (l827.1, (wi64 (l827.2 + 1))))))
         (.done (.inr l827.1)))
        (l822.2.2.2.2.2.2.2.2.2.1, 0))
       (fun (e830 : Int) => Ext.lit (.exit 2) [(2, .bool false), (4, .sl false 8 (List.map tySCandidate.c l822.2.2.2.2.2.2.2.2.1)), (5, .ptr 5 0 0), (7, .ptr 7 0 0), (13, .int .i64 e830), (102, .sl false 8 (List.map tySCandidate.c l822.2.2.2.2.2.2.2.2.2.2.1)), (103, .int .i64 l822.2.2.2.2.2.2.2.2.2.2.2.1), (104, .int .i64 l822.2.2.2.2.2.2.2.2.2.2.2.2)] [(5, ⟨4, true, [[.bool l822.1, .sl false 8 (List.map tySCandidate.c l822.2.1), .sl false 8 (List.map tySCandidate.c l822.2.2.1), .sl false 4 (List.map tySPair.c l822.2.2.2.1)]]⟩), (7, ⟨4, true, [[.bool l822.2.2.2.2.1, .sl false 8 (List.map tySCandidate.c l822.2.2.2.2.2.1), .sl false 8 (List.map tySCandidate.c l822.2.2.2.2.2.2.1), .sl false 4 (List.map tySPair.c l822.2.2.2.2.2.2.2.1)]]⟩)])
       (fun e830 =>
        .done (.inl (l822.1, l822.2.1, l822.2.2.1, l822.2.2.2.1, l822.2.2.2.2.1, l822.2.2.2.2.2.1, l822.2.2.2.2.2.2.1, l822.2.2.2.2.2.2.2.1, l822.2.2.2.2.2.2.2.2.1, e830, l822.2.2.2.2.2.2.2.2.2.2.1, l822.2.2.2.2.2.2.2.2.2.2.2.1, (wi64 (l822.2.2.2.2.2.2.2.2.2.2.2.2 + 1))))))
      (.done (.inr (l822.1, l822.2.1, l822.2.2.1, l822.2.2.2.1, l822.2.2.2.2.1, l822.2.2.2.2.2.1, l822.2.2.2.2.2.2.1, l822.2.2.2.2.2.2.2.1, l822.2.2.2.2.2.2.2.2.2.1))))
     (r804.1.fControlling, r804.1.fLocals, r804.1.fRemotes, r804.1.fPairs, r805.1.fControlling, r805.1.fLocals, r805.1.fRemotes, r805.1.fPairs, r803, 0, r802, (mlen tySCandidate r802), 0))
    (fun (e831 : Bool × (List SCandidate) × (List SCandidate) × (List SPair) × Bool × (List SCandidate) × (List SCandidate) × (List SPair) × Int) => Ext.lit (.exit 0) [(2, .bool false), (5, .ptr 5 0 0), (7, .ptr 7 0 0), (13, .int .i64 e831.2.2.2.2.2.2.2.2)] [(5, ⟨4, true, [[.bool e831.1, .sl false 8 (List.map tySCandidate.c e831.2.1), .sl false 8 (List.map tySCandidate.c e831.2.2.1), .sl false 4 (List.map tySPair.c e831.2.2.2.1)]]⟩), (7, ⟨4, true, [[.bool e831.2.2.2.2.1, .sl false 8 (List.map tySCandidate.c e831.2.2.2.2.2.1), .sl false 8 (List.map tySCandidate.c e831.2.2.2.2.2.2.1), .sl false 4 (List.map tySPair.c e831.2.2.2.2.2.2.2.1)]]⟩)])
    (fun e831 =>
     .cnd 23 [145]
     (.br 23007 ((mlen tySPair e831.2.2.2.1) != e831.2.2.2.2.2.2.2.2)
      (.done true)
      (.done ((mlen tySPair e831.2.2.2.2.2.2.2.1) != e831.2.2.2.2.2.2.2.2)))
     (fun (c832 : Bool) => [.bool c832]) fun c832 =>
     .br 0 c832
     (.cnd 24 [2]
      (.br 24007 (decide ((mlen tySPair e831.2.2.2.1) < e831.2.2.2.2.2.2.2.2))
       (.done true)
       (.done (decide ((mlen tySPair e831.2.2.2.2.2.2.2.1) < e831.2.2.2.2.2.2.2.2))))
      (fun (c833 : Bool) => [.bool c833]) fun c833 =>
      .done c833)
     (.bind2 1
      (.lp (fun (l837 : Int) => Ext.lit .normal [(2, .bool false), (5, .ptr 5 0 0), (7, .ptr 7 0 0), (160, .int .i64 (mlen tySPair e831.2.2.2.1)), (161, .int .i64 l837)] [(5, ⟨4, true, [[.bool e831.1, .sl false 8 (List.map tySCandidate.c e831.2.1), .sl false 8 (List.map tySCandidate.c e831.2.2.1), .sl false 4 (List.map tySPair.c e831.2.2.2.1)]]⟩), (7, ⟨4, true, [[.bool e831.2.2.2.2.1, .sl false 8 (List.map tySCandidate.c e831.2.2.2.2.2.1), .sl false 8 (List.map tySCandidate.c e831.2.2.2.2.2.2.1), .sl false 4 (List.map tySPair.c e831.2.2.2.2.2.2.2.1)]]⟩)])
       (fun l837 =>
        .br 0 (decide (l837 < (mlen tySPair e831.2.2.2.1)))
        (.row 28004 tySPair e831.2.2.2.1 l837.toNat (decide (0 ≤ l837)) fun x838 =>
         .row 28010 tySPair e831.2.2.2.2.2.2.2.1 l837.toNat (decide (0 ≤ l837)) fun x839 =>
         .br 0 (x838.fPriority != x839.fPriority)
         (.done (.inr (.inl ())))
         (.done (.inl (wi64 (l837 + 1)))))
        (.done (.inr (.inr ()))))
       0)
      (fun (_ : Unit) => Ext.lit .ret [(2, .bool false)] [])
      (fun (_ : Unit) => Ext.lit (.exit 4) [(2, .bool false)] [])
      (fun _ =>
       .done false)
      (fun _ =>
       .done true))))))
theorem k4 (p0 : SDraft1) : FnD Tryd.prog GG [0, 1, 2, 3, 4, 5, 6, 7, 8, 9, 10, 11, 12, 13, 15, 17, 18, 20, 63, 101, 102, 103, 104, 105, 108, 109, 110, 111, 129, 145, 160, 161, 162, 176] Tryd.f4 [.agg [.sl false 6 (List.map tySDraft.c p0.fLocals), .sl false 6 (List.map tySDraft.c p0.fRemotes), .bool p0.fControlling, .sl false 2 (List.map tyS2Uint8.c p0.fSet)]] (g4 p0) (fun r => .bool r) := by unfold FnD; kernel_rfl
noncomputable def s4 (p0 : SDraft1) : EV.Spec Tryd.prog GG (Bool) := .ofFn 4 mixed Tryd.func4 (k4 p0)
end Go.Proofs.YtioobnkmohikjaaDoor
namespace Go.Proofs.YtioobnkmohikjaaDoor
open Go Go.EV
set_option maxRecDepth 100000
open Classical
def swapP (x : SPair) : SPair := ⟨x.fRemote, x.fLocal, x.fPriority, x.fState⟩
theorem fitsL_nodup {Z : SList} (n : Nat) : (fitsL Z n).Nodup := (fitsL_ix (Z := Z) n).imp fun {x y} h e => by
 subst e; unfold ix at h; omega
theorem swap_mk (c : Bool) (a b : List SCandidate) (i j : Nat) : swapP (mkP ⟨c, a, b, []⟩ i j) = mkP ⟨!c, b, a, []⟩ j i := by
 unfold swapP mkP prio
 cases c <;> rfl
theorem fitAt_swap (c : Bool) (a b : List SCandidate) (i j : Nat) : FitAt ⟨c, a, b, []⟩ i j ↔ FitAt ⟨!c, b, a, []⟩ j i :=
 ⟨fun ⟨x, w, h1, h2, h3⟩ => ⟨w, x, h2, h1, h3.1.symm, h3.2.symm⟩, fun ⟨x, w, h1, h2, h3⟩ => ⟨w, x, h2, h1, h3.1.symm, h3.2.symm⟩⟩
theorem swap_perm (c : Bool) (a b : List SCandidate) : (fitsL ⟨!c, b, a, []⟩ b.length).Perm ((fitsL ⟨c, a, b, []⟩ a.length).map swapP) := by
 refine (List.perm_ext_iff_of_nodup (fitsL_nodup _) (List.pairwise_map.2 ((fitsL_ix _).imp fun {x y} h e => ?_))).2 fun x => ?_
 ·unfold swapP at e
  simp only [SPair.mk.injEq] at e
  unfold ix at h; omega
 ·rw [fitsL_mem, List.mem_map]
  constructor
  ·rintro ⟨j, i, h1, h2, h3, rfl⟩
   exact ⟨mkP ⟨c, a, b, []⟩ i j, fitsL_mem.2 ⟨i, j, h2, h1, (fitAt_swap c a b i j).2 h3, rfl⟩, swap_mk c a b i j⟩
  ·rintro ⟨y, hy, rfl⟩
   obtain ⟨i, j, h1, h2, h3, rfl⟩ := fitsL_mem.1 hy
   exact ⟨j, i, h2, h1, (fitAt_swap c a b i j).1 h3, swap_mk c a b i j⟩
theorem same_prios {c : Bool} {a b : List SCandidate} {ps qs : List SPair} (hS : MShape ⟨c, a, b, []⟩ ps) (hT : MShape ⟨!c, b, a, []⟩ qs)
  (h1 : ps.length = (fitsL ⟨c, a, b, []⟩ a.length).length) (h2 : qs.length = (fitsL ⟨c, a, b, []⟩ a.length).length) : ps.map (·.fPriority) = qs.map (·.fPriority) := by
 have hp := swap_perm c a b
 have hl : (fitsL ⟨!c, b, a, []⟩ b.length).length = (fitsL ⟨c, a, b, []⟩ a.length).length := by rw [hp.length_eq, List.length_map]
 have p1 := hS.full h1
 have p2 := hT.full (h2.trans hl.symm)
 have p3 := hp.map (·.fPriority)
 rw [List.map_map] at p3
 refine List.Perm.eq_of_pairwise (le := fun x y : Int => y ≤ x) (fun x y _ _ h k => by omega) (List.pairwise_map.2 (hS.sorted.imp fun h => ?_)) (List.pairwise_map.2 (hT.sorted.imp fun h => ?_)) (p1.trans (p3.symm.trans p2.symm))
 ·unfold bef at h; omega
 ·unfold bef at h; omega
theorem valid_of {c : Bool} {a b : List SCandidate} {ps : List SPair} (hS : MShape ⟨c, a, b, []⟩ ps) (ha : a.length ≤ 12) (hb : b.length ≤ 12) (ca : CandsOk a) (cb : CandsOk b) : ValidL ⟨c, a, b, ps⟩ := by
 refine ⟨⟨ha, hb, hS.len, ca, cb⟩, fun x hx => ?_, hS.nodup⟩
 obtain ⟨h1, h2, h3, h4⟩ := hS.pair x hx
 exact ⟨h1, by omega, h2, h3⟩
theorem turn_once {l : SList} (h : ValidL l) : turnF l = (withP l (!l.fControlling) (l.fPairs.map (turnX l)), 0) := by unfold turnF; rw [if_pos h]
theorem turn_valid {l : SList} (h : ValidL l) : ValidL (withP l (!l.fControlling) (l.fPairs.map (turnX l))) := by
 obtain ⟨⟨h1, h2, h3, h4, h5⟩, hp, hn⟩ := h
 refine ⟨⟨h1, h2, by show (List.map _ _).length ≤ 36; rw [List.length_map]; exact h3, h4, h5⟩, fun x hx => ?_, ?_⟩
 ·obtain ⟨y, hy, rfl⟩ := List.mem_map.1 hx
  obtain ⟨q1, q2, q3, q4⟩ := hp y hy
  exact ⟨q1, q2, q3, rfl⟩
 ·show (List.map _ (List.map _ _)).Nodup
  rw [List.map_map]; exact hn
theorem turn_twice {l : SList} (h : ValidL l) : turnF (withP l (!l.fControlling) (l.fPairs.map (turnX l))) = (l, 0) := by
 rw [turn_once (turn_valid h)]
 obtain ⟨c, a, b, ps⟩ := l
 unfold withP
 simp only [Bool.not_not, List.map_map]
 have : List.map ((turnX ⟨!c, a, b, List.map (turnX ⟨c, a, b, ps⟩) ps⟩) ∘ (turnX ⟨c, a, b, ps⟩)) ps = ps := by
  refine (List.map_congr_left fun x hx => ?_).trans (List.map_id ps)
  obtain ⟨_, _, _, q4⟩ := h.2.1 x hx
  show SPair.mk _ _ _ _ = x
  have e : prio (withP ⟨!c, a, b, List.map (turnX ⟨c, a, b, ps⟩) ps⟩ (!!c) []) (turnX ⟨c, a, b, ps⟩ x) = x.fPriority := by
   rw [q4]; cases c <;> rfl
  have e' : prio (withP ⟨!c, a, b, List.map (turnX ⟨c, a, b, ps⟩) ps⟩ (!(SList.mk (!c) a b (List.map (turnX ⟨c, a, b, ps⟩) ps)).fControlling) []) (turnX ⟨c, a, b, ps⟩ x) = x.fPriority := e
  rw [e']
  cases x; rfl
 rw [this]
theorem gLSIDES (d : SDraft1) (hL : ∀ x, x ∈ d.fLocals → DraftOk x) (hR : ∀ x, x ∈ d.fRemotes → DraftOk x) : Ok (g4 d) (fun r => r = true) := by
 unfold g4
 simp only [mlen_eq]
 refine Ok.call okWAKES fun r hr => Ok.brF (by rw [hr]; rfl) (Ok.call (okRCANDSH d.fLocals 12 (by omega) hL) fun a ha => Ok.call (okRCANDSH d.fRemotes 12 (by omega) hR) fun b hb => Ok.call (okMAKE a b d.fControlling) fun m hm => Ok.call (okMAKE b a (!d.fControlling)) fun n hn => ?_)
 obtain ⟨ha, ca⟩ := ha
 obtain ⟨hb, cb⟩ := hb
 obtain ⟨ps, rfl, hS⟩ := hm.shape ha hb ca cb
 obtain ⟨qs, rfl, hT⟩ := hn.shape hb ha cb ca
 clear hm hn
 generalize d.fControlling = c at *
 have hlen := hS.len
 have hlen2 := hT.len
 have hv := valid_of hS ha hb ca cb
 refine Ok.cnd (R := fun c => c = false) (Ok.brF rfl (Ok.brF rfl (Ok.call (okGOOD c a b ps (by omega) (by omega) (by omega) (fun x hx => (hS.pair x hx).1)) fun r hr => Ok.brF (by rw [hr]; rfl) (Ok.call (okGOOD (!c) b a qs (by omega) (by omega) (by omega) (fun x hx => (hT.pair x hx).1)) fun r hr => Ok.done (by rw [hr]; rfl))))) fun c1 hc1 => Ok.brF hc1 ?_
 refine Ok.call (okTURN _) fun t ht => Ok.call (okTURN _) fun u hu => ?_
 rw [turn_once hv] at ht
 subst ht
 have hu2 : u = (⟨c, a, b, ps⟩, 0) := hu.trans (turn_twice hv)
 clear hu
 subst hu2
 refine Ok.cnd (R := fun c => c = false) (Ok.brF rfl (Ok.brF rfl (Ok.call (okSAME ⟨c, a, b, ps⟩ (by show a.length ≤ _; omega) (by show b.length ≤ _; omega) (by show ps.length ≤ _; omega)) fun r hr => Ok.brF (by rw [hr]; rfl) (Ok.brF (by show ((!c) == c) = false; cases c <;> rfl) (Ok.done ?_))))) fun c2 hc2 => Ok.brF hc2 ?_
 ·show (((List.map _ ps).length : Int) != (ps.length : Int)) = false
  rw [List.length_map]; simp
 refine Ok.bind (R := fun e => e = (c, a, b, ps, !c, b, a, qs, ((fitsL ⟨c, a, b, []⟩ a.length).length : Int))) ?_ fun e he => ?_
 ·refine Ok.scan a.length (by omega) (fun k y => k ≤ a.length ∧ y = (c, a, b, ps, !c, b, a, qs, b, ((fitsL ⟨c, a, b, []⟩ k).length : Int), a, (a.length : Int), (k : Int))) ⟨Nat.zero_le _, rfl⟩ (fun k y hy hk => ?_) (fun y hy => ?_)
  ·obtain ⟨_, rfl⟩ := hy
   refine Ok.br (fun hc => ?_) (fun hc => by simp at hc; omega)
   obtain ⟨p, hp1, hp2⟩ := get_lt hk
   have hF : (fitsL ⟨c, a, b, []⟩ k).length ≤ k * b.length := fitsL_len (Z := ⟨c, a, b, []⟩) k
   have hF2 : k * b.length ≤ 12 * 12 := Nat.mul_le_mul (by omega) hb
   refine Ok.row (by simp) hp1 (Ok.bind (R := fun e => e = (((fitsL ⟨c, a, b, []⟩ (k + 1)).length : Nat) : Int)) ?_ fun e he => Ok.done ⟨by omega, ?_⟩)
   ·refine Ok.scan b.length (by omega) (fun j z => z = ((((fitsL ⟨c, a, b, []⟩ k).length + (rowL ⟨c, a, b, []⟩ k j).length : Nat) : Int), (j : Int))) rfl (fun j z hz hj => ?_) (fun z hz => ?_)
    ·subst hz
     refine Ok.br (fun hc => ?_) (fun hc => by simp at hc; omega)
     obtain ⟨q, hq1, hq2⟩ := get_lt hj
     have hRl := rowL_len (Z := ⟨c, a, b, []⟩) (i := k) j
     have hfit : FitAt ⟨c, a, b, []⟩ k j ↔ FitP p q := by
      constructor
      ·rintro ⟨x', w', h1, h2, h3⟩
       have h1' : a[k]? = some x' := h1
       have h2' : b[j]? = some w' := h2
       rw [hp2] at h1'; rw [hq2] at h2'
       obtain rfl := Option.some.inj h1'
       obtain rfl := Option.some.inj h2'
       exact h3
      ·exact fun h => ⟨p, q, hp2, hq2, h⟩
     refine Ok.row (by simp) hq1 (Ok.cnd (R := fun t => (t = true ↔ FitP p q)) (Ok.br (fun h => Ok.done ?_) (fun h => Ok.done ?_)) fun t ht => Ok.br (fun h => Ok.done ?_) (fun h => Ok.done ?_))
     ·rw [beq_iff_eq] at h ⊢; exact ⟨fun k => ⟨h, k⟩, fun k => k.2⟩
     ·rw [beq_eq_false_iff_ne] at h; exact ⟨fun k => by simp at k, fun k => absurd k.1 h⟩
     ·refine Prod.ext ?_ (wi64_nat hj (by omega))
      show wi64 _ = _
      rw [wi64_id (by omega) (by omega)]
      have : rowL ⟨c, a, b, []⟩ k (j + 1) = rowL ⟨c, a, b, []⟩ k j ++ [mkP ⟨c, a, b, []⟩ k j] := by
       show _ ++ _ = _
       rw [if_pos (hfit.2 (ht.1 h))]
      rw [this, List.length_append, List.length_singleton]
      omega
     ·refine Prod.ext ?_ (wi64_nat hj (by omega))
      have : rowL ⟨c, a, b, []⟩ k (j + 1) = rowL ⟨c, a, b, []⟩ k j := by
       show _ ++ _ = _
       rw [if_neg (fun h5 => by rw [ht.2 (hfit.1 h5)] at h; simp at h), List.append_nil]
      rw [this]
    ·subst hz
     refine Ok.br (fun hc => by simp at hc) (fun hc => Ok.done ?_)
     show _ = (((fitsL ⟨c, a, b, []⟩ k ++ rowL ⟨c, a, b, []⟩ k b.length).length : Nat) : Int)
     rw [List.length_append]
   ·subst he
    show (_, _, _, _, _, _, _, _, _, _, _, _, _) = _
    simp only [wi64_nat hk (by omega : a.length ≤ 1000000)]
  ·obtain ⟨_, rfl⟩ := hy
   exact Ok.br (fun hc => by simp at hc) (fun hc => Ok.done rfl)
 ·subst he
  have hN : (fitsL ⟨!c, b, a, []⟩ b.length).length = (fitsL ⟨c, a, b, []⟩ a.length).length := by rw [(swap_perm c a b).length_eq, List.length_map]
  have hl1 : ps.length ≤ (fitsL ⟨c, a, b, []⟩ a.length).length := hS.low
  have hl2 : qs.length ≤ (fitsL ⟨c, a, b, []⟩ a.length).length := by rw [← hN]; exact hT.low
  have key := same_prios hS hT
  generalize (fitsL ⟨c, a, b, []⟩ a.length).length = N at *
  dsimp only
  refine Ok.cnd (R := fun t => (t = true ↔ ¬ (ps.length = N ∧ qs.length = N))) (Ok.br (fun h => Ok.done ?_) (fun h => Ok.done ?_)) fun t ht => Ok.br (fun h => ?_) (fun h => ?_)
  ·rw [bne_iff_ne] at h
   exact ⟨fun _ h2 => h (by rw [h2.1]), fun _ => rfl⟩
  ·rw [bne_eq_false_iff_eq] at h
   rw [bne_iff_ne]
   exact ⟨fun h2 h3 => h2 (by rw [h3.2]), fun h2 h3 => h2 ⟨by omega, by omega⟩⟩
  ·have hne := ht.1 h
   refine Ok.cnd (R := fun t => t = true) (Ok.br (fun _ => Ok.done rfl) (fun h2 => Ok.done ?_)) fun t ht => Ok.done ht
   simp only [decide_eq_false_iff_not] at h2
   rw [decide_eq_true_eq]
   omega
  ·have hE : ps.length = N ∧ qs.length = N := Classical.byContradiction fun hn => by rw [ht.2 hn] at h; simp at h
   have hmap := key hE.1 hE.2
   refine Ok.bind2 (R := fun e => match e with | .inl _ => False | .inr _ => True) ?_ (fun e he => he.elim) (fun e he => Ok.done rfl)
   refine Ok.scan ps.length (by omega) (fun k y => y = (k : Int)) rfl (fun k y hy hk => ?_) (fun y hy => ?_)
   ·subst hy
    refine Ok.br (fun hc => ?_) (fun hc => by simp at hc; omega)
    obtain ⟨x, hx1, hx2⟩ := get_lt hk
    obtain ⟨w, hw1, hw2⟩ := get_lt (show k < qs.length by omega)
    have e : x.fPriority = w.fPriority := by
     have h1 : (ps.map (·.fPriority))[k]? = some x.fPriority := by rw [List.getElem?_map, hx2]; rfl
     have h2 : (qs.map (·.fPriority))[k]? = some w.fPriority := by rw [List.getElem?_map, hw2]; rfl
     rw [hmap, h2] at h1
     exact (Option.some.inj h1).symm
    exact Ok.row (by simp) hx1 (Ok.row (by simp) hw1 (Ok.brF (by rw [e]; simp) (Ok.done (wi64_nat hk (by omega)))))
   ·subst hy
    exact Ok.br (fun hc => by simp at hc) (fun hc => Ok.done trivial)
theorem okLSIDES (d : SDraft1) (hL : ∀ x, x ∈ d.fLocals → DraftOk x) (hR : ∀ x, x ∈ d.fRemotes → DraftOk x) : SOk (s4 d) (fun r => r = true) := by
 unfold s4
 exact SOk.fn (gLSIDES d hL hR)
end Go.Proofs.YtioobnkmohikjaaDoor
namespace Go.Proofs.YtioobnkmohikjaaDoor
open Go Go.EV Go.ChangeShapes
set_option maxRecDepth 100000
theorem own : ownKnob Tryd.prog.godebug = none := by kernel_rfl
abbrev laid1 : List (String × DataW Unit) := [("math/bits.deBruijn32tab", Rows.laid_math_bits_deBruijn32tab), ("math/bits.deBruijn64tab", Rows.laid_math_bits_deBruijn64tab), ("internal/strconv.uint64pow10", Rows.laid_internal_strconv_uint64pow10), ("unicode/utf8.acceptRanges", Rows.laid_unicode_utf8_acceptRanges), ("unicode/utf8.first", Rows.laid_unicode_utf8_first)]
theorem shaped1 (os : Os) : (World.laidAll Tryd.prog os laid1).Shaped Tryd.prog := World.shaped_of_ZipB (by kernel_rfl) (by kernel_rfl)
theorem laid_met (os : Os) (args : Array Value) : laidMetH Tryd.prog laid1 ((World.laidAll Tryd.prog os laid1).forCall (fun _ _ => 0) ⟨#[], args, []⟩).memory := by
 rw [MakeChecks.laidMetH_plain _ _ _ (by kernel_rfl)]
 exact laidMet_laidAll _ (by kernel_rfl) (by kernel_rfl)
def gh0 (w : World) : Gh := { loc := fun _ => none, own := fun _ => none, lim := fun B => match w.heap[B]? with | some (.cells cs _ _) => cs.size | _ => 0 }
theorem gh0_lim {w : World} {B o : Nat} {v : Value} (h : cellAt w B o = some v) : o < (gh0 w).lim B := by
 unfold cellAt World.cell? at h
 simp only [gh0]
 cases hb : w.heap[B]? with
 | none => simp [hb] at h
 | some x =>
  cases x with
  | cells cs t fz =>
   simp only [hb] at h
   simp only
   exact (Array.getElem?_eq_some_iff.1 (by simpa using h)).1
  | _ => simp [hb] at h
theorem globOk {w : World} (_ : laidMetH Tryd.prog laid1 w) : GlobOk GG (gh0 w) w := fun g cells hg => by
 unfold GG at hg
 cases hg
theorem keptBut_of_grow {w w' : World} {γ' : Gh} (h : Grow (gh0 w) w γ' w') (may : MemPlace → Prop) : w.keptBut w' may := by
 refine ⟨h.os, h.output, fun i hi => ?_⟩
 have := (h.free i hi rfl).1
 rw [this]
 cases w.heap[i]? with
 | none => trivial
 | some x =>
  cases x with
  | cells c t fr => exact ⟨rfl, rfl, rfl, fun _ _ => rfl⟩
  | map es clock => exact .inr ⟨rfl, rfl⟩
  | _ => rfl
end Go.Proofs.YtioobnkmohikjaaDoor
namespace Go.Proofs.YtioobnkmohikjaaDoor
open Go Go.EV Go.ChangeShapes
set_option maxRecDepth 100000
def CellsD (W : World) (l : List V) (cs : List Value) : Prop := cs.length = l.length ∧ ∀ (i : Nat) (c : V) (v : Value), l[i]? = some c → cs[i]? = some v → RepD (gh0 W).lim W c v
theorem CellsD.one {W : World} {c : V} {v : Value} (h : RepD (gh0 W).lim W c v) : CellsD W [c] [v] := ⟨rfl, fun i c' v' hc hv => by
 cases i with
 | zero => simp at hc hv; subst hc; subst hv; exact h
 | succ i => simp at hc⟩
theorem CellsD.append {W : World} {l m : List V} {cs ds : List Value} (h : CellsD W l cs) (k : CellsD W m ds) : CellsD W (l ++ m) (cs ++ ds) :=
  ⟨by simp [h.1, k.1], fun i c v hc hv => by
    by_cases hi : i < l.length
    · rw [List.getElem?_append_left hi] at hc
      rw [List.getElem?_append_left (by rw [h.1]; exact hi)] at hv
      exact h.2 i c v hc hv
    · rw [List.getElem?_append_right (by omega)] at hc
      rw [List.getElem?_append_right (by rw [h.1]; omega), h.1] at hv
      exact k.2 _ c v hc hv⟩
def Rd (t : TypeId) {α : Type} (c : α → List V) (I : α → Prop) : Prop :=
 ∀ (H : Type) (enc : TypeId × Value → H) (W : World) (fuel : Nat) (cs : List Value) (x : DataW H × List MemPlace), DataW.trod enc Tryd.prog W 0 (fun _ => true) true fuel t cs = some x → ∃ a : α, I a ∧ CellsD W (c a) cs
theorem rdInt {t : TypeId} {k : IntKind} (ht : Tryd.prog.underlying t = some (.int k)) : Rd t (fun n : Int => [.int k n]) (fun n => (Lit.int k n).wf = true) := fun H enc W fuel cs x h => by
 obtain ⟨n, rfl, _, hw⟩ := DataW.trod_int ht h
 exact ⟨n, hw, .one (.int k n)⟩
theorem rdBool {t : TypeId} (ht : Tryd.prog.underlying t = some .bool) : Rd t (fun b : Bool => [.bool b]) (fun _ => True) := fun H enc W fuel cs x h => by
 cases fuel with
 | zero => simp [DataW.trod] at h
 | succ n =>
  unfold DataW.trod at h
  rw [ht] at h
  split at h <;> first | exact ⟨_, trivial, .one (.bool _)⟩ | simp_all
theorem fld {H : Type} {enc : TypeId × Value → H} {W : World} {n : Nat} {fs : Array Field} {cs : List Value} {xs : List (DataW H × List MemPlace)} {t o z : Nat} {α : Type} {c : α → List V} {I : α → Prop}
  (hel : ∀ (i : Nat) (f : Field), fs[i]? = some f → DataW.trod enc Tryd.prog W 0 (fun _ => true) true n f.type ((cs.drop f.offset).take (Tryd.prog.cellsOf f.type)) = xs[i]?) (hn : xs.length = fs.size) (i : Nat)
  (hf : (fs[i]?).map (fun f => (f.type, f.offset)) = some (t, o)) (hz : Tryd.prog.cellsOf t = z) (r : Rd t c I) : ∃ a : α, I a ∧ CellsD W (c a) ((cs.drop o).take z) := by
 obtain ⟨f, h1, h2⟩ := Option.map_eq_some_iff.1 hf
 simp only [Prod.mk.injEq] at h2
 obtain ⟨rfl, rfl⟩ := h2
 have hi : i < xs.length := by rw [hn]; exact (Array.getElem?_eq_some_iff.1 h1).1
 have := hel i f h1
 rw [List.getElem?_eq_getElem hi, hz] at this
 exact r H enc W n _ _ this
theorem fldA {H : Type} {enc : TypeId × Value → H} {W : World} {n m : Nat} {cs : List Value} {xs : List (DataW H × List MemPlace)} {t z : Nat} {α : Type} {c : α → List V} {I : α → Prop}
  (hel : ∀ (i : Nat), i < m → DataW.trod enc Tryd.prog W 0 (fun _ => true) true n t ((cs.drop (i * Tryd.prog.cellsOf t)).take (Tryd.prog.cellsOf t)) = xs[i]?) (hn : xs.length = m) (i : Nat) (hi : i < m)
  (hz : Tryd.prog.cellsOf t = z) (r : Rd t c I) : ∃ a : α, I a ∧ CellsD W (c a) ((cs.drop (i * z)).take z) := by
 have := hel i hi
 rw [List.getElem?_eq_getElem (by omega), hz] at this
 exact r H enc W n _ _ this
theorem cells_at {W : World} {a : Addr} {z : Nat} {ci : List Value} (h : W.cells? 0 a z = some ci) : ci.length = z ∧ ∀ r, r < z → W.cell? (a.add r) = ci[r]? := by
 unfold World.cells? at h
 rw [if_pos (Nat.zero_le _)] at h
 exact ⟨by simpa using mapM_some_length h, fun r hr => mapM_some_get h r r (by simp [hr])⟩
theorem spot_of {W : World} {a : Addr} {z q : Nat} {ci : List Value} (hz : 0 < z) (h : W.cells? 0 (a.add (q * z)) z = some ci) (hq : q = 0) : a.spot = none := by
 obtain ⟨h1, h2⟩ := cells_at h
 have h3 := h2 0 hz
 have e : (a.add (q * z)).add 0 = a := by subst hq; simp [Addr.add]
 rw [e, List.getElem?_eq_getElem (by omega)] at h3
 exact World.cell?_spot h3
theorem rdSlice {t e z : Nat} {α : Type} {ty : Ty α} {I : α → Prop} (ht : Tryd.prog.underlying t = some (.slice e)) (hz : Tryd.prog.cellsOf e = z) (hpos : 0 < z) (hlen : ∀ a, (ty.c a).length = z) (r : Rd e ty.c I) :
  Rd t (fun l : List α => [.sl false z (l.map ty.c)]) (fun l => ∀ a, a ∈ l → I a) := fun H enc W fuel cs x h => by
 rcases DataW.trod_slice ht h with ⟨rfl, -⟩ | ⟨a, len, cap, elems, rest, n, rfl, rfl, -, -, hlc, -, hel, hE, hR, -⟩
 ·exact ⟨[], by simp, .one (.slNil false z)⟩
 rw [hz] at hE hR
 have build : ∀ m, m ≤ len → ∃ l : List α, l.length = m ∧ (∀ a, a ∈ l → I a) ∧ ∀ i x, l[i]? = some x → ∃ ci, W.cells? 0 (a.add (i * z)) z = some ci ∧ CellsD W (ty.c x) ci := by
  intro m
  induction m with
  | zero => intro _; exact ⟨[], rfl, by simp, by simp⟩
  | succ m ih =>
   intro hm
   obtain ⟨l, l1, l2, l3⟩ := ih (by omega)
   have := hE m (by omega)
   rw [List.getElem?_eq_getElem (by omega)] at this
   obtain ⟨ci, hci, htr⟩ := Option.bind_eq_some_iff.1 this
   obtain ⟨y, hy, hcd⟩ := r H enc W n ci _ htr
   refine ⟨l ++ [y], by simp [l1], fun b hb => ?_, fun i x hx => ?_⟩
   ·rcases List.mem_append.1 hb with hb | hb
    ·exact l2 b hb
    ·rw [List.mem_singleton.1 hb]; exact hy
   ·by_cases hi : i < l.length
    ·rw [List.getElem?_append_left hi] at hx; exact l3 i x hx
    ·rw [List.getElem?_append_right (by omega)] at hx
     have hi2 : i - l.length = 0 := by
      have := (List.getElem?_eq_some_iff.1 hx).1
      simp at this; omega
     rw [hi2] at hx; simp at hx; subst hx
     have : i = m := by omega
     subst this
     exact ⟨ci, hci, hcd⟩
 obtain ⟨l, hl, hI, hc⟩ := build len (Nat.le_refl _)
 refine ⟨l, hI, .one ?_⟩
 by_cases hcap : cap = 0
 ·have : l = [] := List.length_eq_zero_iff.1 (by omega)
  subst this
  have h0 : len = 0 := by simpa using hl.symm
  subst h0; subst hcap
  exact .slNil false z (some a)
 have hspot : a.spot = none := by
  by_cases h0 : len = 0
  ·obtain ⟨r1, r2⟩ := hR rfl
   have := r2 0 (by omega)
   rw [List.getElem?_eq_getElem (by omega)] at this
   obtain ⟨ci, hci, _⟩ := Option.bind_eq_some_iff.1 this
   exact spot_of hpos (q := len + 0) hci (by omega)
  ·have := hE 0 (by omega)
   rw [List.getElem?_eq_getElem (by omega)] at this
   obtain ⟨ci, hci, _⟩ := Option.bind_eq_some_iff.1 this
   exact spot_of hpos hci rfl
 obtain ⟨B, o, sp⟩ := a
 simp only at hspot
 subst hspot
 have hsz : ∀ q, q ∈ l.map ty.c → q.length = z := fun q hq => by
  obtain ⟨y, _, rfl⟩ := List.mem_map.1 hq; exact hlen y
 have key : ∀ (i : Nat) (c : V), (l.map ty.c).flatten[i]? = some c → ∃ v, cellAt W B (o + i) = some v ∧ RepD (gh0 W).lim W c v := fun i c hci => by
  have e1 : i = (i / z) * z + i % z := by rw [Nat.mul_comm]; exact (Nat.div_add_mod i z).symm
  have hm := Nat.mod_lt i hpos
  rw [e1, flatten_get _ hsz _ _ hm, List.getElem?_map] at hci
  cases hx : l[i / z]? with
  | none => rw [hx] at hci; simp at hci
  | some y =>
   rw [hx] at hci
   simp only [Option.map_some, Option.bind_some] at hci
   obtain ⟨ci, k1, k2⟩ := hc _ _ hx
   obtain ⟨k3, k4⟩ := cells_at k1
   have k5 := k4 (i % z) hm
   have hv : ci[i % z]? = some (ci[i % z]'(by omega)) := List.getElem?_eq_getElem _
   refine ⟨_, ?_, k2.2 _ _ _ hci hv⟩
   rw [hv] at k5
   rw [Addr.add_eq, Addr.add_eq] at k5
   unfold cellAt
   rw [show o + i = o + (i / z) * z + i % z by omega]
   exact k5
 have fin := RepD.sl (lim := (gh0 W).lim) (w := W) false z (l.map ty.c) B o cap (fun i => (cellAt W B (o + i)).getD default) (by simp; omega) hsz
  (fun i c hci => by obtain ⟨v, v1, v2⟩ := key i c hci; rw [v1]; exact ⟨gh0_lim v1, rfl⟩) (fun i c hci => by obtain ⟨v, v1, v2⟩ := key i c hci; rw [v1]; exact v2)
 rw [List.length_map, hl] at fin
 exact fin
noncomputable def fsOf (t : TypeId) : Array Field := match Tryd.prog.underlying t with | some (.struct f) => f | _ => #[]
theorem open_agg {H : Type} {enc : TypeId × Value → H} {W : World} {t : TypeId} {α : Type} {c : α → List V} {I : α → Prop} (r : Rd t c I) {v : Value} {d : DataW H} {p : List MemPlace} (hv : ∃ cs, v = .agg cs)
  (h : DataW.Trod enc Tryd.prog W 0 (fun _ => true) true t v d p) : ∃ a : α, I a ∧ Rep (gh0 W) W (ofL []) uTop (.agg (c a)) v := by
 obtain ⟨cs, rfl⟩ := hv
 obtain ⟨fuel, hf⟩ := h
 obtain ⟨a, hi, hc⟩ := r H enc W fuel _ _ hf
 refine ⟨a, hi, ?_⟩
 have := Rep.agg (γ := gh0 W) (w := W) (bs := ofL []) (u := uTop) (c a) cs.toList hc.1 (fun i x y hx hy => .data (hc.2 i x y hx hy))
 simpa using this
theorem agg_struct {W : World} {base : Nat} {t : TypeId} {v : Value} {fs : Array Field} (ht : Tryd.prog.underlying t = some (.struct fs)) (h : Value.okWide Tryd.prog W .any base t v) : ∃ cs, v = .agg cs := by
 simp only [Value.okWide, ht] at h
 obtain ⟨cs, h1, _⟩ := h
 exact ⟨cs, h1⟩
theorem laidOut : laidOutB Tryd.prog = true := by kernel_rfl
theorem below_of_grow {w w' : World} {γ' : Gh} (h : Grow (gh0 w) w γ' w') : RowKit.Below w.heap.size w w' :=
 ⟨h.os, h.tape, h.output, h.size, fun k hk => (h.free k hk rfl).1⟩
section
variable {H : Type} {enc : TypeId × Value → H} {P : Program} {w : World} {base : Nat} {spare : Nat → Bool} {held : Bool}
end
theorem w8_iff {n : Int} (h : (Lit.int .u8 n).wf = true) : 0 ≤ n ∧ n ≤ 255 := by
 simp [Lit.wf, IntKind.min, IntKind.max, IntKind.signed, IntKind.bits] at h; omega
theorem w16_iff {n : Int} (h : (Lit.int .u16 n).wf = true) : 0 ≤ n ∧ n ≤ 65535 := by
 simp [Lit.wf, IntKind.min, IntKind.max, IntKind.signed, IntKind.bits] at h; omega
end Go.Proofs.YtioobnkmohikjaaDoor
namespace Go.Proofs.YtioobnkmohikjaaDoor
open Go Go.EV
set_option maxRecDepth 100000
theorem u25 : Tryd.prog.underlying 25 = some (.struct (fsOf 25)) := by kernel_rfl
theorem z25 : Tryd.prog.cellsOf 25 = 4 := by kernel_rfl
theorem u22 : Tryd.prog.underlying 22 = some (.slice 65) := by kernel_rfl
theorem z22 : Tryd.prog.cellsOf 22 = 1 := by kernel_rfl
theorem u65 : Tryd.prog.underlying 65 = some (.struct (fsOf 65)) := by kernel_rfl
theorem z65 : Tryd.prog.cellsOf 65 = 6 := by kernel_rfl
theorem u5 : Tryd.prog.underlying 5 = some (.int .u8) := by kernel_rfl
theorem z5 : Tryd.prog.cellsOf 5 = 1 := by kernel_rfl
theorem u63 : Tryd.prog.underlying 63 = some (.int .u16) := by kernel_rfl
theorem z63 : Tryd.prog.cellsOf 63 = 1 := by kernel_rfl
theorem ln6 {α : Type} {l : List α} (h : l.length = 6) : ∃ v0 v1 v2 v3 v4 v5, l = [v0, v1, v2, v3, v4, v5] := by match l, h with | [v0, v1, v2, v3, v4, v5], _ => exact ⟨v0, v1, v2, v3, v4, v5, rfl⟩
def c65 (x : SDraft) : List V := [.int .u8 x.fKind, .int .u8 x.fComponent, .int .u8 x.fAddr, .int .u8 x.fBase, .int .u8 x.fServer, .int .u16 x.fPreference]
def Ok65 (x : SDraft) : Prop := (Lit.int .u8 x.fKind).wf = true ∧ (Lit.int .u8 x.fComponent).wf = true ∧ (Lit.int .u8 x.fAddr).wf = true ∧ (Lit.int .u8 x.fBase).wf = true ∧ (Lit.int .u8 x.fServer).wf = true ∧ (Lit.int .u16 x.fPreference).wf = true
theorem rd65 : Rd 65 c65 Ok65 := fun H enc W fuel cs x h => by
 obtain ⟨xs, m, rfl, -, hl, hn, hel⟩ := DataW.trod_struct u65 h
 rw [z65] at hl
 obtain ⟨v0, v1, v2, v3, v4, v5, rfl⟩ := ln6 hl
 obtain ⟨a0, i0, k0⟩ := fld hel hn 0 (t := 5) (o := 0) (by kernel_rfl) z5 (rdInt u5)
 obtain ⟨a1, i1, k1⟩ := fld hel hn 1 (t := 5) (o := 1) (by kernel_rfl) z5 (rdInt u5)
 obtain ⟨a2, i2, k2⟩ := fld hel hn 2 (t := 5) (o := 2) (by kernel_rfl) z5 (rdInt u5)
 obtain ⟨a3, i3, k3⟩ := fld hel hn 3 (t := 5) (o := 3) (by kernel_rfl) z5 (rdInt u5)
 obtain ⟨a4, i4, k4⟩ := fld hel hn 4 (t := 5) (o := 4) (by kernel_rfl) z5 (rdInt u5)
 obtain ⟨a5, i5, k5⟩ := fld hel hn 5 (t := 63) (o := 5) (by kernel_rfl) z63 (rdInt u63)
 exact ⟨⟨a0, a1, a2, a3, a4, a5⟩, ⟨i0, i1, i2, i3, i4, i5⟩, k0.append (k1.append (k2.append (k3.append (k4.append k5))))⟩
def Ok22 (l : List SDraft) : Prop := ∀ a, a ∈ l → Ok65 a
theorem rd22 : Rd 22 (fun l : List SDraft => [.sl false 6 (l.map tySDraft.c)]) Ok22 := rdSlice (ty := tySDraft) u22 z65 (by omega) (fun _ => rfl) rd65
theorem u4 : Tryd.prog.underlying 4 = some .bool := by kernel_rfl
theorem z4 : Tryd.prog.cellsOf 4 = 1 := by kernel_rfl
theorem u23 : Tryd.prog.underlying 23 = some (.slice 174) := by kernel_rfl
theorem z23 : Tryd.prog.cellsOf 23 = 1 := by kernel_rfl
theorem u174 : Tryd.prog.underlying 174 = some (.array 2 5) := by kernel_rfl
theorem z174 : Tryd.prog.cellsOf 174 = 2 := by kernel_rfl
theorem ln2 {α : Type} {l : List α} (h : l.length = 2) : ∃ v0 v1, l = [v0, v1] := by match l, h with | [v0, v1], _ => exact ⟨v0, v1, rfl⟩
def c174 (x : S2Uint8) : List V := [.int .u8 x.a0, .int .u8 x.a1]
def Ok174 (x : S2Uint8) : Prop := (Lit.int .u8 x.a0).wf = true ∧ (Lit.int .u8 x.a1).wf = true
theorem rd174 : Rd 174 c174 Ok174 := fun H enc W fuel cs x h => by
 obtain ⟨xs, m, rfl, -, hl, hn, hel⟩ := DataW.trod_array u174 h
 rw [z174] at hl
 obtain ⟨v0, v1, rfl⟩ := ln2 hl
 obtain ⟨a0, i0, k0⟩ := fldA hel hn 0 (by omega) z5 (rdInt u5)
 obtain ⟨a1, i1, k1⟩ := fldA hel hn 1 (by omega) z5 (rdInt u5)
 exact ⟨⟨a0, a1⟩, ⟨i0, i1⟩, k0.append k1⟩
def Ok23 (l : List S2Uint8) : Prop := ∀ a, a ∈ l → Ok174 a
theorem rd23 : Rd 23 (fun l : List S2Uint8 => [.sl false 2 (l.map tyS2Uint8.c)]) Ok23 := rdSlice (ty := tyS2Uint8) u23 z174 (by omega) (fun _ => rfl) rd174
theorem ln4 {α : Type} {l : List α} (h : l.length = 4) : ∃ v0 v1 v2 v3, l = [v0, v1, v2, v3] := by match l, h with | [v0, v1, v2, v3], _ => exact ⟨v0, v1, v2, v3, rfl⟩
def c25 (x : SDraft1) : List V := [.sl false 6 (List.map tySDraft.c x.fLocals), .sl false 6 (List.map tySDraft.c x.fRemotes), .bool x.fControlling, .sl false 2 (List.map tyS2Uint8.c x.fSet)]
def Ok25 (x : SDraft1) : Prop := Ok22 x.fLocals ∧ Ok22 x.fRemotes ∧ True ∧ Ok23 x.fSet
theorem rd25 : Rd 25 c25 Ok25 := fun H enc W fuel cs x h => by
 obtain ⟨xs, m, rfl, -, hl, hn, hel⟩ := DataW.trod_struct u25 h
 rw [z25] at hl
 obtain ⟨v0, v1, v2, v3, rfl⟩ := ln4 hl
 obtain ⟨a0, i0, k0⟩ := fld hel hn 0 (t := 22) (o := 0) (by kernel_rfl) z22 rd22
 obtain ⟨a1, i1, k1⟩ := fld hel hn 1 (t := 22) (o := 1) (by kernel_rfl) z22 rd22
 obtain ⟨a2, i2, k2⟩ := fld hel hn 2 (t := 4) (o := 2) (by kernel_rfl) z4 (rdBool u4)
 obtain ⟨a3, i3, k3⟩ := fld hel hn 3 (t := 23) (o := 3) (by kernel_rfl) z23 rd23
 exact ⟨⟨a0, a1, a2, a3⟩, ⟨i0, i1, i2, i3⟩, k0.append (k1.append (k2.append k3))⟩
end Go.Proofs.YtioobnkmohikjaaDoor
namespace Go.Proofs.YtioobnkmohikjaaDoor
open Go Go.EV
set_option maxRecDepth 100000
def DraftsOk (d : SDraft1) : Prop := (∀ x, x ∈ d.fLocals → DraftOk x) ∧ (∀ x, x ∈ d.fRemotes → DraftOk x)
theorem drafts_of {d : SDraft1} (h : Ok25 d) : DraftsOk d := ⟨fun x hx => have k := h.1 x hx; ⟨w8_iff k.1, w8_iff k.2.1, w8_iff k.2.2.1, w8_iff k.2.2.2.1, w8_iff k.2.2.2.2.1, w16_iff k.2.2.2.2.2⟩, fun x hx => have k := h.2.1 x hx; ⟨w8_iff k.1, w8_iff k.2.1, w8_iff k.2.2.1, w8_iff k.2.2.2.1, w8_iff k.2.2.2.2.1, w16_iff k.2.2.2.2.2⟩⟩
end Go.Proofs.YtioobnkmohikjaaDoor
