/- Plain lists: merging two sorted lists by halves, as symMerge does; a sorted list is the only one. No program in sight. Conditions: the order is transitive and has no ties.
   Guides and contracts, printed by a program.
   The sorting of pairs: swapping, rotating, insertion. Conditions: the places lie in the list. -/
import Derived.Test.YtioobnkmohikjaaDoorS8
import Derived.Test.YtioobnkmohikjaaDoorS6
import Derived.KernelRfl
namespace Go.Proofs.YtioobnkmohikjaaDoor
section
variable {α : Type} {lt : α → α → Prop}
def Sorts (lt : α → α → Prop) (l s : List α) : Prop := s.Perm l ∧ s.Pairwise lt
theorem pairwise_le {l : List α} (hl : l.Pairwise lt) {i j : Nat} {x y : α} (hi : l[i]? = some x) (hj : l[j]? = some y) (h : i < j) : lt x y := by
 obtain ⟨a, rfl⟩ := List.getElem?_eq_some_iff.1 hi
 obtain ⟨b, rfl⟩ := List.getElem?_eq_some_iff.1 hj
 exact List.pairwise_iff_getElem.1 hl i j a b h
theorem mem_take_at {l : List α} {n : Nat} {x : α} (h : x ∈ l.take n) : ∃ i, i < n ∧ l[i]? = some x := by
 obtain ⟨i, hi⟩ := List.mem_iff_getElem?.1 h
 rw [List.getElem?_take] at hi
 split at hi
 ·exact ⟨i, by assumption, hi⟩
 ·simp at hi
theorem mem_drop_at {l : List α} {n : Nat} {x : α} (h : x ∈ l.drop n) : ∃ i, n ≤ i ∧ l[i]? = some x := by
 obtain ⟨i, hi⟩ := List.mem_iff_getElem?.1 h
 rw [List.getElem?_drop] at hi
 exact ⟨n + i, by omega, hi⟩
theorem cut_lt (trans : ∀ x y z, lt x y → lt y z → lt x z) {l r : List α} (hl : l.Pairwise lt) (hr : r.Pairwise lt) {s t : Nat} (hs : s ≤ l.length) (ht : t ≤ r.length)
  (h1 : ∀ x y, 0 < s → l[s - 1]? = some x → r[t]? = some y → lt x y) (h2 : ∀ x y, 0 < t → r[t - 1]? = some x → l[s]? = some y → lt x y) :
  ∀ x, x ∈ l.take s ++ r.take t → ∀ y, y ∈ l.drop s ++ r.drop t → lt x y := by

 have cross : ∀ {p q : List α} {a b : Nat}, a ≤ p.length → p.Pairwise lt → q.Pairwise lt → (∀ x y, 0 < a → p[a - 1]? = some x → q[b]? = some y → lt x y) → ∀ x, x ∈ p.take a → ∀ y, y ∈ q.drop b → lt x y := by
  intro p q a b hap hp hq h x hx y hy
  obtain ⟨i, hi, hxi⟩ := mem_take_at hx
  obtain ⟨j, hj, hyj⟩ := mem_drop_at hy
  have ha : a - 1 < p.length ∨ p.length ≤ a - 1 := Nat.lt_or_ge _ _
  have hil := (List.getElem?_eq_some_iff.1 hxi).1
  have hjl := (List.getElem?_eq_some_iff.1 hyj).1
  have hb : q[b]? = some q[b] := List.getElem?_eq_getElem (by omega)
  have step : lt x q[b] → lt x y := fun hh => by
   rcases Nat.lt_or_ge b j with hbj | hbj
   ·exact trans _ _ _ hh (pairwise_le hq hb hyj hbj)
   ·obtain rfl : b = j := by omega
    rw [Option.some.inj (hyj.symm.trans hb)]; exact hh
  refine step ?_
  rcases ha with ha | ha
  ·have hpa : p[a - 1]? = some p[a - 1] := List.getElem?_eq_getElem ha
   have h0 := h _ _ (by omega) hpa hb
   rcases Nat.lt_or_ge i (a - 1) with hia | hia
   ·exact trans _ _ _ (pairwise_le hp hxi hpa hia) h0
   ·obtain rfl : i = a - 1 := by omega
    rw [Option.some.inj (hxi.symm.trans hpa)]; exact h0
  ·omega
 intro x hx y hy
 rcases List.mem_append.1 hx with hx | hx <;> rcases List.mem_append.1 hy with hy | hy
 ·obtain ⟨i, hi, hxi⟩ := mem_take_at hx
  obtain ⟨j, hj, hyj⟩ := mem_drop_at hy
  exact pairwise_le hl hxi hyj (by omega)
 ·exact cross hs hl hr h1 x hx y hy
 ·exact cross ht hr hl h2 x hx y hy
 ·obtain ⟨i, hi, hxi⟩ := mem_take_at hx
  obtain ⟨j, hj, hyj⟩ := mem_drop_at hy
  exact pairwise_le hr hxi hyj (by omega)
theorem Sorts.halves {l r a b : List α} {s t : Nat} (hc : ∀ x, x ∈ l.take s ++ r.take t → ∀ y, y ∈ l.drop s ++ r.drop t → lt x y)
  (ha : Sorts lt (l.take s ++ r.take t) a) (hb : Sorts lt (l.drop s ++ r.drop t) b) : Sorts lt (l ++ r) (a ++ b) := by
 refine ⟨?_, List.pairwise_append.2 ⟨ha.2, hb.2, fun x hx y hy => hc x (ha.1.mem_iff.1 hx) y (hb.1.mem_iff.1 hy)⟩⟩
 refine (ha.1.append hb.1).trans ?_
 have e : (l.take s ++ r.take t) ++ (l.drop s ++ r.drop t) = l.take s ++ (r.take t ++ l.drop s) ++ r.drop t := by simp
 rw [e]
 have p : (l.take s ++ (r.take t ++ l.drop s) ++ r.drop t).Perm (l.take s ++ (l.drop s ++ r.take t) ++ r.drop t) :=
  ((List.perm_append_comm).append_left _).append_right _
 refine p.trans ?_
 have e2 : l.take s ++ (l.drop s ++ r.take t) ++ r.drop t = l ++ r := by
  rw [← List.append_assoc, List.take_append_drop, List.append_assoc, List.take_append_drop]
 rw [e2]
end
end Go.Proofs.YtioobnkmohikjaaDoor
namespace Go.Proofs.YtioobnkmohikjaaDoor
open Go Go.EV
set_option maxRecDepth 100000
structure SEnt80 where
 fk : S2String
 fv : Int
def tySEnt80 : Ty SEnt80 := ⟨fun x => [.str x.fk.a0, .str x.fk.a1, .int .i64 x.fv], fun x => [.str x.fk.a0, .str x.fk.a1, .int .i64 x.fv], fun _ => rfl, fun _ => rfl, fun _ _ => rfl, fun _ => rfl⟩
noncomputable def g35_1 (p0 : Bool) (p1 : (List SCandidate)) (p2 : (List SCandidate)) (p3 : SPair) : TT (Int) :=
 .row 1008 tySCandidate p1 p3.fLocal.toNat (decide (0 ≤ p3.fLocal)) fun x256 =>
 .row 1018 tySCandidate p2 p3.fRemote.toNat (decide (0 ≤ p3.fRemote)) fun x257 =>
 .bind 0
 (.br 0 (!p0)
  (.done (x257.fPriority, x256.fPriority))
  (.done (x256.fPriority, x257.fPriority)))
 (fun (e258 : Int × Int) => Ext.lit .normal [(4, .int .i64 0), (5, .int .i64 e258.1), (6, .int .i64 e258.2)] [])
 (fun e258 =>
  .call 4003 (s11 e258.1 e258.2) [] [] fun r259 =>
  .done r259.1)
theorem k35_1 (p0 : Bool) (p1 : (List SCandidate)) (p2 : (List SCandidate)) (p3 : SPair) : FnD Tryd.prog GG [0, 1, 3, 4, 5, 6, 7, 34] Tryd.f35 [.snap [.bool p0, .sl false 8 (List.map tySCandidate.c p1), .sl false 8 (List.map tySCandidate.c p2), .nilsl], .agg [.int .i64 p3.fLocal, .int .i64 p3.fRemote, .int .i64 p3.fPriority, .int .i64 p3.fState]] (g35_1 p0 p1 p2 p3) (fun r => .int .i64 r) := by unfold FnD; kernel_rfl
noncomputable def s35_1 (p0 : Bool) (p1 : (List SCandidate)) (p2 : (List SCandidate)) (p3 : SPair) : EV.Spec Tryd.prog GG (Int) := .ofFn 35 mixed Tryd.func35 (k35_1 p0 p1 p2 p3)
noncomputable def g27 (p0 : SPair) (p1 : SPair) : TT (Int) :=
 .call 1005 (s28 p1.fPriority p0.fPriority) [] [] fun r265 =>
 .done r265
theorem k27 (p0 : SPair) (p1 : SPair) : FnD Tryd.prog GG [0, 1, 2, 3, 4] Tryd.f27 [.agg [.int .i64 p0.fLocal, .int .i64 p0.fRemote, .int .i64 p0.fPriority, .int .i64 p0.fState], .agg [.int .i64 p1.fLocal, .int .i64 p1.fRemote, .int .i64 p1.fPriority, .int .i64 p1.fState]] (g27 p0 p1) (fun r => .int .i64 r) := by unfold FnD; kernel_rfl
noncomputable def s27 (p0 : SPair) (p1 : SPair) : EV.Spec Tryd.prog GG (Int) := .ofFn 27 mixed Tryd.func27 (k27 p0 p1)
noncomputable def g60 (p0 : Nat) (p1 : Int) (p2 : Int) (p3 : (List SPair)) : TT ((List SPair)) :=
 .bind 1
 (.lp (fun (l301 : (List SPair) × Int) => Ext.of .normal [(0, .ref 1000000 0 p0), (1, .int .i64 p1), (2, .int .i64 p2), (3, .fn 27 [] []), (8, .int .i64 l301.2)] [] [BT.of 1000000 tySPair 4 l301.1 true] (by rfl))
  (fun l301 =>
   .br 0 (decide (l301.2 < p2))
   (.bind 2
    (.lp (fun (l311 : (List SPair) × Int) => Ext.of .normal [(0, .ref 1000000 0 p0), (1, .int .i64 p1), (2, .int .i64 p2), (3, .fn 27 [] []), (8, .int .i64 l301.2), (9, .int .i64 l311.2)] [] [BT.of 1000000 tySPair 4 l311.1 true] (by rfl))
     (fun l311 =>
      .cnd 4 [34]
      (.br 4005 (decide (p1 < l311.2))
       (.chk 4008 (decide (0 ≤ l311.2) && decide (l311.2 < (p0 : Int))) (.row 4009 tySPair l311.1 (0 + l311.2.toNat) true fun x312 =>
        .chk 4013 (decide (0 ≤ (wi64 (l311.2 - 1))) && decide ((wi64 (l311.2 - 1)) < (p0 : Int))) (.row 4014 tySPair l311.1 (0 + (wi64 (l311.2 - 1)).toNat) true fun x313 =>
        .call 4015 (s27 x312 x313) [] [] fun r314 =>
        .done (decide (r314 < 0)))))
       (.done false))
      (fun (c315 : Bool) => [.bool c315]) fun c315 =>
      .br 0 c315
      (.chk 6009 (decide (0 ≤ (wi64 (l311.2 - 1))) && decide ((wi64 (l311.2 - 1)) < (p0 : Int))) (.row 6010 tySPair l311.1 (0 + (wi64 (l311.2 - 1)).toNat) true fun x316 =>
       .chk 6013 (decide (0 ≤ l311.2) && decide (l311.2 < (p0 : Int))) (.row 6014 tySPair l311.1 (0 + l311.2.toNat) true fun x317 =>
       .chk 6015 (decide (0 ≤ l311.2) && decide (l311.2 < (p0 : Int))) (.row 6016 tySPair l311.1 (0 + l311.2.toNat) true fun x318 =>
       .re 6016 (ReW.put 1000000 4 tySPair l311.1 (0 + l311.2.toNat) x316) (.chk 6017 (decide (0 ≤ (wi64 (l311.2 - 1))) && decide ((wi64 (l311.2 - 1)) < (p0 : Int))) (.row 6018 tySPair (l311.1.set (0 + l311.2.toNat) x316) (0 + (wi64 (l311.2 - 1)).toNat) true fun x319 =>
       .re 6018 (ReW.put 1000000 4 tySPair (l311.1.set (0 + l311.2.toNat) x316) (0 + (wi64 (l311.2 - 1)).toNat) x317) (.done (.inl (((l311.1.set (0 + l311.2.toNat) x316).set (0 + (wi64 (l311.2 - 1)).toNat) x317), (wi64 (l311.2 - 1)))))))))))
      (.done (.inr l311.1)))
     (l301.1, l301.2))
    (fun (e320 : (List SPair)) => Ext.of (.exit 2) [(0, .ref 1000000 0 p0), (1, .int .i64 p1), (2, .int .i64 p2), (3, .fn 27 [] []), (8, .int .i64 l301.2)] [] [BT.of 1000000 tySPair 4 e320 true] (by rfl))
    (fun e320 =>
     .done (.inl (e320, (wi64 (l301.2 + 1))))))
   (.done (.inr l301.1)))
  (p3, (wi64 (p1 + 1))))
 (fun (e321 : (List SPair)) => Ext.of (.exit 0) [] [] [BT.of 1000000 tySPair 4 e321 true] (by rfl))
 (fun e321 =>
  .done e321)
theorem k60 (p0 : Nat) (p1 : Int) (p2 : Int) (p3 : (List SPair)) : FnB Tryd.prog GG [0, 1, 2, 3, 8, 9, 14, 34] Tryd.f60 [.ref 1000000 0 p0, .int .i64 p1, .int .i64 p2, .fn 27 [] []] (Ext.of .normal (argTs [.ref 1000000 0 p0, .int .i64 p1, .int .i64 p2, .fn 27 [] []]) [] [BT.of 1000000 tySPair 4 p3 true] (by rfl)) (g60 p0 p1 p2 p3) (fun (_ : (List SPair)) => .tup []) (fun (r : (List SPair)) => Ext.of .normal [] [] [BT.of 1000000 tySPair 4 r true] (by rfl)) := by unfold FnB; kernel_rfl
noncomputable def s60 (p0 : Nat) (p1 : Int) (p2 : Int) (p3 : (List SPair)) : EV.Spec Tryd.prog GG ((List SPair)) := .ofFnB 60 [1000000] mixed Tryd.func60 rfl (fun _ => rfl) (k60 p0 p1 p2 p3)
noncomputable def g78 (p0 : Nat) (p1 : Int) (p2 : Int) (p3 : Int) (p4 : (List SPair)) : TT ((List SPair)) :=
 .bind 1
 (.lp (fun (l385 : (List SPair) × Int) => Ext.of .normal [(0, .ref 1000000 0 p0), (1, .int .i64 p1), (2, .int .i64 p2), (3, .int .i64 p3), (10, .int .i64 l385.2)] [] [BT.of 1000000 tySPair 4 l385.1 true] (by rfl))
  (fun l385 =>
   .br 0 (decide (l385.2 < p3))
   (.chk 3013 (decide (0 ≤ (wi64 (p2 + l385.2))) && decide ((wi64 (p2 + l385.2)) < (p0 : Int))) (.row 3014 tySPair l385.1 (0 + (wi64 (p2 + l385.2)).toNat) true fun x386 =>
    .chk 3019 (decide (0 ≤ (wi64 (p1 + l385.2))) && decide ((wi64 (p1 + l385.2)) < (p0 : Int))) (.row 3020 tySPair l385.1 (0 + (wi64 (p1 + l385.2)).toNat) true fun x387 =>
    .chk 3021 (decide (0 ≤ (wi64 (p1 + l385.2))) && decide ((wi64 (p1 + l385.2)) < (p0 : Int))) (.row 3022 tySPair l385.1 (0 + (wi64 (p1 + l385.2)).toNat) true fun x388 =>
    .re 3022 (ReW.put 1000000 4 tySPair l385.1 (0 + (wi64 (p1 + l385.2)).toNat) x386) (.chk 3023 (decide (0 ≤ (wi64 (p2 + l385.2))) && decide ((wi64 (p2 + l385.2)) < (p0 : Int))) (.row 3024 tySPair (l385.1.set (0 + (wi64 (p1 + l385.2)).toNat) x386) (0 + (wi64 (p2 + l385.2)).toNat) true fun x389 =>
    .re 3024 (ReW.put 1000000 4 tySPair (l385.1.set (0 + (wi64 (p1 + l385.2)).toNat) x386) (0 + (wi64 (p2 + l385.2)).toNat) x387) (.done (.inl (((l385.1.set (0 + (wi64 (p1 + l385.2)).toNat) x386).set (0 + (wi64 (p2 + l385.2)).toNat) x387), (wi64 (l385.2 + 1)))))))))))
   (.done (.inr l385.1)))
  (p4, 0))
 (fun (e390 : (List SPair)) => Ext.of (.exit 0) [] [] [BT.of 1000000 tySPair 4 e390 true] (by rfl))
 (fun e390 =>
  .done e390)
theorem k78 (p0 : Nat) (p1 : Int) (p2 : Int) (p3 : Int) (p4 : (List SPair)) : FnB Tryd.prog GG [0, 1, 2, 3, 10, 13] Tryd.f78 [.ref 1000000 0 p0, .int .i64 p1, .int .i64 p2, .int .i64 p3, .fn 27 [] []] (Ext.of .normal (argTs [.ref 1000000 0 p0, .int .i64 p1, .int .i64 p2, .int .i64 p3, .fn 27 [] []]) [] [BT.of 1000000 tySPair 4 p4 true] (by rfl)) (g78 p0 p1 p2 p3 p4) (fun (_ : (List SPair)) => .tup []) (fun (r : (List SPair)) => Ext.of .normal [] [] [BT.of 1000000 tySPair 4 r true] (by rfl)) := by unfold FnB; kernel_rfl
noncomputable def s78 (p0 : Nat) (p1 : Int) (p2 : Int) (p3 : Int) (p4 : (List SPair)) : EV.Spec Tryd.prog GG ((List SPair)) := .ofFnB 78 [1000000] mixed Tryd.func78 rfl (fun _ => rfl) (k78 p0 p1 p2 p3 p4)
noncomputable def g67 (p0 : Nat) (p1 : Int) (p2 : Int) (p3 : Int) (p4 : (List SPair)) : TT ((List SPair)) :=
 .bind 1
 (.lp (fun (l386 : (List SPair) × Int × Int) => Ext.of .normal [(0, .ref 1000000 0 p0), (2, .int .i64 p2), (4, .fn 27 [] []), (10, .int .i64 l386.2.1), (11, .int .i64 l386.2.2)] [] [BT.of 1000000 tySPair 4 l386.1 true] (by rfl))
  (fun l386 =>
   .br 0 (l386.2.1 != l386.2.2)
   (.br 0 (decide (l386.2.2 < l386.2.1))
    (.call 4008 (s78 p0 (wi64 (p2 - l386.2.1)) p2 l386.2.2 l386.1) [(1000000, 1000000)] [] fun r391 =>
     .done (.inl (r391, (wi64 (l386.2.1 - l386.2.2)), l386.2.2)))
    (.call 6012 (s78 p0 (wi64 (p2 - l386.2.1)) (wi64 ((wi64 (p2 + l386.2.2)) - l386.2.1)) l386.2.1 l386.1) [(1000000, 1000000)] [] fun r396 =>
     .done (.inl (r396, l386.2.1, (wi64 (l386.2.2 - l386.2.1))))))
   (.done (.inr (l386.1, l386.2.1))))
  (p4, (wi64 (p2 - p1)), (wi64 (p3 - p2))))
 (fun (e397 : (List SPair) × Int) => Ext.of (.exit 0) [(0, .ref 1000000 0 p0), (2, .int .i64 p2), (4, .fn 27 [] []), (10, .int .i64 e397.2)] [] [BT.of 1000000 tySPair 4 e397.1 true] (by rfl))
 (fun e397 =>
  .call 8008 (s78 p0 (wi64 (p2 - e397.2)) p2 e397.2 e397.1) [(1000000, 1000000)] [] fun r402 =>
  .done r402)
theorem k67 (p0 : Nat) (p1 : Int) (p2 : Int) (p3 : Int) (p4 : (List SPair)) : FnB Tryd.prog GG [0, 1, 2, 3, 4, 10, 11, 20, 23] Tryd.f67 [.ref 1000000 0 p0, .int .i64 p1, .int .i64 p2, .int .i64 p3, .fn 27 [] []] (Ext.of .normal (argTs [.ref 1000000 0 p0, .int .i64 p1, .int .i64 p2, .int .i64 p3, .fn 27 [] []]) [] [BT.of 1000000 tySPair 4 p4 true] (by rfl)) (g67 p0 p1 p2 p3 p4) (fun (_ : (List SPair)) => .tup []) (fun (r : (List SPair)) => Ext.of .normal [] [] [BT.of 1000000 tySPair 4 r true] (by rfl)) := by unfold FnB; kernel_rfl
noncomputable def s67 (p0 : Nat) (p1 : Int) (p2 : Int) (p3 : Int) (p4 : (List SPair)) : EV.Spec Tryd.prog GG ((List SPair)) := .ofFnB 67 [1000000] mixed Tryd.func67 rfl (fun _ => rfl) (k67 p0 p1 p2 p3 p4)
noncomputable def symSh : Shape Tryd.prog GG (Nat × Int × Int × Int × (List SPair)) ((List SPair)) := {
 f := 61
 args := fun a => [.ref 1000000 0 a.1, .int .i64 a.2.1, .int .i64 a.2.2.1, .int .i64 a.2.2.2.1, .fn 27 [] []]
 X := fun a => Ext.of .normal (argTs [.ref 1000000 0 a.1, .int .i64 a.2.1, .int .i64 a.2.2.1, .int .i64 a.2.2.2.1, .fn 27 [] []]) [] [BT.of 1000000 tySPair 4 a.2.2.2.2 true] (by rfl)
 res := fun _ r => .tup []
 O := fun _ r => Ext.of .normal [] [] [BT.of 1000000 tySPair 4 r true] (by rfl)
 dt := [1000000]
 hdt := fun _ _ => rfl }
abbrev SymR : Type := symSh.R
noncomputable def g61 (R : SymR) (p0 : Nat) (p1 : Int) (p2 : Int) (p3 : Int) (p4 : (List SPair)) : TT ((List SPair)) :=
 .br 0 ((wi64 (p2 - p1)) == 1)
 (.bind 1
  (.lp (fun (l323 : Int × Int) => Ext.of .normal [(0, .ref 1000000 0 p0), (1, .int .i64 p1), (2, .int .i64 p2), (3, .int .i64 p3), (4, .fn 27 [] []), (10, .int .i64 l323.1), (11, .int .i64 l323.2)] [] [BT.of 1000000 tySPair 4 p4 true] (by rfl))
   (fun l323 =>
    .br 0 (decide (l323.1 < l323.2))
    (.chk 5004 (decide (0 ≤ (wi64 (bShr .u64 (wu64 (wi64 (l323.1 + l323.2))) 1))) && decide ((wi64 (bShr .u64 (wu64 (wi64 (l323.1 + l323.2))) 1)) < (p0 : Int))) (.row 5005 tySPair p4 (0 + (wi64 (bShr .u64 (wu64 (wi64 (l323.1 + l323.2))) 1)).toNat) true fun x324 =>
     .chk 5008 (decide (0 ≤ p1) && decide (p1 < (p0 : Int))) (.row 5009 tySPair p4 (0 + p1.toNat) true fun x325 =>
     .call 5010 (s27 x324 x325) [] [] fun r326 =>
     .br 0 (decide (r326 < 0))
     (.done (.inl ((wi64 ((wi64 (bShr .u64 (wu64 (wi64 (l323.1 + l323.2))) 1)) + 1)), l323.2)))
     (.done (.inl (l323.1, (wi64 (bShr .u64 (wu64 (wi64 (l323.1 + l323.2))) 1))))))))
    (.done (.inr l323.1)))
   (p2, p3))
  (fun (e327 : Int) => Ext.of (.exit 0) [(0, .ref 1000000 0 p0), (1, .int .i64 p1), (2, .int .i64 p2), (3, .int .i64 p3), (4, .fn 27 [] []), (10, .int .i64 e327)] [] [BT.of 1000000 tySPair 4 p4 true] (by rfl))
  (fun e327 =>
   .bind 1
   (.lp (fun (l333 : (List SPair) × Int) => Ext.of .normal [(0, .ref 1000000 0 p0), (1, .int .i64 p1), (2, .int .i64 p2), (3, .int .i64 p3), (4, .fn 27 [] []), (10, .int .i64 e327), (13, .int .i64 l333.2)] [] [BT.of 1000000 tySPair 4 l333.1 true] (by rfl))
    (fun l333 =>
     .br 0 (decide (l333.2 < (wi64 (e327 - 1))))
     (.chk 11009 (decide (0 ≤ (wi64 (l333.2 + 1))) && decide ((wi64 (l333.2 + 1)) < (p0 : Int))) (.row 11010 tySPair l333.1 (0 + (wi64 (l333.2 + 1)).toNat) true fun x334 =>
      .chk 11013 (decide (0 ≤ l333.2) && decide (l333.2 < (p0 : Int))) (.row 11014 tySPair l333.1 (0 + l333.2.toNat) true fun x335 =>
      .chk 11015 (decide (0 ≤ l333.2) && decide (l333.2 < (p0 : Int))) (.row 11016 tySPair l333.1 (0 + l333.2.toNat) true fun x336 =>
      .re 11016 (ReW.put 1000000 4 tySPair l333.1 (0 + l333.2.toNat) x334) (.chk 11017 (decide (0 ≤ (wi64 (l333.2 + 1))) && decide ((wi64 (l333.2 + 1)) < (p0 : Int))) (.row 11018 tySPair (l333.1.set (0 + l333.2.toNat) x334) (0 + (wi64 (l333.2 + 1)).toNat) true fun x337 =>
      .re 11018 (ReW.put 1000000 4 tySPair (l333.1.set (0 + l333.2.toNat) x334) (0 + (wi64 (l333.2 + 1)).toNat) x335) (.done (.inl (((l333.1.set (0 + l333.2.toNat) x334).set (0 + (wi64 (l333.2 + 1)).toNat) x335), (wi64 (l333.2 + 1)))))))))))
     (.done (.inr l333.1)))
    (p4, p1))
   (fun (e338 : (List SPair)) => Ext.of (.exit 2) [(0, .ref 1000000 0 p0), (1, .int .i64 p1), (2, .int .i64 p2), (3, .int .i64 p3), (4, .fn 27 [] [])] [] [BT.of 1000000 tySPair 4 e338 true] (by rfl))
   (fun e338 =>
    .done e338)))
 (.br 0 ((wi64 (p3 - p2)) == 1)
  (.bind 1
   (.lp (fun (l343 : Int × Int) => Ext.of .normal [(0, .ref 1000000 0 p0), (1, .int .i64 p1), (2, .int .i64 p2), (3, .int .i64 p3), (4, .fn 27 [] []), (14, .int .i64 l343.1), (15, .int .i64 l343.2)] [] [BT.of 1000000 tySPair 4 p4 true] (by rfl))
    (fun l343 =>
     .br 0 (decide (l343.1 < l343.2))
     (.chk 17004 (decide (0 ≤ p2) && decide (p2 < (p0 : Int))) (.row 17005 tySPair p4 (0 + p2.toNat) true fun x344 =>
      .chk 17008 (decide (0 ≤ (wi64 (bShr .u64 (wu64 (wi64 (l343.1 + l343.2))) 1))) && decide ((wi64 (bShr .u64 (wu64 (wi64 (l343.1 + l343.2))) 1)) < (p0 : Int))) (.row 17009 tySPair p4 (0 + (wi64 (bShr .u64 (wu64 (wi64 (l343.1 + l343.2))) 1)).toNat) true fun x345 =>
      .call 17010 (s27 x344 x345) [] [] fun r346 =>
      .br 0 (!(decide (r346 < 0)))
      (.done (.inl ((wi64 ((wi64 (bShr .u64 (wu64 (wi64 (l343.1 + l343.2))) 1)) + 1)), l343.2)))
      (.done (.inl (l343.1, (wi64 (bShr .u64 (wu64 (wi64 (l343.1 + l343.2))) 1))))))))
     (.done (.inr l343.1)))
    (p1, p2))
   (fun (e347 : Int) => Ext.of (.exit 4) [(0, .ref 1000000 0 p0), (1, .int .i64 p1), (2, .int .i64 p2), (3, .int .i64 p3), (4, .fn 27 [] []), (14, .int .i64 e347)] [] [BT.of 1000000 tySPair 4 p4 true] (by rfl))
   (fun e347 =>
    .bind 1
    (.lp (fun (l353 : (List SPair) × Int) => Ext.of .normal [(0, .ref 1000000 0 p0), (1, .int .i64 p1), (2, .int .i64 p2), (3, .int .i64 p3), (4, .fn 27 [] []), (14, .int .i64 e347), (17, .int .i64 l353.2)] [] [BT.of 1000000 tySPair 4 l353.1 true] (by rfl))
     (fun l353 =>
      .br 0 (decide (e347 < l353.2))
      (.chk 23009 (decide (0 ≤ (wi64 (l353.2 - 1))) && decide ((wi64 (l353.2 - 1)) < (p0 : Int))) (.row 23010 tySPair l353.1 (0 + (wi64 (l353.2 - 1)).toNat) true fun x354 =>
       .chk 23013 (decide (0 ≤ l353.2) && decide (l353.2 < (p0 : Int))) (.row 23014 tySPair l353.1 (0 + l353.2.toNat) true fun x355 =>
       .chk 23015 (decide (0 ≤ l353.2) && decide (l353.2 < (p0 : Int))) (.row 23016 tySPair l353.1 (0 + l353.2.toNat) true fun x356 =>
       .re 23016 (ReW.put 1000000 4 tySPair l353.1 (0 + l353.2.toNat) x354) (.chk 23017 (decide (0 ≤ (wi64 (l353.2 - 1))) && decide ((wi64 (l353.2 - 1)) < (p0 : Int))) (.row 23018 tySPair (l353.1.set (0 + l353.2.toNat) x354) (0 + (wi64 (l353.2 - 1)).toNat) true fun x357 =>
       .re 23018 (ReW.put 1000000 4 tySPair (l353.1.set (0 + l353.2.toNat) x354) (0 + (wi64 (l353.2 - 1)).toNat) x355) (.done (.inl (((l353.1.set (0 + l353.2.toNat) x354).set (0 + (wi64 (l353.2 - 1)).toNat) x355), (wi64 (l353.2 - 1)))))))))))
      (.done (.inr l353.1)))
     (p4, p2))
    (fun (e358 : (List SPair)) => Ext.of (.exit 6) [(0, .ref 1000000 0 p0), (1, .int .i64 p1), (2, .int .i64 p2), (3, .int .i64 p3), (4, .fn 27 [] [])] [] [BT.of 1000000 tySPair 4 e358 true] (by rfl))
    (fun e358 =>
     .done e358)))
  (.bind 0
   (.br 0 (decide ((wi64 (bShr .u64 (wu64 (wi64 (p1 + p3))) 1)) < p2))
    (.done ((wi64 ((wi64 ((wi64 (bShr .u64 (wu64 (wi64 (p1 + p3))) 1)) + p2)) - p3)), (wi64 (bShr .u64 (wu64 (wi64 (p1 + p3))) 1))))
    (.done (p1, p2)))
   (fun (e359 : Int × Int) => Ext.of .normal [(0, .ref 1000000 0 p0), (1, .int .i64 p1), (2, .int .i64 p2), (3, .int .i64 p3), (4, .fn 27 [] []), (18, .int .i64 (wi64 (bShr .u64 (wu64 (wi64 (p1 + p3))) 1))), (19, .int .i64 (wi64 ((wi64 (bShr .u64 (wu64 (wi64 (p1 + p3))) 1)) + p2))), (20, .int .i64 e359.1), (21, .int .i64 e359.2)] [] [BT.of 1000000 tySPair 4 p4 true] (by rfl))
   (fun e359 =>
    .bind 1
    (.lp (fun (l364 : Int × Int) => Ext.of .normal [(0, .ref 1000000 0 p0), (1, .int .i64 p1), (2, .int .i64 p2), (3, .int .i64 p3), (4, .fn 27 [] []), (18, .int .i64 (wi64 (bShr .u64 (wu64 (wi64 (p1 + p3))) 1))), (19, .int .i64 (wi64 ((wi64 (bShr .u64 (wu64 (wi64 (p1 + p3))) 1)) + p2))), (20, .int .i64 l364.1), (21, .int .i64 l364.2), (22, .int .i64 (wi64 ((wi64 ((wi64 (bShr .u64 (wu64 (wi64 (p1 + p3))) 1)) + p2)) - 1)))] [] [BT.of 1000000 tySPair 4 p4 true] (by rfl))
     (fun l364 =>
      .br 0 (decide (l364.1 < l364.2))
      (.chk 35006 (decide (0 ≤ (wi64 ((wi64 ((wi64 ((wi64 (bShr .u64 (wu64 (wi64 (p1 + p3))) 1)) + p2)) - 1)) - (wi64 (bShr .u64 (wu64 (wi64 (l364.1 + l364.2))) 1))))) && decide ((wi64 ((wi64 ((wi64 ((wi64 (bShr .u64 (wu64 (wi64 (p1 + p3))) 1)) + p2)) - 1)) - (wi64 (bShr .u64 (wu64 (wi64 (l364.1 + l364.2))) 1)))) < (p0 : Int))) (.row 35007 tySPair p4 (0 + (wi64 ((wi64 ((wi64 ((wi64 (bShr .u64 (wu64 (wi64 (p1 + p3))) 1)) + p2)) - 1)) - (wi64 (bShr .u64 (wu64 (wi64 (l364.1 + l364.2))) 1)))).toNat) true fun x365 =>
       .chk 35010 (decide (0 ≤ (wi64 (bShr .u64 (wu64 (wi64 (l364.1 + l364.2))) 1))) && decide ((wi64 (bShr .u64 (wu64 (wi64 (l364.1 + l364.2))) 1)) < (p0 : Int))) (.row 35011 tySPair p4 (0 + (wi64 (bShr .u64 (wu64 (wi64 (l364.1 + l364.2))) 1)).toNat) true fun x366 =>
       .call 35012 (s27 x365 x366) [] [] fun r367 =>
       .br 0 (!(decide (r367 < 0)))
       (.done (.inl ((wi64 ((wi64 (bShr .u64 (wu64 (wi64 (l364.1 + l364.2))) 1)) + 1)), l364.2)))
       (.done (.inl (l364.1, (wi64 (bShr .u64 (wu64 (wi64 (l364.1 + l364.2))) 1))))))))
      (.done (.inr l364.1)))
     (e359.1, e359.2))
    (fun (e368 : Int) => Ext.of (.exit 8) [(0, .ref 1000000 0 p0), (1, .int .i64 p1), (2, .int .i64 p2), (3, .int .i64 p3), (4, .fn 27 [] []), (18, .int .i64 (wi64 (bShr .u64 (wu64 (wi64 (p1 + p3))) 1))), (19, .int .i64 (wi64 ((wi64 (bShr .u64 (wu64 (wi64 (p1 + p3))) 1)) + p2))), (20, .int .i64 e368)] [] [BT.of 1000000 tySPair 4 p4 true] (by rfl))
    (fun e368 =>
     .cnd 39 [185]
     (.br 39005 (decide (e368 < p2))
      (.done (decide (p2 < (wi64 ((wi64 ((wi64 (bShr .u64 (wu64 (wi64 (p1 + p3))) 1)) + p2)) - e368)))))
      (.done false))
     (fun (c369 : Bool) => [.bool c369]) fun c369 =>
     .bind 0
     (.br 0 c369
      (.call 40006 (s67 p0 e368 p2 (wi64 ((wi64 ((wi64 (bShr .u64 (wu64 (wi64 (p1 + p3))) 1)) + p2)) - e368)) p4) [(1000000, 1000000)] [] fun r403 =>
       .done r403)
      (.done p4))
     (fun (e404 : (List SPair)) => Ext.of .normal [(0, .ref 1000000 0 p0), (1, .int .i64 p1), (3, .int .i64 p3), (4, .fn 27 [] []), (18, .int .i64 (wi64 (bShr .u64 (wu64 (wi64 (p1 + p3))) 1))), (20, .int .i64 e368), (24, .int .i64 (wi64 ((wi64 ((wi64 (bShr .u64 (wu64 (wi64 (p1 + p3))) 1)) + p2)) - e368)))] [] [BT.of 1000000 tySPair 4 e404 true] (by rfl))
     (fun e404 =>
      .cnd 41 [199]
      (.br 41005 (decide (p1 < e368))
       (.done (decide (e368 < (wi64 (bShr .u64 (wu64 (wi64 (p1 + p3))) 1)))))
       (.done false))
      (fun (c405 : Bool) => [.bool c405]) fun c405 =>
      .bind 0
      (.br 0 c405
       (.call 42006 (symSh.spec R (p0, p1, e368, (wi64 (bShr .u64 (wu64 (wi64 (p1 + p3))) 1)), e404)) [(1000000, 1000000)] [] fun r419 =>
        .done r419)
       (.done e404))
      (fun (e420 : (List SPair)) => Ext.of .normal [(0, .ref 1000000 0 p0), (3, .int .i64 p3), (4, .fn 27 [] []), (18, .int .i64 (wi64 (bShr .u64 (wu64 (wi64 (p1 + p3))) 1))), (24, .int .i64 (wi64 ((wi64 ((wi64 (bShr .u64 (wu64 (wi64 (p1 + p3))) 1)) + p2)) - e368)))] [] [BT.of 1000000 tySPair 4 e420 true] (by rfl))
      (fun e420 =>
       .cnd 43 [213]
       (.br 43005 (decide ((wi64 (bShr .u64 (wu64 (wi64 (p1 + p3))) 1)) < (wi64 ((wi64 ((wi64 (bShr .u64 (wu64 (wi64 (p1 + p3))) 1)) + p2)) - e368))))
        (.done (decide ((wi64 ((wi64 ((wi64 (bShr .u64 (wu64 (wi64 (p1 + p3))) 1)) + p2)) - e368)) < p3)))
        (.done false))
       (fun (c421 : Bool) => [.bool c421]) fun c421 =>
       .br 0 c421
       (.call 44006 (symSh.spec R (p0, (wi64 (bShr .u64 (wu64 (wi64 (p1 + p3))) 1)), (wi64 ((wi64 ((wi64 (bShr .u64 (wu64 (wi64 (p1 + p3))) 1)) + p2)) - e368)), p3, e420)) [(1000000, 1000000)] [] fun r435 =>
        .done r435)
       (.done e420)))))))
theorem k61 (R : SymR) (p0 : Nat) (p1 : Int) (p2 : Int) (p3 : Int) (p4 : (List SPair)) : FnB Tryd.prog GG [0, 1, 2, 3, 4, 10, 11, 12, 13, 14, 15, 16, 17, 18, 19, 20, 21, 22, 23, 24, 28, 33, 50, 58, 80, 85, 103, 110, 140, 151, 171, 185, 199, 213] Tryd.f61 [.ref 1000000 0 p0, .int .i64 p1, .int .i64 p2, .int .i64 p3, .fn 27 [] []] (Ext.of .normal (argTs [.ref 1000000 0 p0, .int .i64 p1, .int .i64 p2, .int .i64 p3, .fn 27 [] []]) [] [BT.of 1000000 tySPair 4 p4 true] (by rfl)) (g61 R p0 p1 p2 p3 p4) (fun (_ : (List SPair)) => .tup []) (fun (r : (List SPair)) => Ext.of .normal [] [] [BT.of 1000000 tySPair 4 r true] (by rfl)) := by unfold FnB; kernel_rfl
noncomputable def s61 (R : SymR) (p0 : Nat) (p1 : Int) (p2 : Int) (p3 : Int) (p4 : (List SPair)) : EV.Spec Tryd.prog GG ((List SPair)) := .ofFnB 61 [1000000] mixed Tryd.func61 rfl (fun _ => rfl) (k61 R p0 p1 p2 p3 p4)
noncomputable def symAll : SymR := symSh.fix (fun R a => (s61 R a.1 a.2.1 a.2.2.1 a.2.2.2.1 a.2.2.2.2)) (fun R a r h => (s61 R a.1 a.2.1 a.2.2.1 a.2.2.2.1 a.2.2.2.2).ok r h) 60
noncomputable def g51 (p0 : Nat) (p1 : Int) (p2 : (List SPair)) : TT ((List SPair)) :=
 .bind 1
 (.lp (fun (l282 : (List SPair) × Int × Int) => Ext.of .normal [(0, .ref 1000000 0 p0), (1, .int .i64 p1), (2, .fn 27 [] []), (6, .int .i64 20), (7, .int .i64 l282.2.1), (8, .int .i64 l282.2.2)] [] [BT.of 1000000 tySPair 4 l282.1 true] (by rfl))
  (fun l282 =>
   .br 0 (decide (l282.2.2 ≤ p1))
   (.call 3005 (s60 p0 l282.2.1 l282.2.2 l282.1) [(1000000, 1000000)] [] fun r292 =>
    .done (.inl (r292, l282.2.2, (wi64 (l282.2.2 + 20)))))
   (.done (.inr (l282.1, l282.2.1))))
  (p2, 0, 20))
 (fun (e293 : (List SPair) × Int) => Ext.of (.exit 0) [(0, .ref 1000000 0 p0), (1, .int .i64 p1), (2, .fn 27 [] []), (6, .int .i64 20), (7, .int .i64 e293.2)] [] [BT.of 1000000 tySPair 4 e293.1 true] (by rfl))
 (fun e293 =>
  .call 6005 (s60 p0 e293.2 p1 e293.1) [(1000000, 1000000)] [] fun r303 =>
  .bind 1
  (.lp (fun (l350 : (List SPair) × Int) => Ext.of .normal [(0, .ref 1000000 0 p0), (1, .int .i64 p1), (2, .fn 27 [] []), (6, .int .i64 l350.2)] [] [BT.of 1000000 tySPair 4 l350.1 true] (by rfl))
   (fun l350 =>
    .br 0 (decide (l350.2 < p1))
    (.bind 2
     (.lp (fun (l366 : (List SPair) × Int × Int) => Ext.of .normal [(0, .ref 1000000 0 p0), (1, .int .i64 p1), (2, .fn 27 [] []), (6, .int .i64 l350.2), (7, .int .i64 l366.2.1), (8, .int .i64 l366.2.2)] [] [BT.of 1000000 tySPair 4 l366.1 true] (by rfl))
      (fun l366 =>
       .br 0 (decide (l366.2.2 ≤ p1))
       (.call 10008 (s61 symAll p0 l366.2.1 (wi64 (l366.2.1 + l350.2)) l366.2.2 l366.1) [(1000000, 1000000)] [] fun r380 =>
        .done (.inl (r380, l366.2.2, (wi64 (l366.2.2 + (wi64 ((2 : Int) * l350.2)))))))
       (.done (.inr (l366.1, l366.2.1))))
      (l350.1, 0, (wi64 ((2 : Int) * l350.2))))
     (fun (e381 : (List SPair) × Int) => Ext.of (.exit 4) [(0, .ref 1000000 0 p0), (1, .int .i64 p1), (2, .fn 27 [] []), (6, .int .i64 l350.2), (7, .int .i64 e381.2)] [] [BT.of 1000000 tySPair 4 e381.1 true] (by rfl))
     (fun e381 =>
      .br 0 (decide ((wi64 (e381.2 + l350.2)) < p1))
      (.call 15006 (s61 symAll p0 e381.2 (wi64 (e381.2 + l350.2)) p1 e381.1) [(1000000, 1000000)] [] fun r395 =>
       .done (.inl (r395, (wi64 (l350.2 * 2)))))
      (.done (.inl (e381.1, (wi64 (l350.2 * 2)))))))
    (.done (.inr l350.1)))
   (r303, 20))
  (fun (e396 : (List SPair)) => Ext.of (.exit 2) [] [] [BT.of 1000000 tySPair 4 e396 true] (by rfl))
  (fun e396 =>
   .done e396))
theorem k51 (p0 : Nat) (p1 : Int) (p2 : (List SPair)) : FnB Tryd.prog GG [0, 1, 2, 6, 7, 8, 9, 13, 30, 35, 54] Tryd.f51 [.ref 1000000 0 p0, .int .i64 p1, .fn 27 [] []] (Ext.of .normal (argTs [.ref 1000000 0 p0, .int .i64 p1, .fn 27 [] []]) [] [BT.of 1000000 tySPair 4 p2 true] (by rfl)) (g51 p0 p1 p2) (fun (_ : (List SPair)) => .tup []) (fun (r : (List SPair)) => Ext.of .normal [] [] [BT.of 1000000 tySPair 4 r true] (by rfl)) := by unfold FnB; kernel_rfl
noncomputable def s51 (p0 : Nat) (p1 : Int) (p2 : (List SPair)) : EV.Spec Tryd.prog GG ((List SPair)) := .ofFnB 51 [1000000] mixed Tryd.func51 rfl (fun _ => rfl) (k51 p0 p1 p2)
noncomputable def g26 (p0 : Nat) (p1 : (List SPair)) : TT ((List SPair)) :=
 .call 5 (s51 p0 (p0 : Int) p1) [(1000000, 1000000)] [] fun r397 =>
 .done r397
theorem k26 (p0 : Nat) (p1 : (List SPair)) : FnB Tryd.prog GG [0, 1] Tryd.f26 [.ref 1000000 0 p0, .fn 27 [] []] (Ext.of .normal (argTs [.ref 1000000 0 p0, .fn 27 [] []]) [] [BT.of 1000000 tySPair 4 p1 true] (by rfl)) (g26 p0 p1) (fun (_ : (List SPair)) => .tup []) (fun (r : (List SPair)) => Ext.of .normal [] [] [BT.of 1000000 tySPair 4 r true] (by rfl)) := by unfold FnB; kernel_rfl
noncomputable def s26 (p0 : Nat) (p1 : (List SPair)) : EV.Spec Tryd.prog GG ((List SPair)) := .ofFnB 26 [1000000] mixed Tryd.func26 rfl (fun _ => rfl) (k26 p0 p1)
end Go.Proofs.YtioobnkmohikjaaDoor
namespace Go.Proofs.YtioobnkmohikjaaDoor
open Go Go.EV
set_option maxRecDepth 100000
theorem okNAN (x : Int) : SOk (s52 x) (fun r => r = false) := by
 show Ok (g52 x) _
 unfold g52
 exact Ok.done (by simp)
theorem okCMPP (x y : SPair) : SOk (s27 x y) (fun r => (r < 0 ↔ y.fPriority < x.fPriority)) := by
 show Ok (g27 x y) _
 unfold g27
 refine Ok.call (R := fun r => (r < 0 ↔ y.fPriority < x.fPriority)) ?_ fun r hr => Ok.done hr
 show Ok (g28 y.fPriority x.fPriority) _
 unfold g28
 refine Ok.call (okNAN _) fun a ha => Ok.call (okNAN _) fun b hb => ?_
 subst ha hb
 refine Ok.brF rfl (Ok.brF rfl (Ok.br (fun h => Ok.done ?_) (fun h => Ok.br (fun h2 => Ok.done ?_) (fun h2 => Ok.done ?_))))
 ·simp only [decide_eq_true_eq] at h; omega
 ·simp only [decide_eq_true_eq, decide_eq_false_iff_not] at h h2; omega
 ·simp only [decide_eq_false_iff_not] at h h2; omega
theorem get_mid {α : Type} {L P Q : List α} {x : α} {i : Nat} (e : L = P ++ x :: Q) (h : P.length = i) : L[i]? = some x := by
 subst e h; simp
theorem set_mid {α : Type} {L P Q : List α} {x y : α} {i : Nat} (e : L = P ++ x :: Q) (h : P.length = i) : L.set i y = P ++ y :: Q := by
 subst e h; simp [List.set_append_right]
theorem cons_of {α : Type} {l : List α} (h : 0 < l.length) : ∃ x t, l = x :: t := by
 cases l with
 | nil => simp at h
 | cons x t => exact ⟨x, t, rfl⟩
theorem inP {i p : Nat} (h : i < p) : (decide (0 ≤ (i : Int)) && decide ((i : Int) < (p : Int))) = true := by simp; omega
theorem okSWAPR (A U M V B : List SPair) (p : Nat) (a b n : Int) (hp : p = (A ++ U ++ M ++ V ++ B).length) (hp2 : p ≤ 1000000) (hU : n = U.length) (hV : V.length = U.length) (ha : a = A.length) (hb : b = (A ++ U ++ M).length) :
  SOk (s78 p a b n (A ++ U ++ M ++ V ++ B)) (fun r => r = A ++ V ++ M ++ U ++ B) := by
 show Ok (g78 p a b n _) _
 unfold g78
 subst hU ha hb
 have hlen : A.length + (U.length + (M.length + (V.length + B.length))) = p := by rw [hp]; simp
 refine Ok.bind (R := fun r => r = A ++ V ++ M ++ U ++ B) ?_ fun e he => Ok.done he
 refine Ok.scan U.length (by omega) (fun k y => y.2 = (k : Int) ∧ ∃ U1 U2 V1 V2, U = U1 ++ U2 ∧ V = V1 ++ V2 ∧ U1.length = k ∧ V1.length = k ∧ y.1 = A ++ V1 ++ U2 ++ M ++ U1 ++ V2 ++ B) ⟨rfl, [], U, [], V, rfl, rfl, rfl, rfl, by simp⟩ (fun k y hy hk => ?_) (fun y hy => ?_)
 ·obtain ⟨hi, U1, U2, V1, V2, e1, e2, e3, e4, e5⟩ := hy
  obtain ⟨y1, y2⟩ := y
  simp only at hi e5
  subst hi
  have h2 : U1.length + U2.length = U.length := by rw [e1]; simp
  have h3 : V1.length + V2.length = V.length := by rw [e2]; simp
  obtain ⟨u, U3, rfl⟩ := cons_of (l := U2) (by omega)
  obtain ⟨v, V3, rfl⟩ := cons_of (l := V2) (by omega)
  simp only [List.length_cons] at h2 h3
  have ia : wi64 ((A.length : Int) + (k : Int)) = ((A.length + k : Nat) : Int) := by rw [wi64_id (by omega) (by omega)]; omega
  have ib : wi64 (((A ++ U ++ M).length : Int) + (k : Int)) = ((A.length + U.length + M.length + k : Nat) : Int) := by
   rw [wi64_id (by simp; omega) (by simp; omega)]; simp; omega
  have w1 : y1 = (A ++ V1) ++ u :: (U3 ++ M ++ U1 ++ v :: V3 ++ B) := by rw [e5]; simp
  have w2 : y1 = (A ++ V1 ++ u :: U3 ++ M ++ U1) ++ v :: (V3 ++ B) := by rw [e5]; simp
  have w3 : y1.set (A.length + k) v = (A ++ V1 ++ v :: U3 ++ M ++ U1) ++ v :: (V3 ++ B) := by rw [set_mid w1 (by simp; omega)]; simp
  refine Ok.br (fun hc => ?_) (fun hc => by simp at hc; omega)
  simp only [ia, ib, Int.toNat_natCast, Nat.zero_add]
  refine Ok.chk (inP (by omega)) (Ok.row rfl (get_mid w2 (by simp; omega)) (Ok.chk (inP (by omega)) (Ok.row rfl (get_mid w1 (by simp; omega)) (Ok.chk (inP (by omega)) (Ok.row rfl (get_mid w1 (by simp; omega)) (Ok.re (Ok.chk (inP (by omega)) (Ok.row rfl (get_mid w3 (by simp; omega)) (Ok.re (Ok.done ⟨wi64_nat hk (by omega), ?_⟩)))))))))) 
  refine ⟨U1 ++ [u], U3, V1 ++ [v], V3, by rw [e1]; simp, by rw [e2]; simp, by simp; omega, by simp; omega, ?_⟩
  rw [set_mid w3 (by simp; omega)]
  simp
 ·obtain ⟨hi, U1, U2, V1, V2, e1, e2, e3, e4, e5⟩ := hy
  obtain ⟨y1, y2⟩ := y
  simp only at hi e5
  subst hi
  have h2 : U1.length + U2.length = U.length := by rw [← List.length_append, ← e1]
  have h3 : V1.length + V2.length = V.length := by rw [← List.length_append, ← e2]
  have z1 : U2 = [] := List.length_eq_zero_iff.1 (by omega)
  have z2 : V2 = [] := List.length_eq_zero_iff.1 (by omega)
  subst z1 z2
  refine Ok.br (fun hc => by simp at hc) (fun hc => Ok.done ?_)
  show y1 = _
  rw [e5, e1, e2]; simp
theorem okROT (A X Y B : List SPair) (p : Nat) (a m b : Int) (hp : p = (A ++ X ++ Y ++ B).length) (hp2 : p ≤ 1000000) (ha : a = A.length) (hm : m = (A ++ X).length) (hb : b = (A ++ X ++ Y).length) (hX : 0 < X.length) (hY : 0 < Y.length) :
  SOk (s67 p a m b (A ++ X ++ Y ++ B)) (fun r => r = A ++ Y ++ X ++ B) := by
 show Ok (g67 p a m b _) _
 unfold g67
 subst ha hm hb
 have hlen : A.length + (X.length + (Y.length + B.length)) = p := by rw [hp]; simp
 have i0 : wi64 (((A ++ X).length : Int) - (A.length : Int)) = (X.length : Int) := by rw [wi64_id (by simp; omega) (by simp; omega)]; simp; omega
 have j0 : wi64 (((A ++ X ++ Y).length : Int) - ((A ++ X).length : Int)) = (Y.length : Int) := by rw [wi64_id (by simp; omega) (by simp; omega)]; simp; omega
 rw [i0, j0]
 have hmA : (A ++ X).length = A.length + X.length := by simp
 clear i0 j0
 generalize hmm : (A ++ X).length = mm at *
 refine Ok.bind (R := fun e => ∃ A' U V B', A'.length + U.length = mm ∧ U.length = V.length ∧ e.2 = (U.length : Int) ∧ e.1 = A' ++ U ++ V ++ B' ∧ A' ++ V ++ U ++ B' = A ++ Y ++ X ++ B) ?_ fun e he => ?_
 ·refine Ok.lp (fun y => ∃ A' U V B', A'.length + U.length = mm ∧ 0 < U.length ∧ 0 < V.length ∧ y.2.1 = (U.length : Int) ∧ y.2.2 = (V.length : Int) ∧ y.1 = A' ++ U ++ V ++ B' ∧ A' ++ V ++ U ++ B' = A ++ Y ++ X ++ B) (fun y => y.2.1.toNat + y.2.2.toNat) ⟨A, X, Y, B, hmA.symm, hX, hY, rfl, rfl, rfl, rfl⟩ (fuel (by simp; omega)) (fun y hy => ?_)
  obtain ⟨y1, y2, y3⟩ := y
  obtain ⟨A', U, V, B', q1, q2, q3, q4, q5, q6, q7⟩ := hy
  simp only at q4 q5 q6
  subst q4 q5 q6
  have ql : A'.length + V.length + U.length + B'.length = p := by
   have := congrArg List.length q7
   simp at this
   omega
  refine Ok.br (fun h => ?_) (fun h => Ok.done ⟨A', U, V, B', q1, by simp at h; omega, rfl, rfl, q7⟩)
  refine Ok.br (fun h2 => ?_) (fun h2 => ?_)
  ·simp only [decide_eq_true_eq] at h2
   have hUV : V.length < U.length := by omega
   obtain ⟨U1, U2, hU, hU1⟩ : ∃ U1 U2, U = U1 ++ U2 ∧ U1.length = V.length := ⟨U.take V.length, U.drop V.length, (List.take_append_drop _ _).symm, by simp; omega⟩
   subst hU
   simp only [List.length_append] at q1 hUV ql
   dsimp only
   have e1 : A' ++ (U1 ++ U2) ++ V ++ B' = A' ++ U1 ++ U2 ++ V ++ B' := by simp
   rw [e1]
   refine Ok.call (okSWAPR A' U1 U2 V B' p _ _ _ (by simp; omega) hp2 (by omega) (by omega) ?_ ?_) fun r hr => Ok.done ?_
   ·rw [wi64_id (by simp; omega) (by simp; omega)]; simp; omega
   ·simp; omega
   ·refine ⟨⟨A' ++ V, U2, U1, B', by simp; omega, by omega, by omega, ?_, by simp; omega, by rw [hr], by rw [← q7]; simp⟩, ?_⟩
    ·show wi64 _ = _
     rw [wi64_id (by simp; omega) (by simp; omega)]; simp; omega
    ·show (wi64 _).toNat + _ < _
     rw [wi64_id (by simp; omega) (by simp; omega)]; simp; omega
  ·simp only [decide_eq_false_iff_not] at h2
   simp only [bne_iff_ne, ne_eq] at h
   have hUV : U.length < V.length := by omega
   obtain ⟨V1, V2, hV, hV2⟩ : ∃ V1 V2, V = V1 ++ V2 ∧ V2.length = U.length := ⟨V.take (V.length - U.length), V.drop (V.length - U.length), (List.take_append_drop _ _).symm, by simp; omega⟩
   subst hV
   simp only [List.length_append] at q1 hUV ql
   dsimp only
   have e1 : A' ++ U ++ (V1 ++ V2) ++ B' = A' ++ U ++ V1 ++ V2 ++ B' := by simp
   rw [e1]
   refine Ok.call (okSWAPR A' U V1 V2 B' p _ _ _ (by simp; omega) hp2 rfl hV2 ?_ ?_) fun r hr => Ok.done ?_
   ·rw [wi64_id (by omega) (by omega)]; omega
   ·rw [wi64_id (n := (mm : Int) + _) (by first | omega | (simp; omega)) (by first | omega | (simp; omega)), wi64_id (by first | omega | (simp; omega)) (by first | omega | (simp; omega))]; first | omega | (simp; omega)
   ·refine ⟨⟨A', V2, V1, U ++ B', by omega, by omega, by omega, by dsimp only; omega, ?_, by rw [hr]; simp, by rw [← q7]; simp⟩, ?_⟩
    ·show wi64 _ = _
     rw [wi64_id (by simp; omega) (by simp; omega)]; simp; omega
    ·show _ + (wi64 _).toNat < _
     rw [wi64_id (by simp; omega) (by simp; omega)]; simp; omega
 ·obtain ⟨e1, e2⟩ := e
  obtain ⟨A', U, V, B', q1, q2, q4, q6, q7⟩ := he
  simp only at q4 q6
  subst q4 q6
  have ql : A'.length + V.length + U.length + B'.length = p := by
   have := congrArg List.length q7
   simp at this
   omega
  have e3 : A' ++ U ++ V ++ B' = A' ++ U ++ [] ++ V ++ B' := by simp
  rw [e3]
  refine Ok.call (okSWAPR A' U [] V B' p _ _ _ (by simp; omega) hp2 rfl q2.symm ?_ ?_) fun r hr => Ok.done ?_
  ·dsimp only; rw [wi64_id (by omega) (by omega)]; omega
  ·simp; omega
  ·rw [hr, ← q7]; simp
def ix (x y : SPair) : Prop := x.fLocal < y.fLocal ∨ (x.fLocal = y.fLocal ∧ x.fRemote < y.fRemote)
def bef (x y : SPair) : Prop := y.fPriority < x.fPriority ∨ (x.fPriority = y.fPriority ∧ ix x y)
theorem bef_trans (x y z : SPair) : bef x y → bef y z → bef x z := by unfold bef ix; omega
theorem bef_less {x y : SPair} (h : y.fPriority < x.fPriority) : bef x y := .inl h
theorem bef_not {x y : SPair} (h : ¬ y.fPriority < x.fPriority) (k : ix y x) : bef y x := by unfold bef; rcases Int.lt_or_eq_of_le (Int.not_lt.1 h) with h | h; exact .inl h; exact .inr ⟨h.symm, k⟩
theorem snoc_of {α : Type} {l : List α} (h : 0 < l.length) : ∃ t x, l = t ++ [x] := by
 rcases List.eq_nil_or_concat l with e | ⟨t, x, e⟩
 ·subst e; simp at h
 ·exact ⟨t, x, by rw [e]; simp⟩
theorem ins_sorts {P P1 P2 : List SPair} {x : SPair} (h : Sorts bef P (P1 ++ P2)) (h2 : ∀ z, z ∈ P2 → bef x z) (h1 : ∀ z, z ∈ P1 → bef z x) : Sorts bef (P ++ [x]) (P1 ++ x :: P2) := by
 refine ⟨?_, ?_⟩
 ·refine List.perm_middle.trans ?_
  refine ((List.Perm.cons x h.1).trans ?_)
  exact (List.perm_append_singleton x P).symm
 ·have := List.pairwise_append.1 h.2
  refine List.pairwise_append.2 ⟨this.1, List.pairwise_cons.2 ⟨h2, this.2.1⟩, fun a ha b hb => ?_⟩
  rcases List.mem_cons.1 hb with rfl | hb
  ·exact h1 a ha
  ·exact this.2.2 a ha b hb
theorem okINS (A S B : List SPair) (p : Nat) (a b : Int) (hp : p = (A ++ S ++ B).length) (hp2 : p ≤ 1000000) (ha : a = A.length) (hb : b = (A ++ S).length) (hS : S.Pairwise ix) :
  SOk (s60 p a b (A ++ S ++ B)) (fun r => ∃ S', r = A ++ S' ++ B ∧ Sorts bef S S') := by
 show Ok (g60 p a b _) _
 unfold g60
 subst ha hb
 have hlen : A.length + (S.length + B.length) = p := by rw [hp]; simp
 have i0 : wi64 ((A.length : Int) + 1) = ((A.length + 1 : Nat) : Int) := by rw [wi64_id (by omega) (by omega)]; omega
 rw [i0]
 refine Ok.bind (R := fun r => ∃ S', r = A ++ S' ++ B ∧ Sorts bef S S') ?_ fun e he => Ok.done he
 refine Ok.scan (S.length - 1) (by omega) (fun k y => y.2 = ((A.length + 1 + k : Nat) : Int) ∧ ∃ P', y.1 = A ++ P' ++ S.drop (k + 1) ++ B ∧ Sorts bef (S.take (k + 1)) P') ⟨rfl, S.take 1, ?_, .refl _, ?_⟩ (fun k y hy hk => ?_) (fun y hy => ?_)
 ·show A ++ S ++ B = A ++ S.take (0 + 1) ++ S.drop (0 + 1) ++ B
  rw [List.append_assoc A (S.take (0 + 1)), List.take_append_drop]
 ·match S with
  | [] => exact List.Pairwise.nil
  | x :: t => exact List.pairwise_singleton _ _
 ·obtain ⟨hi, P', e1, e2⟩ := hy
  obtain ⟨y1, y2⟩ := y
  simp only at hi e1
  subst hi e1
  have hPl : P'.length = k + 1 := by rw [e2.1.length_eq, List.length_take]; omega
  obtain ⟨x, hx1, hx2⟩ := get_lt (l := S) (k := k + 1) (by omega)
  have hdrop : S.drop (k + 1) = x :: S.drop (k + 2) := by
   rw [List.drop_eq_getElem_cons (by omega)]
   rw [List.getElem?_eq_getElem (by omega)] at hx2
   rw [Option.some.inj hx2]
  have htake : S.take (k + 2) = S.take (k + 1) ++ [x] := by rw [List.take_add_one (i := k + 1), hx2]; rfl
  have hix : ∀ w, w ∈ P' → ix w x := fun w hw => by
   obtain ⟨j, hj, hjw⟩ := mem_take_at (e2.1.mem_iff.1 hw)
   exact pairwise_le hS hjw hx2 hj
  have hB : S.length - (k + 2) + (k + 2) = S.length := by omega
  refine Ok.br (fun _ => ?_) (fun hc => by simp at hc; omega)
  refine Ok.bind (R := fun e => ∃ P'', e = A ++ P'' ++ S.drop (k + 2) ++ B ∧ Sorts bef (S.take (k + 2)) P'') ?_ fun e he => Ok.done ⟨?_, he⟩
  ·rw [hdrop]
   refine Ok.lp (fun y => ∃ P1 P2, P' = P1 ++ P2 ∧ y.1 = A ++ P1 ++ x :: (P2 ++ S.drop (k + 2) ++ B) ∧ y.2 = ((A.length + P1.length : Nat) : Int) ∧ ∀ z, z ∈ P2 → bef x z) (fun y => y.2.toNat) ⟨P', [], by simp, by simp, by show ((A.length + 1 + k : Nat) : Int) = _; omega, fun z h => by simp at h⟩ (fuel (by show (((A.length + 1 + k : Nat) : Int)).toNat ≤ _; omega)) (fun y hy => ?_)
   obtain ⟨P1, P2, q1, q2, q3, q4⟩ := hy
   obtain ⟨y1, y2⟩ := y
   simp only at q2 q3
   subst q2 q3
   have ql : P1.length + P2.length = k + 1 := by rw [← hPl, q1]; simp
   refine Ok.cnd (R := fun c => (c = true → ∃ P3 w, P1 = P3 ++ [w] ∧ w.fPriority < x.fPriority) ∧ (c = false → ∀ z, z ∈ P1 → bef z x)) ?_ fun c hc => Ok.br (fun h => ?_) (fun h => Ok.done ?_)
   ·refine Ok.br (fun h => ?_) (fun h => Ok.done ⟨fun h => by simp at h, fun _ z hz => ?_⟩)
    ·simp only [decide_eq_true_eq] at h
     obtain ⟨P3, w, rfl⟩ := snoc_of (l := P1) (by omega)
     simp only [List.length_append, List.length_cons, List.length_nil] at ql
     have im : wi64 (((A.length + (P3 ++ [w]).length : Nat) : Int) - 1) = ((A.length + P3.length : Nat) : Int) := by rw [wi64_id (by simp; omega) (by simp; omega)]; simp; omega
     simp only [im, Int.toNat_natCast, Nat.zero_add]
     refine Ok.chk (inP (by simp; omega)) (Ok.row rfl (get_mid (P := A ++ (P3 ++ [w])) (x := x) rfl (by simp)) (Ok.chk (inP (by omega)) (Ok.row rfl (get_mid (P := A ++ P3) (x := w) (Q := x :: (P2 ++ S.drop (k + 2) ++ B)) (by simp) (by simp)) (Ok.call (okCMPP x w) fun r hr => Ok.done ?_))))
     refine ⟨fun h5 => ⟨P3, w, rfl, hr.1 (by simpa using h5)⟩, fun h5 z hz => ?_⟩
     have h6 : ¬ w.fPriority < x.fPriority := fun h7 => by have := hr.2 h7; simp at h5; omega
     have h7 : bef w x := bef_not h6 (hix w (by rw [q1]; simp))
     rcases List.mem_append.1 hz with hz | hz
     ·have h8 : (P3 ++ [w] ++ P2).Pairwise bef := by rw [← q1]; exact e2.2
      have h9 := (List.pairwise_append.1 (List.pairwise_append.1 h8).1).2.2 z hz w (by simp)
      exact bef_trans _ _ _ h9 h7
     ·simp only [List.mem_singleton] at hz; subst hz; exact h7
    ·simp only [decide_eq_false_iff_not] at h
     have : P1 = [] := List.length_eq_zero_iff.1 (by omega)
     subst this; simp at hz
   ·obtain ⟨P3, w, rfl, hw⟩ := hc.1 h
    simp only [List.length_append, List.length_cons, List.length_nil] at ql
    have im : wi64 (((A.length + (P3 ++ [w]).length : Nat) : Int) - 1) = ((A.length + P3.length : Nat) : Int) := by rw [wi64_id (by simp; omega) (by simp; omega)]; simp; omega
    have w1 : A ++ (P3 ++ [w]) ++ x :: (P2 ++ S.drop (k + 2) ++ B) = (A ++ P3) ++ w :: (x :: (P2 ++ S.drop (k + 2) ++ B)) := by simp
    have w2 : (A ++ (P3 ++ [w]) ++ x :: (P2 ++ S.drop (k + 2) ++ B)).set (A.length + (P3 ++ [w]).length) w = (A ++ P3) ++ w :: (w :: (P2 ++ S.drop (k + 2) ++ B)) := by
     rw [set_mid (P := A ++ (P3 ++ [w])) (x := x) rfl (by simp)]; simp
    simp only [im, Int.toNat_natCast, Nat.zero_add]
    refine Ok.chk (inP (by omega)) (Ok.row rfl (get_mid w1 (by simp)) (Ok.chk (inP (by simp; omega)) (Ok.row rfl (get_mid (P := A ++ (P3 ++ [w])) (x := x) rfl (by simp)) (Ok.chk (inP (by simp; omega)) (Ok.row rfl (get_mid (P := A ++ (P3 ++ [w])) (x := x) rfl (by simp)) (Ok.re (Ok.chk (inP (by omega)) (Ok.row rfl (get_mid w2 (by simp)) (Ok.re (Ok.done ⟨⟨P3, w :: P2, by rw [q1]; simp, ?_, rfl, fun z hz => ?_⟩, ?_⟩))))))))))
    ·show List.set _ _ _ = _
     rw [set_mid w2 (by simp)]; simp
    ·rcases List.mem_cons.1 hz with rfl | hz
     ·exact bef_less hw
     ·exact q4 z hz
    ·show (((A.length + P3.length : Nat) : Int)).toNat < (((A.length + (P3 ++ [w]).length : Nat) : Int)).toNat
     simp only [Int.toNat_natCast, List.length_append, List.length_cons, List.length_nil]; omega
   ·refine ⟨P1 ++ x :: P2, by simp, ?_⟩
    rw [htake]
    exact ins_sorts (by rw [← q1]; exact e2) q4 (hc.2 h)
  ·show wi64 _ = _
   rw [wi64_id (by omega) (by omega)]; omega
 ·obtain ⟨hi, P', e1, e2⟩ := hy
  obtain ⟨y1, y2⟩ := y
  simp only at hi e1
  subst hi e1
  refine Ok.br (fun hc => by simp at hc; omega) (fun hc => Ok.done ?_)
  have h1 : S.drop (S.length - 1 + 1) = [] := List.drop_eq_nil_of_le (by omega)
  have h2 : S.take (S.length - 1 + 1) = S := List.take_of_length_le (by omega)
  rw [h2] at e2
  exact ⟨P', by rw [h1]; simp, e2⟩
end Go.Proofs.YtioobnkmohikjaaDoor
