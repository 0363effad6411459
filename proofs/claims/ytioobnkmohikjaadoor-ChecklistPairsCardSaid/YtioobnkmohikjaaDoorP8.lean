/- Helps for the plain laws: loops over indices, maps that are sets.
   Guides and contracts, printed by a program.
   Guides and contracts, printed by a program.
   Guides and contracts, printed by a program.
   Guides and contracts, printed by a program.
   Guides and contracts, printed by a program.
   When a candidate is valid: the program and its reference hold one condition. No conditions.
   When a checklist is valid: the program and its reference hold one condition; what pairs have in common, their priorities. No conditions.
   Plain lists: merging two sorted lists by halves, as symMerge does; a sorted list is the only one. No program in sight. Conditions: the order is transitive and has no ties. -/
import Derived.Test.YtioobnkmohikjaaDoorP7
import Derived.Test.YtioobnkmohikjaaDoorP5
import Derived.Test.YtioobnkmohikjaaDoorP6
import Derived.Test.YtioobnkmohikjaaDoorProg
import Derived.KernelRfl
namespace Go.Proofs.YtioobnkmohikjaaDoor
open Go Go.EV
set_option maxRecDepth 100000
theorem wi64_id {n : Int} (h1 : -9223372036854775808 ≤ n) (h2 : n ≤ 9223372036854775807) : wi64 n = n := by
 unfold wi64 IntKind.wrap
 simp [IntKind.signed, IntKind.bits]
 omega
theorem fuel {n : Nat} (h : n ≤ 140737488355329) : n < FUEL := by unfold FUEL; omega
theorem at_of {α : Type} {l : List α} {i : Int} (h0 : 0 ≤ i) (h : i < (l.length : Int)) : ∃ y, l[i.toNat]? = some y :=
 ⟨l[i.toNat]'(by omega), List.getElem?_eq_getElem (by omega)⟩
theorem Ok.scan {P : Program} {G : Nat → Option (List V)} {σ ε : Type} {S : σ → Ext} {body : σ → T P G (σ ⊕ ε)} {x0 : σ} {R : ε → Prop} (n : Nat) (hn : n ≤ 1000000) (I : Nat → σ → Prop) (h0 : I 0 x0)
  (step : ∀ k y, I k y → k < n → Ok (body y) (Sum.elim (I (k + 1)) R)) (last : ∀ y, I n y → Ok (body y) (Sum.elim (fun _ => False) R)) : Ok (.lp S body x0) R := by
 have key : ∀ m k y, I k y → k ≤ n → n - k < m → ∃ e, iter (fun y => (body y).run) m y = some e ∧ R e := by
  intro m
  induction m with
  | zero => intro k y _ _ h; omega
  | succ m ih =>
   intro k y hy hk hm
   have e1 : iter (fun y => (body y).run) (m + 1) y = (match (body y).run with | none => none | some (.inl y) => iter (fun y => (body y).run) m y | some (.inr e) => some e) := rfl
   rw [e1]
   rcases Nat.lt_or_ge k n with h | h
   ·obtain ⟨r, hr, hq⟩ := step k y hy h
    rw [hr]
    cases r with
    | inl z => exact ih (k + 1) z hq (by omega) (by omega)
    | inr e => exact ⟨e, rfl, hq⟩
   ·have : k = n := by omega
    subst this
    obtain ⟨r, hr, hq⟩ := last y hy
    rw [hr]
    cases r with
    | inl z => exact hq.elim
    | inr e => exact ⟨e, rfl, hq⟩
 exact key FUEL 0 x0 h0 (Nat.zero_le _) (fuel (by omega))
theorem wi64_nat {k n : Nat} (h : k < n) (hn : n ≤ 1000000) : wi64 ((k : Int) + 1) = ((k + 1 : Nat) : Int) := by
 rw [wi64_id (by omega) (by omega)]; omega
theorem get_lt {α : Type} {l : List α} {k : Nat} (h : k < l.length) : ∃ x, l[((k : Int)).toNat]? = some x ∧ l[k]? = some x := ⟨l[k], by rw [Int.toNat_natCast]; exact List.getElem?_eq_getElem h, List.getElem?_eq_getElem h⟩
theorem upto2 {α : Type} {l : List α} {p : α → Prop} {k : Nat} {x : α} (h : ∀ j y, j < k → l[j]? = some y → p y) (hx : l[k]? = some x) (hp : p x) : ∀ j y, j < k + 1 → l[j]? = some y → p y := fun j y hj hy => by
 rcases Nat.lt_or_ge j k with h1 | h1
 ·exact h j y h1 hy
 ·have : j = k := by omega
  subst this
  rw [hx] at hy
  exact Option.some.inj hy ▸ hp
theorem mlook_set {α : Type} {l : List α} {p : α → Bool} {fv : α → Bool} (hv : ∀ e, e ∈ l → fv e = true) : mlook l p fv false = true ↔ ∃ e, e ∈ l ∧ p e = true := by
 unfold mlook
 cases h : l.findIdx? p with
 | none =>
  rw [List.findIdx?_eq_none_iff] at h
  simp only [Bool.false_eq_true, false_iff]
  rintro ⟨e, h1, h2⟩
  rw [h e h1] at h2; simp at h2
 | some j =>
  obtain ⟨h1, h2, _⟩ := List.findIdx?_eq_some_iff_getElem.1 h
  simp only [List.getElem?_eq_getElem h1]
  exact ⟨fun _ => ⟨l[j], List.getElem_mem h1, h2⟩, fun _ => hv _ (List.getElem_mem h1)⟩
theorem mput_mem {α : Type} {l : List α} {p : α → Bool} {y e : α} : e ∈ mput l p y → e = y ∨ e ∈ l := by
 unfold mput
 split
 ·intro h
  rcases List.mem_or_eq_of_mem_set h with h | h
  ·exact .inr h
  ·exact .inl h
 ·intro h
  rcases List.mem_append.1 h with h | h
  ·exact .inr h
  ·exact .inl (by simpa using h)
theorem mput_keys {α κ : Type} {l : List α} {fk : α → κ} {p : α → Bool} {y : α} {x : κ} (hp : ∀ e, p e = true ↔ x = fk e) (hy : fk y = x) (z : κ) : (∃ e, e ∈ mput l p y ∧ fk e = z) ↔ (∃ e, e ∈ l ∧ fk e = z) ∨ z = x := by
 constructor
 ·rintro ⟨e, h1, h2⟩
  rcases mput_mem h1 with rfl | h1
  ·exact .inr (h2.symm.trans hy)
  ·exact .inl ⟨e, h1, h2⟩
 ·unfold mput
  cases h : l.findIdx? p with
  | none =>
   rintro (⟨e, h1, h2⟩ | rfl)
   ·exact ⟨e, by simp [h1], h2⟩
   ·exact ⟨y, by simp, hy⟩
  | some j =>
   obtain ⟨h1, h2, _⟩ := List.findIdx?_eq_some_iff_getElem.1 h
   have hyin : y ∈ l.set j y := List.mem_iff_getElem?.2 ⟨j, List.getElem?_set_self h1⟩
   rintro (⟨e, k1, k2⟩ | rfl)
   ·obtain ⟨i, hi⟩ := List.mem_iff_getElem?.1 k1
    by_cases hij : i = j
    ·subst hij
     rw [List.getElem?_eq_getElem h1] at hi
     obtain rfl := Option.some.inj hi
     exact ⟨y, hyin, by rw [hy, ← k2]; exact (hp _).1 h2⟩
    ·exact ⟨e, List.mem_iff_getElem?.2 ⟨i, by rw [List.getElem?_set_ne (Ne.symm hij)]; exact hi⟩, k2⟩
   ·exact ⟨y, hyin, hy⟩
def SetOf {α κ : Type} (fk : α → κ) (fv : α → Bool) (l : List α) (ks : List κ) : Prop := (∀ e, e ∈ l → fv e = true) ∧ ∀ z, (∃ e, e ∈ l ∧ fk e = z) ↔ z ∈ ks
theorem SetOf.look {α κ : Type} {fk : α → κ} {fv : α → Bool} {l : List α} {ks : List κ} (h : SetOf fk fv l ks) {p : α → Bool} {x : κ} (hp : ∀ e, p e = true ↔ x = fk e) : mlook l p fv false = true ↔ x ∈ ks := by
 rw [mlook_set h.1, ← h.2 x]
 exact ⟨fun ⟨e, h1, h2⟩ => ⟨e, h1, ((hp e).1 h2).symm⟩, fun ⟨e, h1, h2⟩ => ⟨e, h1, (hp e).2 h2.symm⟩⟩
theorem SetOf.put {α κ : Type} {fk : α → κ} {fv : α → Bool} {l : List α} {ks : List κ} (h : SetOf fk fv l ks) {p : α → Bool} {x : κ} {y : α} (hp : ∀ e, p e = true ↔ x = fk e) (hy : fk y = x) (hv : fv y = true) : SetOf fk fv (mput l p y) (ks ++ [x]) := by
 refine ⟨fun e he => ?_, fun z => ?_⟩
 ·rcases mput_mem he with rfl | h1
  ·exact hv
  ·exact h.1 e h1
 ·rw [mput_keys hp hy z, h.2 z]; simp
theorem SetOf.nil {α κ : Type} (fk : α → κ) (fv : α → Bool) : SetOf fk fv [] [] := ⟨fun e h => by simp at h, fun z => by simp⟩
theorem nodup_app {κ : Type} {l : List κ} {x : κ} : (l ++ [x]).Nodup ↔ l.Nodup ∧ x ∉ l := by
 rw [List.nodup_append]
 simp only [List.nodup_cons, List.not_mem_nil, not_false_eq_true, List.nodup_nil, and_self, true_and, List.mem_cons, or_false]
 exact ⟨fun ⟨h1, h2⟩ => ⟨h1, fun h => h2 x h x rfl rfl⟩, fun ⟨h1, h2⟩ => ⟨h1, fun a ha b hb e => h2 (by rw [← hb, ← e]; exact ha)⟩⟩
section
variable {P : Program} {G : Nat → Option (List V)} {ρ : Type} {Q : ρ → Prop}
theorem Ok.opr {β : Type} {a : Nat} {R : Rule P G β} {k : β → T P G ρ} {r : β} (hr : R.o = some r) (h : Ok (k r) Q) : Ok (.opr a R k) Q := by
 obtain ⟨x, e, hq⟩ := h
 exact ⟨x, by simp only [T.run, hr]; exact e, hq⟩
theorem Ok.brT {a : Nat} {c : Bool} {x y : T P G ρ} (hc : c = true) (h : Ok x Q) : Ok (.br a c x y) Q := Ok.br (fun _ => h) fun e => by rw [hc] at e; simp at e
theorem Ok.brF {a : Nat} {c : Bool} {x y : T P G ρ} (hc : c = false) (h : Ok y Q) : Ok (.br a c x y) Q := Ok.br (fun e => by rw [hc] at e; simp at e) fun _ => h
end
end Go.Proofs.YtioobnkmohikjaaDoor
namespace Go.Proofs.YtioobnkmohikjaaDoor
open Go Go.EV
set_option maxRecDepth 100000
def GG : Nat → Option (List V) := fun _ => none
abbrev TT := T Tryd.prog GG
theorem mixed : Tryd.prog.follows .mixedOrders = true := by kernel_rfl
structure SAddr where
 fHost : ByteArray
 fPort : Int
structure SCandidate where
 fKind : Int
 fComponent : Int
 fPriority : Int
 fFoundation : ByteArray
 fAddr : SAddr
 fBase : SAddr
structure SHost where
 fs : ByteArray
structure SPair where
 fLocal : Int
 fRemote : Int
 fPriority : Int
 fState : Int
structure SList where
 fControlling : Bool
 fLocals : (List SCandidate)
 fRemotes : (List SCandidate)
 fPairs : (List SPair)
structure SPlanner where
 fList : SList
structure SLike where
 fbase : SAddr
 faddr : SAddr
 fcomponent : Int
structure S2String where
 a0 : ByteArray
 a1 : ByteArray
def tySCandidate : Ty SCandidate := ⟨fun x => [.int .i64 x.fKind, .int .i64 x.fComponent, .int .i64 x.fPriority, .str x.fFoundation, .str x.fAddr.fHost, .int .i64 x.fAddr.fPort, .str x.fBase.fHost, .int .i64 x.fBase.fPort], fun x => [.int .i64 x.fKind, .int .i64 x.fComponent, .int .i64 x.fPriority, .str x.fFoundation, .str x.fAddr.fHost, .int .i64 x.fAddr.fPort, .str x.fBase.fHost, .int .i64 x.fBase.fPort], fun _ => rfl, fun _ => rfl, fun _ _ => rfl, fun _ => rfl⟩
def tySPair : Ty SPair := ⟨fun x => [.int .i64 x.fLocal, .int .i64 x.fRemote, .int .i64 x.fPriority, .int .i64 x.fState], fun x => [.int .i64 x.fLocal, .int .i64 x.fRemote, .int .i64 x.fPriority, .int .i64 x.fState], fun _ => rfl, fun _ => rfl, fun _ _ => rfl, fun _ => rfl⟩
end Go.Proofs.YtioobnkmohikjaaDoor
namespace Go.Proofs.YtioobnkmohikjaaDoor
open Go Go.EV
set_option maxRecDepth 100000
noncomputable def g33 (p0 : Int) (p1 : Int) (p2 : Int) : TT (Bool) :=
 .cnd 1 [6]
 (.br 1005 (decide (p1 ≤ p0))
  (.done (decide (p0 ≤ p2)))
  (.done false))
 (fun (c1 : Bool) => [.bool c1]) fun c1 =>
 .done c1
theorem k33 (p0 : Int) (p1 : Int) (p2 : Int) : FnD Tryd.prog GG [0, 1, 2, 6] Tryd.f33 [.int .i64 p0, .int .i64 p1, .int .i64 p2] (g33 p0 p1 p2) (fun r => .bool r) := by unfold FnD; kernel_rfl
noncomputable def s33 (p0 : Int) (p1 : Int) (p2 : Int) : EV.Spec Tryd.prog GG (Bool) := .ofFn 33 mixed Tryd.func33 (k33 p0 p1 p2)
noncomputable def g52 (p0 : Int) : TT (Bool) :=
 .done (p0 != p0)
theorem k52 (p0 : Int) : FnD Tryd.prog GG [0, 2] Tryd.f52 [.int .i64 p0] (g52 p0) (fun r => .bool r) := by unfold FnD; kernel_rfl
noncomputable def s52 (p0 : Int) : EV.Spec Tryd.prog GG (Bool) := .ofFn 52 mixed Tryd.func52 (k52 p0)
noncomputable def g28 (p0 : Int) (p1 : Int) : TT (Int) :=
 .call 1002 (s52 p0) [] [] fun r2 =>
 .call 2002 (s52 p1) [] [] fun r3 =>
 .br 0 r2
 (.br 0 r3
  (.done 0)
  (.done (-1)))
 (.br 0 r3
  (.done 1)
  (.br 0 (decide (p0 < p1))
   (.done (-1))
   (.br 0 (decide (p1 < p0))
    (.done 1)
    (.done 0))))
theorem k28 (p0 : Int) (p1 : Int) : FnD Tryd.prog GG [0, 1, 4, 5, 6, 11, 12, 13, 16, 19] Tryd.f28 [.int .i64 p0, .int .i64 p1] (g28 p0 p1) (fun r => .int .i64 r) := by unfold FnD; kernel_rfl
noncomputable def s28 (p0 : Int) (p1 : Int) : EV.Spec Tryd.prog GG (Int) := .ofFn 28 mixed Tryd.func28 (k28 p0 p1)
noncomputable def g50 (p0 : SCandidate) (p1 : SCandidate) : TT (Bool) :=
 .cnd 1 [4]
 (.br 1007 (p0.fComponent == p1.fComponent)
  (.done ((p0.fAddr.fHost.size : Int) == (p1.fAddr.fHost.size : Int)))
  (.done false))
 (fun (c4 : Bool) => [.bool c4]) fun c4 =>
 .done c4
theorem k50 (p0 : SCandidate) (p1 : SCandidate) : FnD Tryd.prog GG [0, 1, 2, 3, 4] Tryd.f50 [.agg [.int .i64 p0.fKind, .int .i64 p0.fComponent, .int .i64 p0.fPriority, .str p0.fFoundation, .str p0.fAddr.fHost, .int .i64 p0.fAddr.fPort, .str p0.fBase.fHost, .int .i64 p0.fBase.fPort], .agg [.int .i64 p1.fKind, .int .i64 p1.fComponent, .int .i64 p1.fPriority, .str p1.fFoundation, .str p1.fAddr.fHost, .int .i64 p1.fAddr.fPort, .str p1.fBase.fHost, .int .i64 p1.fBase.fPort]] (g50 p0 p1) (fun r => .bool r) := by unfold FnD; kernel_rfl
noncomputable def s50 (p0 : SCandidate) (p1 : SCandidate) : EV.Spec Tryd.prog GG (Bool) := .ofFn 50 mixed Tryd.func50 (k50 p0 p1)
noncomputable def g85 (p0 : ByteArray) : TT (SHost × Int) :=
 .cnd 1 [11]
 (.br 1005 ((p0.size : Int) != 4)
  (.done ((p0.size : Int) != 16))
  (.done false))
 (fun (c5 : Bool) => [.bool c5]) fun c5 =>
 .br 0 c5
 (.done ((SHost.mk ByteArray.empty), 2))
 (.done ((SHost.mk p0), 0))
theorem k85 (p0 : ByteArray) : FnD Tryd.prog GG [0, 2, 3, 11] Tryd.f85 [.str p0] (g85 p0) (fun r => .tup [.agg [.str r.1.fs], .int .i64 r.2]) := by unfold FnD; kernel_rfl
noncomputable def s85 (p0 : ByteArray) : EV.Spec Tryd.prog GG (SHost × Int) := .ofFn 85 mixed Tryd.func85 (k85 p0)
noncomputable def g77 (p0 : SAddr) : TT (Int) :=
 .call 1003 (s85 p0.fHost) [] [] fun r6 =>
 .cnd 2 [22]
 (.br 2004 (r6.2 != 0)
  (.done true)
  (.br 2009 (decide (p0.fPort < 0))
   (.done true)
   (.done (decide ((65535 : Int) < p0.fPort)))))
 (fun (c7 : Bool) => [.bool c7]) fun c7 =>
 .br 0 c7
 (.done 2)
 (.done 0)
theorem k77 (p0 : SAddr) : FnD Tryd.prog GG [0, 1, 2, 4, 22] Tryd.f77 [.agg [.str p0.fHost, .int .i64 p0.fPort]] (g77 p0) (fun r => .int .i64 r) := by unfold FnD; kernel_rfl
noncomputable def s77 (p0 : SAddr) : EV.Spec Tryd.prog GG (Int) := .ofFn 77 mixed Tryd.func77 (k77 p0)
noncomputable def g66 (p0 : SAddr) : TT (Bool) :=
 .cnd 1 [2]
 (.call 1002 (s77 p0) [] [] fun r8 =>
  .br 1005 (r8 == 0)
  (.done (decide ((1 : Int) ≤ p0.fPort)))
  (.done false))
 (fun (c9 : Bool) => [.bool c9]) fun c9 =>
 .done c9
theorem k66 (p0 : SAddr) : FnD Tryd.prog GG [0, 1, 2] Tryd.f66 [.agg [.str p0.fHost, .int .i64 p0.fPort]] (g66 p0) (fun r => .bool r) := by unfold FnD; kernel_rfl
noncomputable def s66 (p0 : SAddr) : EV.Spec Tryd.prog GG (Bool) := .ofFn 66 mixed Tryd.func66 (k66 p0)
noncomputable def g11 (p0 : Int) (p1 : Int) : TT (Int × Int) :=
 .cnd 1 [14]
 (.call 1002 (s33 p0 1 2147483647) [] [] fun r10 =>
  .br 1005 (!r10)
  (.done true)
  (.call 1006 (s33 p1 1 2147483647) [] [] fun r11 =>
   .done (!r11)))
 (fun (c12 : Bool) => [.bool c12]) fun c12 =>
 .br 0 c12
 (.done (0, 2))
 (.br 0 (decide (p1 < p0))
  (.done ((wi64 ((wi64 ((bShl .i64 (if p1 < p0 then p1 else p0) 32) + (wi64 ((2 : Int) * (if p1 > p0 then p1 else p0))))) + 1)), 0))
  (.done ((wi64 ((bShl .i64 (if p1 < p0 then p1 else p0) 32) + (wi64 ((2 : Int) * (if p1 > p0 then p1 else p0))))), 0)))
theorem k11 (p0 : Int) (p1 : Int) : FnD Tryd.prog GG [0, 1, 4, 5, 6, 14, 26] Tryd.f11 [.int .i64 p0, .int .i64 p1] (g11 p0 p1) (fun r => .tup [.int .i64 r.1, .int .i64 r.2]) := by unfold FnD; kernel_rfl
noncomputable def s11 (p0 : Int) (p1 : Int) : EV.Spec Tryd.prog GG (Int × Int) := .ofFn 11 mixed Tryd.func11 (k11 p0 p1)
noncomputable def g35 (p0 : SPlanner) (p1 : SPair) : TT (Int) :=
 .row 1008 tySCandidate p0.fList.fLocals p1.fLocal.toNat (decide (0 ≤ p1.fLocal)) fun x13 =>
 .row 1018 tySCandidate p0.fList.fRemotes p1.fRemote.toNat (decide (0 ≤ p1.fRemote)) fun x14 =>
 .bind 0
 (.br 0 (!p0.fList.fControlling)
  (.done (x14.fPriority, x13.fPriority))
  (.done (x13.fPriority, x14.fPriority)))
 (fun (e15 : Int × Int) => Ext.lit .normal [(4, .int .i64 0), (5, .int .i64 e15.1), (6, .int .i64 e15.2)] [])
 (fun e15 =>
  .call 4003 (s11 e15.1 e15.2) [] [] fun r16 =>
  .done r16.1)
theorem k35 (p0 : SPlanner) (p1 : SPair) : FnD Tryd.prog GG [0, 1, 3, 4, 5, 6, 7, 34] Tryd.f35 [.snap [.bool p0.fList.fControlling, .sl false 8 (List.map tySCandidate.c p0.fList.fLocals), .sl false 8 (List.map tySCandidate.c p0.fList.fRemotes), .sl false 4 (List.map tySPair.c p0.fList.fPairs)], .agg [.int .i64 p1.fLocal, .int .i64 p1.fRemote, .int .i64 p1.fPriority, .int .i64 p1.fState]] (g35 p0 p1) (fun r => .int .i64 r) := by unfold FnD; kernel_rfl
noncomputable def s35 (p0 : SPlanner) (p1 : SPair) : EV.Spec Tryd.prog GG (Int) := .ofFn 35 mixed Tryd.func35 (k35 p0 p1)
noncomputable def g29 (p0 : SPlanner) (p1 : SPair) : TT (SLike) :=
 .row 1008 tySCandidate p0.fList.fLocals p1.fLocal.toNat (decide (0 ≤ p1.fLocal)) fun x17 =>
 .row 1017 tySCandidate p0.fList.fRemotes p1.fRemote.toNat (decide (0 ≤ p1.fRemote)) fun x18 =>
 .done (SLike.mk x17.fBase x18.fAddr x17.fComponent)
theorem k29 (p0 : SPlanner) (p1 : SPair) : FnD Tryd.prog GG [0, 1, 3, 4, 5, 6] Tryd.f29 [.snap [.bool p0.fList.fControlling, .sl false 8 (List.map tySCandidate.c p0.fList.fLocals), .sl false 8 (List.map tySCandidate.c p0.fList.fRemotes), .sl false 4 (List.map tySPair.c p0.fList.fPairs)], .agg [.int .i64 p1.fLocal, .int .i64 p1.fRemote, .int .i64 p1.fPriority, .int .i64 p1.fState]] (g29 p0 p1) (fun r => .agg [.str r.fbase.fHost, .int .i64 r.fbase.fPort, .str r.faddr.fHost, .int .i64 r.faddr.fPort, .int .i64 r.fcomponent]) := by unfold FnD; kernel_rfl
noncomputable def s29 (p0 : SPlanner) (p1 : SPair) : EV.Spec Tryd.prog GG (SLike) := .ofFn 29 mixed Tryd.func29 (k29 p0 p1)
noncomputable def g30 (p0 : SPlanner) (p1 : SPair) : TT (S2String) :=
 .row 1008 tySCandidate p0.fList.fLocals p1.fLocal.toNat (decide (0 ≤ p1.fLocal)) fun x19 =>
 .row 1018 tySCandidate p0.fList.fRemotes p1.fRemote.toNat (decide (0 ≤ p1.fRemote)) fun x20 =>
 .done (S2String.mk x19.fFoundation x20.fFoundation)
theorem k30 (p0 : SPlanner) (p1 : SPair) : FnD Tryd.prog GG [0, 1, 3, 4] Tryd.f30 [.snap [.bool p0.fList.fControlling, .sl false 8 (List.map tySCandidate.c p0.fList.fLocals), .sl false 8 (List.map tySCandidate.c p0.fList.fRemotes), .sl false 4 (List.map tySPair.c p0.fList.fPairs)], .agg [.int .i64 p1.fLocal, .int .i64 p1.fRemote, .int .i64 p1.fPriority, .int .i64 p1.fState]] (g30 p0 p1) (fun r => .agg [.str r.a0, .str r.a1]) := by unfold FnD; kernel_rfl
noncomputable def s30 (p0 : SPlanner) (p1 : SPair) : EV.Spec Tryd.prog GG (S2String) := .ofFn 30 mixed Tryd.func30 (k30 p0 p1)
noncomputable def g31 (p0 : SPlanner) (p1 : SPair) : TT (Int) :=
 .row 1008 tySCandidate p0.fList.fLocals p1.fLocal.toNat (decide (0 ≤ p1.fLocal)) fun x21 =>
 .done x21.fComponent
theorem k31 (p0 : SPlanner) (p1 : SPair) : FnD Tryd.prog GG [0, 1, 3, 4] Tryd.f31 [.snap [.bool p0.fList.fControlling, .sl false 8 (List.map tySCandidate.c p0.fList.fLocals), .sl false 8 (List.map tySCandidate.c p0.fList.fRemotes), .sl false 4 (List.map tySPair.c p0.fList.fPairs)], .agg [.int .i64 p1.fLocal, .int .i64 p1.fRemote, .int .i64 p1.fPriority, .int .i64 p1.fState]] (g31 p0 p1) (fun r => .int .i64 r) := by unfold FnD; kernel_rfl
noncomputable def s31 (p0 : SPlanner) (p1 : SPair) : EV.Spec Tryd.prog GG (Int) := .ofFn 31 mixed Tryd.func31 (k31 p0 p1)
noncomputable def g32 (p0 : (List SCandidate)) (p1 : (List SCandidate)) : TT (Bool) :=
 .br 0 ((mlen tySCandidate p0) != (mlen tySCandidate p1))
 (.done false)
 (.bind2 1
  (.lp (fun (l25 : Int) => Ext.lit .normal [(0, .sl false 8 (List.map tySCandidate.c p0)), (1, .sl false 8 (List.map tySCandidate.c p1)), (4, .bool false), (5, .int .i64 l25)] [])
   (fun l25 =>
    .br 0 (decide (l25 < (mlen tySCandidate p0)))
    (.row 6003 tySCandidate p0 l25.toNat (decide (0 ≤ l25)) fun x26 =>
     .row 6007 tySCandidate p1 l25.toNat (decide (0 ≤ l25)) fun x27 =>
     .br 0 (!((x26.fKind == x27.fKind) && ((x26.fComponent == x27.fComponent) && ((x26.fPriority == x27.fPriority) && ((decide (x26.fFoundation = x27.fFoundation)) && ((decide (x26.fAddr.fHost = x27.fAddr.fHost)) && ((x26.fAddr.fPort == x27.fAddr.fPort) && ((decide (x26.fBase.fHost = x27.fBase.fHost)) && ((x26.fBase.fPort == x27.fBase.fPort) && true)))))))))
     (.done (.inr (.inl ())))
     (.done (.inl (wi64 (l25 + 1)))))
    (.done (.inr (.inr ()))))
   0)
  (fun (_ : Unit) => Ext.lit .ret [(4, .bool false)] [])
  (fun (_ : Unit) => Ext.lit (.exit 0) [(4, .bool false)] [])
  (fun _ =>
   .done false)
  (fun _ =>
   .done true))
theorem k32 (p0 : (List SCandidate)) (p1 : (List SCandidate)) : FnD Tryd.prog GG [0, 1, 4, 5, 10, 14, 25] Tryd.f32 [.sl false 8 (List.map tySCandidate.c p0), .sl false 8 (List.map tySCandidate.c p1)] (g32 p0 p1) (fun r => .bool r) := by unfold FnD; kernel_rfl
noncomputable def s32 (p0 : (List SCandidate)) (p1 : (List SCandidate)) : EV.Spec Tryd.prog GG (Bool) := .ofFn 32 mixed Tryd.func32 (k32 p0 p1)
noncomputable def g10 (p0 : SList) (p1 : SPair) (p2 : SPair) : TT (Bool) :=
 .cnd 1 [6]
 (.row 1005 tySCandidate p0.fLocals p1.fLocal.toNat (decide (0 ≤ p1.fLocal)) fun x30 =>
  .row 1012 tySCandidate p0.fLocals p2.fLocal.toNat (decide (0 ≤ p2.fLocal)) fun x31 =>
  .br 1017 (decide (x30.fFoundation = x31.fFoundation))
  (.row 1021 tySCandidate p0.fRemotes p1.fRemote.toNat (decide (0 ≤ p1.fRemote)) fun x32 =>
   .row 1028 tySCandidate p0.fRemotes p2.fRemote.toNat (decide (0 ≤ p2.fRemote)) fun x33 =>
   .done (decide (x32.fFoundation = x33.fFoundation)))
  (.done false))
 (fun (c34 : Bool) => [.bool c34]) fun c34 =>
 .done c34
theorem k10 (p0 : SList) (p1 : SPair) (p2 : SPair) : FnD Tryd.prog GG [0, 1, 2, 3, 4, 5, 6] Tryd.f10 [.agg [.bool p0.fControlling, .sl false 8 (List.map tySCandidate.c p0.fLocals), .sl false 8 (List.map tySCandidate.c p0.fRemotes), .sl false 4 (List.map tySPair.c p0.fPairs)], .agg [.int .i64 p1.fLocal, .int .i64 p1.fRemote, .int .i64 p1.fPriority, .int .i64 p1.fState], .agg [.int .i64 p2.fLocal, .int .i64 p2.fRemote, .int .i64 p2.fPriority, .int .i64 p2.fState]] (g10 p0 p1 p2) (fun r => .bool r) := by unfold FnD; kernel_rfl
noncomputable def s10 (p0 : SList) (p1 : SPair) (p2 : SPair) : EV.Spec Tryd.prog GG (Bool) := .ofFn 10 mixed Tryd.func10 (k10 p0 p1 p2)
noncomputable def g21 (p0 : SList) (p1 : Int) (p2 : Int) (p3 : Int) (p4 : Int) : TT (Bool) :=
 .cnd 1 [10]
 (.br 1007 (decide (p1 < (mlen tySPair p0.fPairs)))
  (.row 1010 tySPair p0.fPairs p1.toNat (decide (0 ≤ p1)) fun x35 =>
   .br 1017 (x35.fLocal == p2)
   (.row 1020 tySPair p0.fPairs p1.toNat (decide (0 ≤ p1)) fun x36 =>
    .br 1027 (x36.fRemote == p3)
    (.row 1030 tySPair p0.fPairs p1.toNat (decide (0 ≤ p1)) fun x37 =>
     .done (x37.fState == p4))
    (.done false))
   (.done false))
  (.done false))
 (fun (c38 : Bool) => [.bool c38]) fun c38 =>
 .done c38
theorem k21 (p0 : SList) (p1 : Int) (p2 : Int) (p3 : Int) (p4 : Int) : FnD Tryd.prog GG [0, 1, 2, 3, 4, 5, 10] Tryd.f21 [.agg [.bool p0.fControlling, .sl false 8 (List.map tySCandidate.c p0.fLocals), .sl false 8 (List.map tySCandidate.c p0.fRemotes), .sl false 4 (List.map tySPair.c p0.fPairs)], .int .i64 p1, .int .i64 p2, .int .i64 p3, .int .i64 p4] (g21 p0 p1 p2 p3 p4) (fun r => .bool r) := by unfold FnD; kernel_rfl
noncomputable def s21 (p0 : SList) (p1 : Int) (p2 : Int) (p3 : Int) (p4 : Int) : EV.Spec Tryd.prog GG (Bool) := .ofFn 21 mixed Tryd.func21 (k21 p0 p1 p2 p3 p4)
noncomputable def g44 (p0 : SList) : TT ((List SPair)) :=
 .app 2004 tySPair [] p0.fPairs 32 true (by intros; rfl) (.done ([] ++ p0.fPairs))
theorem k44 (p0 : SList) : FnB Tryd.prog GG [0, 1, 2, 3] Tryd.f44 [.agg [.bool p0.fControlling, .sl false 8 (List.map tySCandidate.c p0.fLocals), .sl false 8 (List.map tySCandidate.c p0.fRemotes), .sl false 4 (List.map tySPair.c p0.fPairs)]] (Ext.of .normal (argTs [.agg [.bool p0.fControlling, .sl false 8 (List.map tySCandidate.c p0.fLocals), .sl false 8 (List.map tySCandidate.c p0.fRemotes), .sl false 4 (List.map tySPair.c p0.fPairs)]]) [] [] (by rfl)) (g44 p0) (fun (r : (List SPair)) => .agg [.bool p0.fControlling, .sl false 8 (List.map tySCandidate.c p0.fLocals), .sl false 8 (List.map tySCandidate.c p0.fRemotes), .ref 7 0 r.length]) (fun (r : (List SPair)) => Ext.of .normal [] [] [BT.of 7 tySPair 4 r true] (by rfl)) := by unfold FnB; kernel_rfl
noncomputable def s44 (p0 : SList) : EV.Spec Tryd.prog GG ((List SPair)) := .ofFnB 44 [7] mixed Tryd.func44 rfl (fun _ => rfl) (k44 p0)
noncomputable def g46 (p0 : Int) : TT (SAddr) :=
 .br 0 ((Int.tmod p0 8) == 7)
 (.done (SAddr.mk (strOfNums [32, 1, 13, 184, 0, 0, 0, 0, 0, 0, 0, 0, 0, 0, 0, (Int.tmod (wu8 (Int.tdiv p0 8)) 3)]) (wi64 ((1 : Int) + (wi64 (wu8 (Int.tdiv p0 24)))))))
 (.done (SAddr.mk (strOfNums [10, 0, 0, (Int.tmod p0 8)]) (wi64 ((1 : Int) + (wi64 (Int.tmod (wu8 (Int.tdiv p0 8)) 4))))))
theorem k46 (p0 : Int) : FnD Tryd.prog GG [0, 2, 5] Tryd.f46 [.int .u8 p0] (g46 p0) (fun r => .agg [.str r.fHost, .int .i64 r.fPort]) := by unfold FnD; kernel_rfl
noncomputable def s46 (p0 : Int) : EV.Spec Tryd.prog GG (SAddr) := .ofFn 46 mixed Tryd.func46 (k46 p0)
noncomputable def g79 (p0 : ByteArray) : TT (Bool) :=
 .cnd 1 [2]
 (.br 1005 ((p0.size : Int) == 4)
  (.done true)
  (.done ((p0.size : Int) == 16)))
 (fun (c39 : Bool) => [.bool c39]) fun c39 =>
 .done c39
theorem k79 (p0 : ByteArray) : FnD Tryd.prog GG [0, 2] Tryd.f79 [.str p0] (g79 p0) (fun r => .bool r) := by unfold FnD; kernel_rfl
noncomputable def s79 (p0 : ByteArray) : EV.Spec Tryd.prog GG (Bool) := .ofFn 79 mixed Tryd.func79 (k79 p0)
noncomputable def g68 (p0 : SAddr) : TT (Bool) :=
 .cnd 1 [2]
 (.call 1003 (s79 p0.fHost) [] [] fun r40 =>
  .br 1005 r40
  (.br 1010 (decide ((0 : Int) ≤ p0.fPort))
   (.done (decide (p0.fPort ≤ 65535)))
   (.done false))
  (.done false))
 (fun (c41 : Bool) => [.bool c41]) fun c41 =>
 .done c41
theorem k68 (p0 : SAddr) : FnD Tryd.prog GG [0, 1, 2] Tryd.f68 [.agg [.str p0.fHost, .int .i64 p0.fPort]] (g68 p0) (fun r => .bool r) := by unfold FnD; kernel_rfl
noncomputable def s68 (p0 : SAddr) : EV.Spec Tryd.prog GG (Bool) := .ofFn 68 mixed Tryd.func68 (k68 p0)
noncomputable def g62 (p0 : SAddr) : TT (Bool) :=
 .cnd 1 [2]
 (.call 1002 (s68 p0) [] [] fun r42 =>
  .br 1004 r42
  (.done (decide ((1 : Int) ≤ p0.fPort)))
  (.done false))
 (fun (c43 : Bool) => [.bool c43]) fun c43 =>
 .done c43
theorem k62 (p0 : SAddr) : FnD Tryd.prog GG [0, 1, 2] Tryd.f62 [.agg [.str p0.fHost, .int .i64 p0.fPort]] (g62 p0) (fun r => .bool r) := by unfold FnD; kernel_rfl
noncomputable def s62 (p0 : SAddr) : EV.Spec Tryd.prog GG (Bool) := .ofFn 62 mixed Tryd.func62 (k62 p0)
noncomputable def g72  : TT (Unit) :=
 .tt (.ff (.tt (.ff (.tt (.ff (.tt (.ff (.tt (.ff (.tt (.ff (.tt (.ff (.tt (.ff (.tt (.ff (.tt (.ff (.tt (.ff (.tt (.ff (.tt (.ff (.tt (.ff (.tt (.ff (.tt (.ff (.tt (.ff (.ff (.done ())))))))))))))))))))))))))))))))))))
theorem k72  : FnB Tryd.prog GG [0, 2, 3, 4, 5, 9, 16] Tryd.f72 [.str (bs [48, 49, 50, 51, 52, 53, 54, 55, 56, 57, 97, 98, 99, 100, 101, 102, 45])] (Ext.of .normal (argTs [.str (bs [48, 49, 50, 51, 52, 53, 54, 55, 56, 57, 97, 98, 99, 100, 101, 102, 45])]) [] [] (by rfl)) (g72) (fun (_ : Unit) => .tup [.agg [.bool false, .bool false, .bool false, .bool false, .bool false, .bool false, .bool false, .bool false, .bool false, .bool false, .bool false, .bool false, .bool false, .bool false, .bool false, .bool false, .bool false, .bool false, .bool false, .bool false, .bool false, .bool false, .bool false, .bool false, .bool false, .bool false, .bool false, .bool false, .bool false, .bool false, .bool false, .bool false, .bool false, .bool false, .bool false, .bool false, .bool false, .bool false, .bool false, .bool false, .bool false, .bool false, .bool false, .bool false, .bool false, .bool true, .bool false, .bool false, .bool true, .bool true, .bool true, .bool true, .bool true, .bool true, .bool true, .bool true, .bool true, .bool true, .bool false, .bool false, .bool false, .bool false, .bool false, .bool false, .bool false, .bool false, .bool false, .bool false, .bool false, .bool false, .bool false, .bool false, .bool false, .bool false, .bool false, .bool false, .bool false, .bool false, .bool false, .bool false, .bool false, .bool false, .bool false, .bool false, .bool false, .bool false, .bool false, .bool false, .bool false, .bool false, .bool false, .bool false, .bool false, .bool false, .bool false, .bool false, .bool false, .bool true, .bool true, .bool true, .bool true, .bool true, .bool true, .bool false, .bool false, .bool false, .bool false, .bool false, .bool false, .bool false, .bool false, .bool false, .bool false, .bool false, .bool false, .bool false, .bool false, .bool false, .bool false, .bool false, .bool false, .bool false, .bool false, .bool false, .bool false, .bool false, .bool false, .bool false, .bool false, .bool false, .bool false, .bool false, .bool false, .bool false, .bool false, .bool false, .bool false, .bool false, .bool false, .bool false, .bool false, .bool false, .bool false, .bool false, .bool false, .bool false, .bool false, .bool false, .bool false, .bool false, .bool false, .bool false, .bool false, .bool false, .bool false, .bool false, .bool false, .bool false, .bool false, .bool false, .bool false, .bool false, .bool false, .bool false, .bool false, .bool false, .bool false, .bool false, .bool false, .bool false, .bool false, .bool false, .bool false, .bool false, .bool false, .bool false, .bool false, .bool false, .bool false, .bool false, .bool false, .bool false, .bool false, .bool false, .bool false, .bool false, .bool false, .bool false, .bool false, .bool false, .bool false, .bool false, .bool false, .bool false, .bool false, .bool false, .bool false, .bool false, .bool false, .bool false, .bool false, .bool false, .bool false, .bool false, .bool false, .bool false, .bool false, .bool false, .bool false, .bool false, .bool false, .bool false, .bool false, .bool false, .bool false, .bool false, .bool false, .bool false, .bool false, .bool false, .bool false, .bool false, .bool false, .bool false, .bool false, .bool false, .bool false, .bool false, .bool false, .bool false, .bool false, .bool false, .bool false, .bool false, .bool false, .bool false, .bool false, .bool false, .bool false, .bool false, .bool false, .bool false, .bool false, .bool false, .bool false, .bool false, .bool false, .bool false, .bool false, .bool false, .bool false, .bool false, .bool false, .bool false, .bool false, .bool false], .bool true]) (fun (_ : Unit) => Ext.of .normal [] [] [] (by rfl)) := by unfold FnB; kernel_rfl
noncomputable def s72  : EV.Spec Tryd.prog GG (Unit) := .ofFnB 72 [] mixed Tryd.func72 rfl (fun _ => rfl) (k72)
noncomputable def g81 (p0 : Int) : TT (Bool) :=
 .ceq 1004 p0 [0, 1, 2, 3, 4, 5, 6, 7, 8, 9, 10, 11, 12, 13, 14, 15, 16, 17, 18, 19, 20, 21, 22, 23, 24, 25, 26, 27, 28, 29, 30, 31, 32, 33, 34, 35, 36, 37, 38, 39, 40, 41, 42, 43, 44, 45, 46, 47, 48, 49, 50, 51, 52, 53, 54, 55, 56, 57, 58, 59, 60, 61, 62, 63, 64, 65, 66, 67, 68, 69, 70, 71, 72, 73, 74, 75, 76, 77, 78, 79, 80, 81, 82, 83, 84, 85, 86, 87, 88, 89, 90, 91, 92, 93, 94, 95, 96, 97, 98, 99, 100, 101, 102, 103, 104, 105, 106, 107, 108, 109, 110, 111, 112, 113, 114, 115, 116, 117, 118, 119, 120, 121, 122, 123, 124, 125, 126, 127, 128, 129, 130, 131, 132, 133, 134, 135, 136, 137, 138, 139, 140, 141, 142, 143, 144, 145, 146, 147, 148, 149, 150, 151, 152, 153, 154, 155, 156, 157, 158, 159, 160, 161, 162, 163, 164, 165, 166, 167, 168, 169, 170, 171, 172, 173, 174, 175, 176, 177, 178, 179, 180, 181, 182, 183, 184, 185, 186, 187, 188, 189, 190, 191, 192, 193, 194, 195, 196, 197, 198, 199, 200, 201, 202, 203, 204, 205, 206, 207, 208, 209, 210, 211, 212, 213, 214, 215, 216, 217, 218, 219, 220, 221, 222, 223, 224, 225, 226, 227, 228, 229, 230, 231, 232, 233, 234, 235, 236, 237, 238, 239, 240, 241, 242, 243, 244, 245, 246, 247, 248, 249, 250, 251, 252, 253, 254, 255] (fun v => bif [45, 48, 49, 50, 51, 52, 53, 54, 55, 56, 57, 97, 98, 99, 100, 101, 102].contains v then .done true else .done false)
theorem k81 (p0 : Int) : FnD Tryd.prog GG [0, 1, 4] Tryd.f81 [.snap [.bool false, .bool false, .bool false, .bool false, .bool false, .bool false, .bool false, .bool false, .bool false, .bool false, .bool false, .bool false, .bool false, .bool false, .bool false, .bool false, .bool false, .bool false, .bool false, .bool false, .bool false, .bool false, .bool false, .bool false, .bool false, .bool false, .bool false, .bool false, .bool false, .bool false, .bool false, .bool false, .bool false, .bool false, .bool false, .bool false, .bool false, .bool false, .bool false, .bool false, .bool false, .bool false, .bool false, .bool false, .bool false, .bool true, .bool false, .bool false, .bool true, .bool true, .bool true, .bool true, .bool true, .bool true, .bool true, .bool true, .bool true, .bool true, .bool false, .bool false, .bool false, .bool false, .bool false, .bool false, .bool false, .bool false, .bool false, .bool false, .bool false, .bool false, .bool false, .bool false, .bool false, .bool false, .bool false, .bool false, .bool false, .bool false, .bool false, .bool false, .bool false, .bool false, .bool false, .bool false, .bool false, .bool false, .bool false, .bool false, .bool false, .bool false, .bool false, .bool false, .bool false, .bool false, .bool false, .bool false, .bool false, .bool true, .bool true, .bool true, .bool true, .bool true, .bool true, .bool false, .bool false, .bool false, .bool false, .bool false, .bool false, .bool false, .bool false, .bool false, .bool false, .bool false, .bool false, .bool false, .bool false, .bool false, .bool false, .bool false, .bool false, .bool false, .bool false, .bool false, .bool false, .bool false, .bool false, .bool false, .bool false, .bool false, .bool false, .bool false, .bool false, .bool false, .bool false, .bool false, .bool false, .bool false, .bool false, .bool false, .bool false, .bool false, .bool false, .bool false, .bool false, .bool false, .bool false, .bool false, .bool false, .bool false, .bool false, .bool false, .bool false, .bool false, .bool false, .bool false, .bool false, .bool false, .bool false, .bool false, .bool false, .bool false, .bool false, .bool false, .bool false, .bool false, .bool false, .bool false, .bool false, .bool false, .bool false, .bool false, .bool false, .bool false, .bool false, .bool false, .bool false, .bool false, .bool false, .bool false, .bool false, .bool false, .bool false, .bool false, .bool false, .bool false, .bool false, .bool false, .bool false, .bool false, .bool false, .bool false, .bool false, .bool false, .bool false, .bool false, .bool false, .bool false, .bool false, .bool false, .bool false, .bool false, .bool false, .bool false, .bool false, .bool false, .bool false, .bool false, .bool false, .bool false, .bool false, .bool false, .bool false, .bool false, .bool false, .bool false, .bool false, .bool false, .bool false, .bool false, .bool false, .bool false, .bool false, .bool false, .bool false, .bool false, .bool false, .bool false, .bool false, .bool false, .bool false, .bool false, .bool false, .bool false, .bool false, .bool false, .bool false, .bool false, .bool false, .bool false, .bool false, .bool false, .bool false, .bool false, .bool false, .bool false, .bool false, .bool false, .bool false, .bool false, .bool false, .bool false, .bool false, .bool false, .bool false, .bool false], .int .u8 p0] (g81 p0) (fun r => .bool r) := by unfold FnD; kernel_rfl
noncomputable def s81 (p0 : Int) : EV.Spec Tryd.prog GG (Bool) := .ofFn 81 mixed Tryd.func81 (k81 p0)
noncomputable def g74 (p0 : ByteArray) : TT (ByteArray) :=
 .bind 1
 (.lp (fun (l53 : ByteArray) => Ext.lit .normal [(0, .str l53), (1, .snap [.bool false, .bool false, .bool false, .bool false, .bool false, .bool false, .bool false, .bool false, .bool false, .bool false, .bool false, .bool false, .bool false, .bool false, .bool false, .bool false, .bool false, .bool false, .bool false, .bool false, .bool false, .bool false, .bool false, .bool false, .bool false, .bool false, .bool false, .bool false, .bool false, .bool false, .bool false, .bool false, .bool false, .bool false, .bool false, .bool false, .bool false, .bool false, .bool false, .bool false, .bool false, .bool false, .bool false, .bool false, .bool false, .bool true, .bool false, .bool false, .bool true, .bool true, .bool true, .bool true, .bool true, .bool true, .bool true, .bool true, .bool true, .bool true, .bool false, .bool false, .bool false, .bool false, .bool false, .bool false, .bool false, .bool false, .bool false, .bool false, .bool false, .bool false, .bool false, .bool false, .bool false, .bool false, .bool false, .bool false, .bool false, .bool false, .bool false, .bool false, .bool false, .bool false, .bool false, .bool false, .bool false, .bool false, .bool false, .bool false, .bool false, .bool false, .bool false, .bool false, .bool false, .bool false, .bool false, .bool false, .bool false, .bool true, .bool true, .bool true, .bool true, .bool true, .bool true, .bool false, .bool false, .bool false, .bool false, .bool false, .bool false, .bool false, .bool false, .bool false, .bool false, .bool false, .bool false, .bool false, .bool false, .bool false, .bool false, .bool false, .bool false, .bool false, .bool false, .bool false, .bool false, .bool false, .bool false, .bool false, .bool false, .bool false, .bool false, .bool false, .bool false, .bool false, .bool false, .bool false, .bool false, .bool false, .bool false, .bool false, .bool false, .bool false, .bool false, .bool false, .bool false, .bool false, .bool false, .bool false, .bool false, .bool false, .bool false, .bool false, .bool false, .bool false, .bool false, .bool false, .bool false, .bool false, .bool false, .bool false, .bool false, .bool false, .bool false, .bool false, .bool false, .bool false, .bool false, .bool false, .bool false, .bool false, .bool false, .bool false, .bool false, .bool false, .bool false, .bool false, .bool false, .bool false, .bool false, .bool false, .bool false, .bool false, .bool false, .bool false, .bool false, .bool false, .bool false, .bool false, .bool false, .bool false, .bool false, .bool false, .bool false, .bool false, .bool false, .bool false, .bool false, .bool false, .bool false, .bool false, .bool false, .bool false, .bool false, .bool false, .bool false, .bool false, .bool false, .bool false, .bool false, .bool false, .bool false, .bool false, .bool false, .bool false, .bool false, .bool false, .bool false, .bool false, .bool false, .bool false, .bool false, .bool false, .bool false, .bool false, .bool false, .bool false, .bool false, .bool false, .bool false, .bool false, .bool false, .bool false, .bool false, .bool false, .bool false, .bool false, .bool false, .bool false, .bool false, .bool false, .bool false, .bool false, .bool false, .bool false, .bool false, .bool false, .bool false, .bool false, .bool false, .bool false, .bool false, .bool false, .bool false, .bool false, .bool false, .bool false]), (4, .str ByteArray.empty)] [])
  (fun l53 =>
   .br 0 (decide ((0 : Int) < (l53.size : Int)))
   (.chk 2006 (decide (0 ≤ (wi64 ((l53.size : Int) - 1)) ∧ (wi64 ((l53.size : Int) - 1)) < (l53.size : Int))) (.call 2007 (s81 (bAt l53 (wi64 ((l53.size : Int) - 1)))) [] [] fun r54 =>
    .br 0 (!r54)
    (.done (.inr l53))
    (.chk 3005 (decide (0 ≤ (wi64 ((l53.size : Int) - 1))) && decide ((wi64 ((l53.size : Int) - 1)) ≤ (l53.size : Int))) (.done (.inl (l53.extract 0 ((wi64 ((l53.size : Int) - 1)).toNat)))))))
   (.done (.inr l53)))
  p0)
 (fun (e55 : ByteArray) => Ext.lit (.exit 0) [(0, .str e55), (4, .str ByteArray.empty)] [])
 (fun e55 =>
  .done e55)
theorem k74 (p0 : ByteArray) : FnD Tryd.prog GG [0, 1, 4, 7, 15] Tryd.f74 [.str p0, .snap [.bool false, .bool false, .bool false, .bool false, .bool false, .bool false, .bool false, .bool false, .bool false, .bool false, .bool false, .bool false, .bool false, .bool false, .bool false, .bool false, .bool false, .bool false, .bool false, .bool false, .bool false, .bool false, .bool false, .bool false, .bool false, .bool false, .bool false, .bool false, .bool false, .bool false, .bool false, .bool false, .bool false, .bool false, .bool false, .bool false, .bool false, .bool false, .bool false, .bool false, .bool false, .bool false, .bool false, .bool false, .bool false, .bool true, .bool false, .bool false, .bool true, .bool true, .bool true, .bool true, .bool true, .bool true, .bool true, .bool true, .bool true, .bool true, .bool false, .bool false, .bool false, .bool false, .bool false, .bool false, .bool false, .bool false, .bool false, .bool false, .bool false, .bool false, .bool false, .bool false, .bool false, .bool false, .bool false, .bool false, .bool false, .bool false, .bool false, .bool false, .bool false, .bool false, .bool false, .bool false, .bool false, .bool false, .bool false, .bool false, .bool false, .bool false, .bool false, .bool false, .bool false, .bool false, .bool false, .bool false, .bool false, .bool true, .bool true, .bool true, .bool true, .bool true, .bool true, .bool false, .bool false, .bool false, .bool false, .bool false, .bool false, .bool false, .bool false, .bool false, .bool false, .bool false, .bool false, .bool false, .bool false, .bool false, .bool false, .bool false, .bool false, .bool false, .bool false, .bool false, .bool false, .bool false, .bool false, .bool false, .bool false, .bool false, .bool false, .bool false, .bool false, .bool false, .bool false, .bool false, .bool false, .bool false, .bool false, .bool false, .bool false, .bool false, .bool false, .bool false, .bool false, .bool false, .bool false, .bool false, .bool false, .bool false, .bool false, .bool false, .bool false, .bool false, .bool false, .bool false, .bool false, .bool false, .bool false, .bool false, .bool false, .bool false, .bool false, .bool false, .bool false, .bool false, .bool false, .bool false, .bool false, .bool false, .bool false, .bool false, .bool false, .bool false, .bool false, .bool false, .bool false, .bool false, .bool false, .bool false, .bool false, .bool false, .bool false, .bool false, .bool false, .bool false, .bool false, .bool false, .bool false, .bool false, .bool false, .bool false, .bool false, .bool false, .bool false, .bool false, .bool false, .bool false, .bool false, .bool false, .bool false, .bool false, .bool false, .bool false, .bool false, .bool false, .bool false, .bool false, .bool false, .bool false, .bool false, .bool false, .bool false, .bool false, .bool false, .bool false, .bool false, .bool false, .bool false, .bool false, .bool false, .bool false, .bool false, .bool false, .bool false, .bool false, .bool false, .bool false, .bool false, .bool false, .bool false, .bool false, .bool false, .bool false, .bool false, .bool false, .bool false, .bool false, .bool false, .bool false, .bool false, .bool false, .bool false, .bool false, .bool false, .bool false, .bool false, .bool false, .bool false, .bool false, .bool false, .bool false, .bool false, .bool false, .bool false, .bool false]] (g74 p0) (fun r => .str r) := by unfold FnD; kernel_rfl
noncomputable def s74 (p0 : ByteArray) : EV.Spec Tryd.prog GG (ByteArray) := .ofFn 74 mixed Tryd.func74 (k74 p0)
noncomputable def g73 (p0 : ByteArray) : TT (ByteArray) :=
 .bind 1
 (.lp (fun (l59 : ByteArray) => Ext.lit .normal [(0, .str l59), (1, .snap [.bool false, .bool false, .bool false, .bool false, .bool false, .bool false, .bool false, .bool false, .bool false, .bool false, .bool false, .bool false, .bool false, .bool false, .bool false, .bool false, .bool false, .bool false, .bool false, .bool false, .bool false, .bool false, .bool false, .bool false, .bool false, .bool false, .bool false, .bool false, .bool false, .bool false, .bool false, .bool false, .bool false, .bool false, .bool false, .bool false, .bool false, .bool false, .bool false, .bool false, .bool false, .bool false, .bool false, .bool false, .bool false, .bool true, .bool false, .bool false, .bool true, .bool true, .bool true, .bool true, .bool true, .bool true, .bool true, .bool true, .bool true, .bool true, .bool false, .bool false, .bool false, .bool false, .bool false, .bool false, .bool false, .bool false, .bool false, .bool false, .bool false, .bool false, .bool false, .bool false, .bool false, .bool false, .bool false, .bool false, .bool false, .bool false, .bool false, .bool false, .bool false, .bool false, .bool false, .bool false, .bool false, .bool false, .bool false, .bool false, .bool false, .bool false, .bool false, .bool false, .bool false, .bool false, .bool false, .bool false, .bool false, .bool true, .bool true, .bool true, .bool true, .bool true, .bool true, .bool false, .bool false, .bool false, .bool false, .bool false, .bool false, .bool false, .bool false, .bool false, .bool false, .bool false, .bool false, .bool false, .bool false, .bool false, .bool false, .bool false, .bool false, .bool false, .bool false, .bool false, .bool false, .bool false, .bool false, .bool false, .bool false, .bool false, .bool false, .bool false, .bool false, .bool false, .bool false, .bool false, .bool false, .bool false, .bool false, .bool false, .bool false, .bool false, .bool false, .bool false, .bool false, .bool false, .bool false, .bool false, .bool false, .bool false, .bool false, .bool false, .bool false, .bool false, .bool false, .bool false, .bool false, .bool false, .bool false, .bool false, .bool false, .bool false, .bool false, .bool false, .bool false, .bool false, .bool false, .bool false, .bool false, .bool false, .bool false, .bool false, .bool false, .bool false, .bool false, .bool false, .bool false, .bool false, .bool false, .bool false, .bool false, .bool false, .bool false, .bool false, .bool false, .bool false, .bool false, .bool false, .bool false, .bool false, .bool false, .bool false, .bool false, .bool false, .bool false, .bool false, .bool false, .bool false, .bool false, .bool false, .bool false, .bool false, .bool false, .bool false, .bool false, .bool false, .bool false, .bool false, .bool false, .bool false, .bool false, .bool false, .bool false, .bool false, .bool false, .bool false, .bool false, .bool false, .bool false, .bool false, .bool false, .bool false, .bool false, .bool false, .bool false, .bool false, .bool false, .bool false, .bool false, .bool false, .bool false, .bool false, .bool false, .bool false, .bool false, .bool false, .bool false, .bool false, .bool false, .bool false, .bool false, .bool false, .bool false, .bool false, .bool false, .bool false, .bool false, .bool false, .bool false, .bool false, .bool false, .bool false, .bool false, .bool false, .bool false, .bool false]), (4, .str ByteArray.empty)] [])
  (fun l59 =>
   .br 0 (decide ((0 : Int) < (l59.size : Int)))
   (.chk 2003 (decide (0 ≤ (0 : Int) ∧ (0 : Int) < (l59.size : Int))) (.call 2004 (s81 (bAt l59 0)) [] [] fun r60 =>
    .br 0 (!r60)
    (.done (.inr l59))
    (.chk 3002 (decide (0 ≤ (1 : Int)) && decide ((1 : Int) ≤ (l59.size : Int))) (.done (.inl (l59.extract 1 l59.size))))))
   (.done (.inr l59)))
  p0)
 (fun (e61 : ByteArray) => Ext.lit (.exit 0) [(0, .str e61), (4, .str ByteArray.empty)] [])
 (fun e61 =>
  .done e61)
theorem k73 (p0 : ByteArray) : FnD Tryd.prog GG [0, 1, 4, 7, 12] Tryd.f73 [.str p0, .snap [.bool false, .bool false, .bool false, .bool false, .bool false, .bool false, .bool false, .bool false, .bool false, .bool false, .bool false, .bool false, .bool false, .bool false, .bool false, .bool false, .bool false, .bool false, .bool false, .bool false, .bool false, .bool false, .bool false, .bool false, .bool false, .bool false, .bool false, .bool false, .bool false, .bool false, .bool false, .bool false, .bool false, .bool false, .bool false, .bool false, .bool false, .bool false, .bool false, .bool false, .bool false, .bool false, .bool false, .bool false, .bool false, .bool true, .bool false, .bool false, .bool true, .bool true, .bool true, .bool true, .bool true, .bool true, .bool true, .bool true, .bool true, .bool true, .bool false, .bool false, .bool false, .bool false, .bool false, .bool false, .bool false, .bool false, .bool false, .bool false, .bool false, .bool false, .bool false, .bool false, .bool false, .bool false, .bool false, .bool false, .bool false, .bool false, .bool false, .bool false, .bool false, .bool false, .bool false, .bool false, .bool false, .bool false, .bool false, .bool false, .bool false, .bool false, .bool false, .bool false, .bool false, .bool false, .bool false, .bool false, .bool false, .bool true, .bool true, .bool true, .bool true, .bool true, .bool true, .bool false, .bool false, .bool false, .bool false, .bool false, .bool false, .bool false, .bool false, .bool false, .bool false, .bool false, .bool false, .bool false, .bool false, .bool false, .bool false, .bool false, .bool false, .bool false, .bool false, .bool false, .bool false, .bool false, .bool false, .bool false, .bool false, .bool false, .bool false, .bool false, .bool false, .bool false, .bool false, .bool false, .bool false, .bool false, .bool false, .bool false, .bool false, .bool false, .bool false, .bool false, .bool false, .bool false, .bool false, .bool false, .bool false, .bool false, .bool false, .bool false, .bool false, .bool false, .bool false, .bool false, .bool false, .bool false, .bool false, .bool false, .bool false, .bool false, .bool false, .bool false, .bool false, .bool false, .bool false, .bool false, .bool false, .bool false, .bool false, .bool false, .bool false, .bool false, .bool false, .bool false, .bool false, .bool false, .bool false, .bool false, .bool false, .bool false, .bool false, .bool false, .bool false, .bool false, .bool false, .bool false, .bool false, .bool false, .bool false, .bool false, .bool false, .bool false, .bool false, .bool false, .bool false, .bool false, .bool false, .bool false, .bool false, .bool false, .bool false, .bool false, .bool false, .bool false, .bool false, .bool false, .bool false, .bool false, .bool false, .bool false, .bool false, .bool false, .bool false, .bool false, .bool false, .bool false, .bool false, .bool false, .bool false, .bool false, .bool false, .bool false, .bool false, .bool false, .bool false, .bool false, .bool false, .bool false, .bool false, .bool false, .bool false, .bool false, .bool false, .bool false, .bool false, .bool false, .bool false, .bool false, .bool false, .bool false, .bool false, .bool false, .bool false, .bool false, .bool false, .bool false, .bool false, .bool false, .bool false, .bool false, .bool false, .bool false, .bool false, .bool false]] (g73 p0) (fun r => .str r) := by unfold FnD; kernel_rfl
noncomputable def s73 (p0 : ByteArray) : EV.Spec Tryd.prog GG (ByteArray) := .ofFn 73 mixed Tryd.func73 (k73 p0)
noncomputable def g65 (p0 : ByteArray) : TT (ByteArray) :=
 .cnd 1 [12]
 (.br 1004 (decide (p0 = ByteArray.empty))
  (.done true)
  (.done false))
 (fun (c49 : Bool) => [.bool c49]) fun c49 =>
 .br 0 c49
 (.done p0)
 (.ff (.call 5002 s72 [] [] fun _ =>
  .tt (.view 7002 (s74 p0) [] fun r56 =>
  .view 7003 (s73 r56) [] fun r62 =>
  .done r62)))
theorem k65 (p0 : ByteArray) : FnD Tryd.prog GG [0, 1, 4, 5, 6, 12, 21, 34] Tryd.f65 [.str p0, .str (bs [48, 49, 50, 51, 52, 53, 54, 55, 56, 57, 97, 98, 99, 100, 101, 102, 45])] (g65 p0) (fun r => .str r) := by unfold FnD; kernel_rfl
noncomputable def s65 (p0 : ByteArray) : EV.Spec Tryd.prog GG (ByteArray) := .ofFn 65 mixed Tryd.func65 (k65 p0)
noncomputable def g59 (p0 : SCandidate) : TT (Bool) :=
 .cnd 1 [25]
 (.call 1003 (s33 p0.fKind 1 4) [] [] fun r44 =>
  .br 1006 (!r44)
  (.done true)
  (.call 1008 (s33 p0.fComponent 1 256) [] [] fun r45 =>
   .br 1012 (!r45)
   (.done true)
   (.call 1014 (s33 p0.fPriority 1 2147483647) [] [] fun r46 =>
    .br 1018 (!r46)
    (.done true)
    (.call 1021 (s33 (p0.fFoundation.size : Int) 1 80) [] [] fun r47 =>
     .done (!r47)))))
 (fun (c48 : Bool) => [.bool c48]) fun c48 =>
 .br 0 c48
 (.done false)
 (.cnd 3 [52]
  (.call 3003 (s65 p0.fFoundation) [] [] fun r63 =>
   .br 3006 (!decide (r63 = ByteArray.empty))
   (.done true)
   (.call 3008 (s66 p0.fAddr) [] [] fun r64 =>
    .br 3012 (!r64)
    (.done true)
    (.call 3014 (s66 p0.fBase) [] [] fun r65 =>
     .br 3018 (!r65)
     (.done true)
     (.done ((p0.fAddr.fHost.size : Int) != (p0.fBase.fHost.size : Int))))))
  (fun (c66 : Bool) => [.bool c66]) fun c66 =>
  .br 0 c66
  (.done false)
  (.cnd 5 [2]
   (.br 5007 ((decide (p0.fAddr.fHost = p0.fBase.fHost)) && ((p0.fAddr.fPort == p0.fBase.fPort) && true))
    (.done true)
    (.br 5012 (p0.fKind == 2)
     (.done true)
     (.done (p0.fKind == 3))))
   (fun (c67 : Bool) => [.bool c67]) fun c67 =>
   .done c67))
theorem k59 (p0 : SCandidate) : FnD Tryd.prog GG [0, 1, 2, 25, 52] Tryd.f59 [.agg [.int .i64 p0.fKind, .int .i64 p0.fComponent, .int .i64 p0.fPriority, .str p0.fFoundation, .str p0.fAddr.fHost, .int .i64 p0.fAddr.fPort, .str p0.fBase.fHost, .int .i64 p0.fBase.fPort]] (g59 p0) (fun r => .bool r) := by unfold FnD; kernel_rfl
noncomputable def s59 (p0 : SCandidate) : EV.Spec Tryd.prog GG (Bool) := .ofFn 59 mixed Tryd.func59 (k59 p0)
noncomputable def g49 (p0 : SCandidate) : TT (Int) :=
 .call 1002 (s59 p0) [] [] fun r68 =>
 .br 0 (!r68)
 (.done 90)
 (.done 0)
theorem k49 (p0 : SCandidate) : FnD Tryd.prog GG [0, 1, 2, 5] Tryd.f49 [.agg [.int .i64 p0.fKind, .int .i64 p0.fComponent, .int .i64 p0.fPriority, .str p0.fFoundation, .str p0.fAddr.fHost, .int .i64 p0.fAddr.fPort, .str p0.fBase.fHost, .int .i64 p0.fBase.fPort]] (g49 p0) (fun r => .int .i64 r) := by unfold FnD; kernel_rfl
noncomputable def s49 (p0 : SCandidate) : EV.Spec Tryd.prog GG (Int) := .ofFn 49 mixed Tryd.func49 (k49 p0)
end Go.Proofs.YtioobnkmohikjaaDoor
namespace Go.Proofs.YtioobnkmohikjaaDoor
open Go Go.EV
set_option maxRecDepth 100000
structure SDraft where
 fKind : Int
 fComponent : Int
 fAddr : Int
 fBase : Int
 fServer : Int
 fPreference : Int
def ty_u8 : Ty Int := ⟨fun x => [.int .u8 x], fun x => [.int .u8 x], fun _ => rfl, fun _ => rfl, fun _ _ => rfl, fun _ => rfl⟩
def tySDraft : Ty SDraft := ⟨fun x => [.int .u8 x.fKind, .int .u8 x.fComponent, .int .u8 x.fAddr, .int .u8 x.fBase, .int .u8 x.fServer, .int .u16 x.fPreference], fun x => [.int .u8 x.fKind, .int .u8 x.fComponent, .int .u8 x.fAddr, .int .u8 x.fBase, .int .u8 x.fServer, .int .u16 x.fPreference], fun _ => rfl, fun _ => rfl, fun _ _ => rfl, fun _ => rfl⟩
noncomputable def g86 (p0 : Int) : TT (ByteArray) :=
 .br 0 (decide (p0 < 10))
 (.chk 2004 ((decide (0 ≤ (wi64 (p0 + 1))) && decide ((wi64 (p0 + 1)) ≤ (36 : Int))) && (decide (0 ≤ p0) && decide (p0 ≤ ((wi64 (p0 + 1)).toNat : Int)))) (.done ((bs [48, 49, 50, 51, 52, 53, 54, 55, 56, 57, 97, 98, 99, 100, 101, 102, 103, 104, 105, 106, 107, 108, 109, 110, 111, 112, 113, 114, 115, 116, 117, 118, 119, 120, 121, 122]).extract p0.toNat ((wi64 (p0 + 1)).toNat))))
 (.chk 3006 ((decide (0 ≤ (wi64 ((wi64 (p0 * 2)) + 2))) && decide ((wi64 ((wi64 (p0 * 2)) + 2)) ≤ (200 : Int))) && (decide (0 ≤ (wi64 (p0 * 2))) && decide ((wi64 (p0 * 2)) ≤ ((wi64 ((wi64 (p0 * 2)) + 2)).toNat : Int)))) (.done ((bs [48, 48, 48, 49, 48, 50, 48, 51, 48, 52, 48, 53, 48, 54, 48, 55, 48, 56, 48, 57, 49, 48, 49, 49, 49, 50, 49, 51, 49, 52, 49, 53, 49, 54, 49, 55, 49, 56, 49, 57, 50, 48, 50, 49, 50, 50, 50, 51, 50, 52, 50, 53, 50, 54, 50, 55, 50, 56, 50, 57, 51, 48, 51, 49, 51, 50, 51, 51, 51, 52, 51, 53, 51, 54, 51, 55, 51, 56, 51, 57, 52, 48, 52, 49, 52, 50, 52, 51, 52, 52, 52, 53, 52, 54, 52, 55, 52, 56, 52, 57, 53, 48, 53, 49, 53, 50, 53, 51, 53, 52, 53, 53, 53, 54, 53, 55, 53, 56, 53, 57, 54, 48, 54, 49, 54, 50, 54, 51, 54, 52, 54, 53, 54, 54, 54, 55, 54, 56, 54, 57, 55, 48, 55, 49, 55, 50, 55, 51, 55, 52, 55, 53, 55, 54, 55, 55, 55, 56, 55, 57, 56, 48, 56, 49, 56, 50, 56, 51, 56, 52, 56, 53, 56, 54, 56, 55, 56, 56, 56, 57, 57, 48, 57, 49, 57, 50, 57, 51, 57, 52, 57, 53, 57, 54, 57, 55, 57, 56, 57, 57]).extract ((wi64 (p0 * 2)).toNat) ((wi64 ((wi64 (p0 * 2)) + 2)).toNat))))
theorem k86 (p0 : Int) : FnD Tryd.prog GG [0, 2, 4] Tryd.f86 [.int .i64 p0] (g86 p0) (fun r => .str r) := by unfold FnD; kernel_rfl
noncomputable def s86 (p0 : Int) : EV.Spec Tryd.prog GG (ByteArray) := .ofFn 86 mixed Tryd.func86 (k86 p0)
noncomputable def g80 (p0 : Int) (p1 : Int) : TT (ByteArray) :=
 .br 0 (p1 == 10)
 (.cnd 2 [17]
  (.br 2004 (decide ((0 : Int) ≤ p0))
   (.done (decide (p0 < 100)))
   (.done false))
  (fun (c69 : Bool) => [.bool c69]) fun c69 =>
  .br 0 c69
  (.call 3002 (s86 p0) [] [] fun r70 =>
   .done r70)
  (.bind 0
   (.br 0 (decide (p0 < 0))
    (.done (wu64 (0 - (wu64 p0))))
    (.done (wu64 p0)))
   (fun (e71 : Int) => Ext.lit .normal [(0, .int .i64 p0), (1, .int .i64 p1), (4, .str ByteArray.empty), (5, .ptr 5 0 0), (6, .int .u64 e71)] [(5, ⟨24, true, [[.int .u8 0, .int .u8 0, .int .u8 0, .int .u8 0, .int .u8 0, .int .u8 0, .int .u8 0, .int .u8 0, .int .u8 0, .int .u8 0, .int .u8 0, .int .u8 0, .int .u8 0, .int .u8 0, .int .u8 0, .int .u8 0, .int .u8 0, .int .u8 0, .int .u8 0, .int .u8 0, .int .u8 0, .int .u8 0, .int .u8 0, .int .u8 0]]⟩)])
   (fun _ =>
    .fail)))
 (.fail)
theorem k80 (p0 : Int) (p1 : Int) : FnD Tryd.prog GG [0, 1, 4, 5, 6, 7, 9, 11, 17, 23, 34] Tryd.f80 [.int .i64 p0, .int .i64 p1] (g80 p0 p1) (fun r => .str r) := by unfold FnD; kernel_rfl
noncomputable def s80 (p0 : Int) (p1 : Int) : EV.Spec Tryd.prog GG (ByteArray) := .ofFn 80 mixed Tryd.func80 (k80 p0 p1)
noncomputable def g69 (p0 : Int) : TT (ByteArray) :=
 .call 1002 (s80 p0 10) [] [] fun r72 =>
 .done r72
theorem k69 (p0 : Int) : FnD Tryd.prog GG [0, 2] Tryd.f69 [.int .i64 p0] (g69 p0) (fun r => .str r) := by unfold FnD; kernel_rfl
noncomputable def s69 (p0 : Int) : EV.Spec Tryd.prog GG (ByteArray) := .ofFn 69 mixed Tryd.func69 (k69 p0)
noncomputable def g63 (p0 : Int) : TT (ByteArray) :=
 .call 1002 (s69 p0) [] [] fun r73 =>
 .done r73
theorem k63 (p0 : Int) : FnD Tryd.prog GG [0, 2] Tryd.f63 [.int .i64 p0] (g63 p0) (fun r => .str r) := by unfold FnD; kernel_rfl
noncomputable def s63 (p0 : Int) : EV.Spec Tryd.prog GG (ByteArray) := .ofFn 63 mixed Tryd.func63 (k63 p0)
noncomputable def g64 (p0 : ByteArray) : TT (ByteArray) :=
 .opr 1004 (Rule.makeD (ty := ty_u8) (t := 50) (e := 5) (zv := .int .u8 0) (zc := .int .u8 0) (0 : Int) (.const (.int .i64 0)) (.tmp 7) 8 0 (wi64 ((2 : Int) * (p0.size : Int))) 1 (by kernel_rfl) (by kernel_rfl) (by kernel_rfl) rfl ⟨rfl, rfl, rfl⟩ (fun _ _ => by constructor)) fun _ =>
 .gh 1 (.ren 8 600002) (.bind 0
 (.lp (fun (l75 : (List Int) × Int) => Ext.of .normal [(0, .str p0), (2, .str ByteArray.empty), (3, .ref 600002 0 l75.1.length), (4, .int .i64 l75.2)] [] [BT.of 600002 ty_u8 1 l75.1 true] (by rfl))
  (fun l75 =>
   .br 0 (decide (l75.2 < (p0.size : Int)))
   (.chk 5004 (decide (0 ≤ l75.2 ∧ l75.2 < (p0.size : Int))) (.chk 5006 (decide (0 ≤ (wu8 (Int.tdiv (bAt p0 l75.2) 16)) ∧ (wu8 (Int.tdiv (bAt p0 l75.2) 16)) < ((bs [48, 49, 50, 51, 52, 53, 54, 55, 56, 57, 97, 98, 99, 100, 101, 102]).size : Int))) (.chk 5009 (decide (0 ≤ l75.2 ∧ l75.2 < (p0.size : Int))) (.chk 5011 (decide (0 ≤ (Int.tmod (bAt p0 l75.2) 16) ∧ (Int.tmod (bAt p0 l75.2) 16) < ((bs [48, 49, 50, 51, 52, 53, 54, 55, 56, 57, 97, 98, 99, 100, 101, 102]).size : Int))) (.app 5013 ty_u8 l75.1 [(bAt (bs [48, 49, 50, 51, 52, 53, 54, 55, 56, 57, 97, 98, 99, 100, 101, 102]) (wu8 (Int.tdiv (bAt p0 l75.2) 16))), (bAt (bs [48, 49, 50, 51, 52, 53, 54, 55, 56, 57, 97, 98, 99, 100, 101, 102]) (Int.tmod (bAt p0 l75.2) 16))] 1 false (by intro h; cases h) (.gh 0 (.drop [600002]) (.gh 0 (.ren 27 600002) (.done (.inl ((l75.1 ++ [(bAt (bs [48, 49, 50, 51, 52, 53, 54, 55, 56, 57, 97, 98, 99, 100, 101, 102]) (wu8 (Int.tdiv (bAt p0 l75.2) 16))), (bAt (bs [48, 49, 50, 51, 52, 53, 54, 55, 56, 57, 97, 98, 99, 100, 101, 102]) (Int.tmod (bAt p0 l75.2) 16))]), (wi64 (l75.2 + 1))))))))))))
   (.done (.inr l75.1)))
  ([], 0))
 (fun (e76 : (List Int)) => Ext.of (.exit 0) [(2, .str ByteArray.empty), (3, .ref 600002 0 e76.length)] [] [BT.of 600002 ty_u8 1 e76 true] (by rfl))
 (fun e76 =>
  .opr 6002 (Rule.textOf (ty := ty_u8) (s := 50) (t := 9) (e := 5) (.tmp 28) 29 600002 e76 e76.length (by kernel_rfl) (by kernel_rfl) (by kernel_rfl) (by simp) (fun _ => rfl)) fun _ =>
  .done (strOfNums e76)))
theorem k64 (p0 : ByteArray) : FnD Tryd.prog GG [0, 2, 3, 4, 12] Tryd.f64 [.str p0] (g64 p0) (fun r => .str r) := by unfold FnD; kernel_rfl
noncomputable def s64 (p0 : ByteArray) : EV.Spec Tryd.prog GG (ByteArray) := .ofFn 64 mixed Tryd.func64 (k64 p0)
noncomputable def g55 (p0 : Int) (p1 : Int) (p2 : Int) : TT (Int × Int) :=
 .cnd 1 [30]
 (.br 1004 (decide (p0 < 1))
  (.done true)
  (.br 1008 (decide ((4 : Int) < p0))
   (.done true)
   (.br 1012 (decide (p1 < 0))
    (.done true)
    (.br 1016 (decide ((65535 : Int) < p1))
     (.done true)
     (.br 1020 (decide (p2 < 1))
      (.done true)
      (.done (decide ((256 : Int) < p2))))))))
 (fun (c77 : Bool) => [.bool c77]) fun c77 =>
 .br 0 c77
 (.done (0, 2))
 (.ceq 3003 p0 [0, 1, 2, 3, 4] (fun v => bif v == 0 then .br 0 ((wi64 ((wi64 ((wi64 ((0 : Int) + (wi64 ((256 : Int) * p1)))) + 256)) - p2)) == 0)
   (.done (0, 2))
   (.done ((wi64 ((wi64 ((wi64 ((0 : Int) + (wi64 ((256 : Int) * p1)))) + 256)) - p2)), 0)) else bif v == 1 then .br 0 ((wi64 ((wi64 ((wi64 ((2113929216 : Int) + (wi64 ((256 : Int) * p1)))) + 256)) - p2)) == 0)
   (.done (0, 2))
   (.done ((wi64 ((wi64 ((wi64 ((2113929216 : Int) + (wi64 ((256 : Int) * p1)))) + 256)) - p2)), 0)) else bif v == 2 then .br 0 ((wi64 ((wi64 ((wi64 ((1845493760 : Int) + (wi64 ((256 : Int) * p1)))) + 256)) - p2)) == 0)
   (.done (0, 2))
   (.done ((wi64 ((wi64 ((wi64 ((1845493760 : Int) + (wi64 ((256 : Int) * p1)))) + 256)) - p2)), 0)) else bif v == 3 then .br 0 ((wi64 ((wi64 ((wi64 ((1677721600 : Int) + (wi64 ((256 : Int) * p1)))) + 256)) - p2)) == 0)
   (.done (0, 2))
   (.done ((wi64 ((wi64 ((wi64 ((1677721600 : Int) + (wi64 ((256 : Int) * p1)))) + 256)) - p2)), 0)) else bif v == 4 then .br 0 ((wi64 ((wi64 ((wi64 ((0 : Int) + (wi64 ((256 : Int) * p1)))) + 256)) - p2)) == 0)
   (.done (0, 2))
   (.done ((wi64 ((wi64 ((wi64 ((0 : Int) + (wi64 ((256 : Int) * p1)))) + 256)) - p2)), 0)) else .fail))
theorem k55 (p0 : Int) (p1 : Int) (p2 : Int) : FnD Tryd.prog GG [0, 1, 2, 6, 7, 8, 30, 42] Tryd.f55 [.int .i64 p0, .int .i64 p1, .int .i64 p2] (g55 p0 p1 p2) (fun r => .tup [.int .i64 r.1, .int .i64 r.2]) := by unfold FnD; kernel_rfl
noncomputable def s55 (p0 : Int) (p1 : Int) (p2 : Int) : EV.Spec Tryd.prog GG (Int × Int) := .ofFn 55 mixed Tryd.func55 (k55 p0 p1 p2)
noncomputable def g54 (p0 : Int) (p1 : SAddr) (p2 : SAddr) : TT (ByteArray × Int) :=
 .cnd 1 [28]
 (.br 1004 (decide (p0 < 1))
  (.done true)
  (.br 1008 (decide ((4 : Int) < p0))
   (.done true)
   (.call 1009 (s62 p1) [] [] fun r78 =>
    .br 1013 (!r78)
    (.done true)
    (.br 1017 (!((decide (p2.fHost = ByteArray.empty)) && ((p2.fPort == 0) && true)))
     (.call 1018 (s62 p2) [] [] fun r79 =>
      .done (!r79))
     (.done false)))))
 (fun (c80 : Bool) => [.bool c80]) fun c80 =>
 .br 0 c80
 (.done (ByteArray.empty, 2))
 (.call 3002 (s63 p0) [] [] fun r81 =>
  .chk 3003 (decide (r81.size + (bs [45]).size ≤ 9223372036854775807)) (.call 3006 (s64 p1.fHost) [] [] fun r82 =>
  .chk 3007 (decide ((r81 ++ (bs [45])).size + r82.size ≤ 9223372036854775807)) (.chk 3008 (decide (((r81 ++ (bs [45])) ++ r82).size + (bs [45]).size ≤ 9223372036854775807)) (.call 3011 (s64 p2.fHost) [] [] fun r83 =>
  .chk 3012 (decide ((((r81 ++ (bs [45])) ++ r82) ++ (bs [45])).size + r83.size ≤ 9223372036854775807)) (.done (((((r81 ++ (bs [45])) ++ r82) ++ (bs [45])) ++ r83), 0))))))
theorem k54 (p0 : Int) (p1 : SAddr) (p2 : SAddr) : FnD Tryd.prog GG [0, 1, 2, 4, 5, 6, 7, 28] Tryd.f54 [.int .i64 p0, .agg [.str p1.fHost, .int .i64 p1.fPort], .agg [.str p2.fHost, .int .i64 p2.fPort]] (g54 p0 p1 p2) (fun r => .tup [.str r.1, .int .i64 r.2]) := by unfold FnD; kernel_rfl
noncomputable def s54 (p0 : Int) (p1 : SAddr) (p2 : SAddr) : EV.Spec Tryd.prog GG (ByteArray × Int) := .ofFn 54 mixed Tryd.func54 (k54 p0 p1 p2)
noncomputable def g56 (p0 : SCandidate) : TT (Bool) :=
 .cnd 1 [44]
 (.br 1005 (decide (p0.fKind < 1))
  (.done true)
  (.br 1010 (decide ((4 : Int) < p0.fKind))
   (.done true)
   (.br 1015 (decide (p0.fComponent < 1))
    (.done true)
    (.br 1020 (decide ((256 : Int) < p0.fComponent))
     (.done true)
     (.br 1025 (decide (p0.fPriority < 1))
      (.done true)
      (.br 1030 (decide ((2147483647 : Int) < p0.fPriority))
       (.done true)
       (.br 1036 (decide ((p0.fFoundation.size : Int) < 1))
        (.done true)
        (.done (decide ((80 : Int) < (p0.fFoundation.size : Int)))))))))))
 (fun (c86 : Bool) => [.bool c86]) fun c86 =>
 .br 0 c86
 (.done false)
 (.bind2 1
  (.lp (fun (l89 : Int) => Ext.lit .normal [(1, .ptr 1 0 0), (2, .bool false), (3, .int .i64 l89)] [(1, ⟨8, true, [[.int .i64 p0.fKind, .int .i64 p0.fComponent, .int .i64 p0.fPriority, .str p0.fFoundation, .str p0.fAddr.fHost, .int .i64 p0.fAddr.fPort, .str p0.fBase.fHost, .int .i64 p0.fBase.fPort]]⟩)])
   (fun l89 =>
    .br 0 (decide (l89 < (p0.fFoundation.size : Int)))
    (.chk 6004 (decide (0 ≤ l89 ∧ l89 < (p0.fFoundation.size : Int))) (.cnd 7 [75]
     (.br 7004 (decide ((48 : Int) ≤ (bAt p0.fFoundation l89)))
      (.br 7009 (!(decide ((bAt p0.fFoundation l89) ≤ 57)))
       (.br 7012 (decide ((97 : Int) ≤ (bAt p0.fFoundation l89)))
        (.br 7018 (!(decide ((bAt p0.fFoundation l89) ≤ 102)))
         (.done ((bAt p0.fFoundation l89) != 45))
         (.done false))
        (.done ((bAt p0.fFoundation l89) != 45)))
       (.done false))
      (.br 7012 (decide ((97 : Int) ≤ (bAt p0.fFoundation l89)))
       (.br 7018 (!(decide ((bAt p0.fFoundation l89) ≤ 102)))
        (.done ((bAt p0.fFoundation l89) != 45))
        (.done false))
       (.done ((bAt p0.fFoundation l89) != 45))))
     (fun (c90 : Bool) => [.bool c90]) fun c90 =>
     .br 0 c90
     (.done (.inr (.inl ())))
     (.done (.inl (wi64 (l89 + 1))))))
    (.done (.inr (.inr ()))))
   0)
  (fun (_ : Unit) => Ext.lit .ret [(1, .ptr 1 0 0), (2, .bool false)] [(1, ⟨8, true, [[.int .i64 p0.fKind, .int .i64 p0.fComponent, .int .i64 p0.fPriority, .str p0.fFoundation, .str p0.fAddr.fHost, .int .i64 p0.fAddr.fPort, .str p0.fBase.fHost, .int .i64 p0.fBase.fPort]]⟩)])
  (fun (_ : Unit) => Ext.lit (.exit 0) [(1, .ptr 1 0 0), (2, .bool false)] [(1, ⟨8, true, [[.int .i64 p0.fKind, .int .i64 p0.fComponent, .int .i64 p0.fPriority, .str p0.fFoundation, .str p0.fAddr.fHost, .int .i64 p0.fAddr.fPort, .str p0.fBase.fHost, .int .i64 p0.fBase.fPort]]⟩)])
  (fun _ =>
   .done false)
  (fun _ =>
   .cnd 9 [96]
   (.call 9003 (s62 p0.fAddr) [] [] fun r93 =>
    .br 9006 (!r93)
    (.done true)
    (.call 9008 (s62 p0.fBase) [] [] fun r94 =>
     .br 9012 (!r94)
     (.done true)
     (.done ((p0.fAddr.fHost.size : Int) != (p0.fBase.fHost.size : Int)))))
   (fun (c95 : Bool) => [.bool c95]) fun c95 =>
   .br 0 c95
   (.done false)
   (.cnd 11 [2]
    (.br 11007 ((decide (p0.fAddr.fHost = p0.fBase.fHost)) && ((p0.fAddr.fPort == p0.fBase.fPort) && true))
     (.done true)
     (.br 11011 (p0.fKind != 1)
      (.done (p0.fKind != 4))
      (.done false)))
    (fun (c96 : Bool) => [.bool c96]) fun c96 =>
    .done c96)))
theorem k56 (p0 : SCandidate) : FnD Tryd.prog GG [0, 1, 2, 3, 4, 44, 49, 75, 96] Tryd.f56 [.agg [.int .i64 p0.fKind, .int .i64 p0.fComponent, .int .i64 p0.fPriority, .str p0.fFoundation, .str p0.fAddr.fHost, .int .i64 p0.fAddr.fPort, .str p0.fBase.fHost, .int .i64 p0.fBase.fPort]] (g56 p0) (fun r => .bool r) := by unfold FnD; kernel_rfl
noncomputable def s56 (p0 : SCandidate) : EV.Spec Tryd.prog GG (Bool) := .ofFn 56 mixed Tryd.func56 (k56 p0)
noncomputable def g36 (p0 : Int) (p1 : SAddr) (p2 : SAddr) (p3 : SAddr) (p4 : Int) (p5 : Int) : TT (SCandidate × Int) :=
 .call 1004 (s54 p0 p2 p3) [] [] fun r84 =>
 .br 0 (r84.2 != 0)
 (.done ((SCandidate.mk 0 0 0 ByteArray.empty (SAddr.mk ByteArray.empty 0) (SAddr.mk ByteArray.empty 0)), r84.2))
 (.call 4004 (s55 p0 p4 p5) [] [] fun r85 =>
  .br 0 (r85.2 != 0)
  (.done ((SCandidate.mk 0 0 0 ByteArray.empty (SAddr.mk ByteArray.empty 0) (SAddr.mk ByteArray.empty 0)), r85.2))
  (.call 8002 (s56 (SCandidate.mk p0 p5 r85.1 r84.1 p1 p2)) [] [] fun r97 =>
   .br 0 (!r97)
   (.done ((SCandidate.mk 0 0 0 ByteArray.empty (SAddr.mk ByteArray.empty 0) (SAddr.mk ByteArray.empty 0)), 90))
   (.done ((SCandidate.mk p0 p5 r85.1 r84.1 p1 p2), 0))))
theorem k36 (p0 : Int) (p1 : SAddr) (p2 : SAddr) (p3 : SAddr) (p4 : Int) (p5 : Int) : FnD Tryd.prog GG [0, 1, 2, 3, 4, 5, 7, 8, 9, 12, 13, 14, 15, 16, 17, 26, 37, 49] Tryd.f36 [.int .i64 p0, .agg [.str p1.fHost, .int .i64 p1.fPort], .agg [.str p2.fHost, .int .i64 p2.fPort], .agg [.str p3.fHost, .int .i64 p3.fPort], .int .i64 p4, .int .i64 p5] (g36 p0 p1 p2 p3 p4 p5) (fun r => .tup [.agg [.int .i64 r.1.fKind, .int .i64 r.1.fComponent, .int .i64 r.1.fPriority, .str r.1.fFoundation, .str r.1.fAddr.fHost, .int .i64 r.1.fAddr.fPort, .str r.1.fBase.fHost, .int .i64 r.1.fBase.fPort], .int .i64 r.2]) := by unfold FnD; kernel_rfl
noncomputable def s36 (p0 : Int) (p1 : SAddr) (p2 : SAddr) (p3 : SAddr) (p4 : Int) (p5 : Int) : EV.Spec Tryd.prog GG (SCandidate × Int) := .ofFn 36 mixed Tryd.func36 (k36 p0 p1 p2 p3 p4 p5)
noncomputable def g22 (p0 : SDraft) : TT (SCandidate) :=
 .call 2003 (s46 p0.fAddr) [] [] fun r98 =>
 .call 2006 (s46 p0.fBase) [] [] fun r99 =>
 .cnd 3 [35]
 (.br 3004 ((wi64 ((1 : Int) + (wi64 (Int.tmod p0.fKind 4)))) == 1)
  (.done true)
  (.br 3008 ((wi64 ((1 : Int) + (wi64 (Int.tmod p0.fKind 4)))) == 4)
   (.done true)
   (.done ((r99.fHost.size : Int) != (r98.fHost.size : Int)))))
 (fun (c100 : Bool) => [.bool c100]) fun c100 =>
 .bind 0
 (.br 0 c100
  (.done (r98.fHost, r98.fPort))
  (.done (r99.fHost, r99.fPort)))
 (fun (e101 : ByteArray × Int) => Ext.lit .normal [(1, .ptr 1 0 0), (2, .ptr 2 0 0), (3, .int .i64 (wi64 ((1 : Int) + (wi64 (Int.tmod p0.fKind 4))))), (4, .ptr 4 0 0), (5, .ptr 5 0 0), (6, .ptr 6 0 0)] [(1, ⟨6, true, [[.int .u8 p0.fKind, .int .u8 p0.fComponent, .int .u8 p0.fAddr, .int .u8 p0.fBase, .int .u8 p0.fServer, .int .u16 p0.fPreference]]⟩), (2, ⟨8, true, [[.int .i64 0, .int .i64 0, .int .i64 0, .str ByteArray.empty, .str ByteArray.empty, .int .i64 0, .str ByteArray.empty, .int .i64 0]]⟩), (4, ⟨2, true, [[.str r98.fHost, .int .i64 r98.fPort]]⟩), (5, ⟨2, true, [[.str e101.1, .int .i64 e101.2]]⟩), (6, ⟨2, true, [[.str ByteArray.empty, .int .i64 0]]⟩)])
 (fun e101 =>
  .cnd 5 [42]
  (.br 5004 ((wi64 ((1 : Int) + (wi64 (Int.tmod p0.fKind 4)))) == 3)
   (.done true)
   (.done ((wi64 ((1 : Int) + (wi64 (Int.tmod p0.fKind 4)))) == 4)))
  (fun (c102 : Bool) => [.bool c102]) fun c102 =>
  .bind 0
  (.br 0 c102
   (.call 6003 (s46 p0.fServer) [] [] fun r103 =>
    .done (r103.fHost, r103.fPort))
   (.done (ByteArray.empty, 0)))
  (fun (e104 : ByteArray × Int) => Ext.lit .normal [(1, .ptr 1 0 0), (2, .ptr 2 0 0), (3, .int .i64 (wi64 ((1 : Int) + (wi64 (Int.tmod p0.fKind 4))))), (4, .ptr 4 0 0), (5, .ptr 5 0 0), (6, .ptr 6 0 0)] [(1, ⟨6, true, [[.int .u8 p0.fKind, .int .u8 p0.fComponent, .int .u8 p0.fAddr, .int .u8 p0.fBase, .int .u8 p0.fServer, .int .u16 p0.fPreference]]⟩), (2, ⟨8, true, [[.int .i64 0, .int .i64 0, .int .i64 0, .str ByteArray.empty, .str ByteArray.empty, .int .i64 0, .str ByteArray.empty, .int .i64 0]]⟩), (4, ⟨2, true, [[.str r98.fHost, .int .i64 r98.fPort]]⟩), (5, ⟨2, true, [[.str e101.1, .int .i64 e101.2]]⟩), (6, ⟨2, true, [[.str e104.1, .int .i64 e104.2]]⟩)])
  (fun e104 =>
   .call 7015 (s36 (wi64 ((1 : Int) + (wi64 (Int.tmod p0.fKind 4)))) r98 (SAddr.mk e101.1 e101.2) (SAddr.mk e104.1 e104.2) (wi64 ((1 : Int) + (Int.tmod (wi64 p0.fPreference) 65535))) (wi64 ((1 : Int) + (wi64 (Int.tmod p0.fComponent 2))))) [] [] fun r105 =>
   .done r105.1))
theorem k22 (p0 : SDraft) : FnD Tryd.prog GG [0, 1, 2, 3, 4, 5, 6, 7, 35, 42] Tryd.f22 [.agg [.int .u8 p0.fKind, .int .u8 p0.fComponent, .int .u8 p0.fAddr, .int .u8 p0.fBase, .int .u8 p0.fServer, .int .u16 p0.fPreference]] (g22 p0) (fun r => .agg [.int .i64 r.fKind, .int .i64 r.fComponent, .int .i64 r.fPriority, .str r.fFoundation, .str r.fAddr.fHost, .int .i64 r.fAddr.fPort, .str r.fBase.fHost, .int .i64 r.fBase.fPort]) := by unfold FnD; kernel_rfl
noncomputable def s22 (p0 : SDraft) : EV.Spec Tryd.prog GG (SCandidate) := .ofFn 22 mixed Tryd.func22 (k22 p0)
noncomputable def g15 (p0 : Int) (p1 : Int) (p2 : Int) : TT (SCandidate) :=
 .call 2005 (s36 1 (SAddr.mk (strOfNums [10, 0, 0, p0]) p1) (SAddr.mk (strOfNums [10, 0, 0, p0]) p1) (SAddr.mk ByteArray.empty 0) p2 1) [] [] fun r106 =>
 .done r106.1
theorem k15 (p0 : Int) (p1 : Int) (p2 : Int) : FnD Tryd.prog GG [0, 1, 2, 6, 7, 8] Tryd.f15 [.int .u8 p0, .int .i64 p1, .int .i64 p2] (g15 p0 p1 p2) (fun r => .agg [.int .i64 r.fKind, .int .i64 r.fComponent, .int .i64 r.fPriority, .str r.fFoundation, .str r.fAddr.fHost, .int .i64 r.fAddr.fPort, .str r.fBase.fHost, .int .i64 r.fBase.fPort]) := by unfold FnD; kernel_rfl
noncomputable def s15 (p0 : Int) (p1 : Int) (p2 : Int) : EV.Spec Tryd.prog GG (SCandidate) := .ofFn 15 mixed Tryd.func15 (k15 p0 p1 p2)
noncomputable def g7 (p0 : (List SDraft)) (p1 : Int) : TT ((List SCandidate)) :=
 .gh 1 (.virt 600004 5 8) (.bind 0
 (.lp (fun (l111 : (List SCandidate) × Int) => Ext.of .normal [(0, .sl false 6 (List.map tySDraft.c p0)), (1, .int .i64 p1), (4, .nilsl), (5, .ref 600004 0 l111.1.length), (6, .int .i64 l111.2)] [] [BT.of 600004 tySCandidate 8 l111.1 true] (by rfl))
  (fun l111 =>
   .cnd 3 [15]
   (.br 3006 (decide (l111.2 < (mlen tySDraft p0)))
    (.done (decide (l111.2 < p1)))
    (.done false))
   (fun (c112 : Bool) => [.bool c112]) fun c112 =>
   .br 0 c112
   (.row 5004 tySDraft p0 l111.2.toNat (decide (0 ≤ l111.2)) fun x113 =>
    .call 5006 (s22 x113) [] [] fun r114 =>
    .app 5008 tySCandidate l111.1 [r114] 88 false (by intro h; cases h) (.gh 0 (.drop [600004]) (.gh 0 (.ren 25 600004) (.done (.inl ((l111.1 ++ [r114]), (wi64 (l111.2 + 1))))))))
   (.done (.inr l111.1)))
  ([], 0))
 (fun (e115 : (List SCandidate)) => Ext.of (.exit 0) [(4, .nilsl), (5, .ref 600004 0 e115.length)] [] [BT.of 600004 tySCandidate 8 e115 true] (by rfl))
 (fun e115 =>
  .gh 0 (.share (VwW.of 600004 tySCandidate e115) 1) (.done e115)))
theorem k7 (p0 : (List SDraft)) (p1 : Int) : FnD Tryd.prog GG [0, 1, 4, 5, 6, 15] Tryd.f7 [.sl false 6 (List.map tySDraft.c p0), .int .i64 p1] (g7 p0 p1) (fun r => .sl false 8 (List.map tySCandidate.c r)) := by unfold FnD; kernel_rfl
noncomputable def s7 (p0 : (List SDraft)) (p1 : Int) : EV.Spec Tryd.prog GG ((List SCandidate)) := .ofFn 7 mixed Tryd.func7 (k7 p0 p1)
end Go.Proofs.YtioobnkmohikjaaDoor
namespace Go.Proofs.YtioobnkmohikjaaDoor
open Go Go.EV
set_option maxRecDepth 100000
end Go.Proofs.YtioobnkmohikjaaDoor
namespace Go.Proofs.YtioobnkmohikjaaDoor
open Go Go.EV
set_option maxRecDepth 100000
structure SEnt76 where
 fk : SLike
 fv : Bool
structure SEnt94 where
 fk : S2String
 fv : Bool
def tySEnt76 : Ty SEnt76 := ⟨fun x => [.str x.fk.fbase.fHost, .int .i64 x.fk.fbase.fPort, .str x.fk.faddr.fHost, .int .i64 x.fk.faddr.fPort, .int .i64 x.fk.fcomponent, .bool x.fv], fun x => [.str x.fk.fbase.fHost, .int .i64 x.fk.fbase.fPort, .str x.fk.faddr.fHost, .int .i64 x.fk.faddr.fPort, .int .i64 x.fk.fcomponent, .bool x.fv], fun _ => rfl, fun _ => rfl, fun _ _ => rfl, fun _ => rfl⟩
def tySEnt94 : Ty SEnt94 := ⟨fun x => [.str x.fk.a0, .str x.fk.a1, .bool x.fv], fun x => [.str x.fk.a0, .str x.fk.a1, .bool x.fv], fun _ => rfl, fun _ => rfl, fun _ _ => rfl, fun _ => rfl⟩
noncomputable def g48 (p0 : SCandidate) : TT (Bool) :=
 .call 1002 (s49 p0) [] [] fun r131 =>
 .done (r131 != 0)
theorem k48 (p0 : SCandidate) : FnD Tryd.prog GG [0, 1, 2] Tryd.f48 [.agg [.int .i64 p0.fKind, .int .i64 p0.fComponent, .int .i64 p0.fPriority, .str p0.fFoundation, .str p0.fAddr.fHost, .int .i64 p0.fAddr.fPort, .str p0.fBase.fHost, .int .i64 p0.fBase.fPort]] (g48 p0) (fun r => .bool r) := by unfold FnD; kernel_rfl
noncomputable def s48 (p0 : SCandidate) : EV.Spec Tryd.prog GG (Bool) := .ofFn 48 mixed Tryd.func48 (k48 p0)
noncomputable def g58 (p0 : (List SCandidate)) : TT (Int) :=
 .bind2 1
 (.lp (fun (l132 : Int) => Ext.lit .normal [(0, .sl false 8 (List.map tySCandidate.c p0)), (1, .fn 48 [] []), (4, .int .i64 0), (7, .int .i64 (mlen tySCandidate p0)), (8, .int .i64 l132)] [])
  (fun l132 =>
   .br 0 (decide (l132 < (mlen tySCandidate p0)))
   (.row 4004 tySCandidate p0 l132.toNat (decide (0 ≤ l132)) fun x133 =>
    .call 4006 (s48 x133) [] [] fun r134 =>
    .br 0 r134
    (.done (.inr (.inl l132)))
    (.done (.inl (wi64 (l132 + 1)))))
   (.done (.inr (.inr ()))))
  0)
 (fun (e135 : Int) => Ext.lit .ret [(4, .int .i64 e135)] [])
 (fun (_ : Unit) => Ext.lit (.exit 0) [(4, .int .i64 0)] [])
 (fun e135 =>
  .done e135)
 (fun _ =>
  .done (-1))
theorem k58 (p0 : (List SCandidate)) : FnD Tryd.prog GG [0, 1, 4, 5, 7, 8, 9, 16] Tryd.f58 [.sl false 8 (List.map tySCandidate.c p0), .fn 48 [] []] (g58 p0) (fun r => .int .i64 r) := by unfold FnD; kernel_rfl
noncomputable def s58 (p0 : (List SCandidate)) : EV.Spec Tryd.prog GG (Int) := .ofFn 58 mixed Tryd.func58 (k58 p0)
noncomputable def g47 (p0 : (List SCandidate)) : TT (Bool) :=
 .call 1003 (s58 p0) [] [] fun r137 =>
 .done (decide ((0 : Int) ≤ r137))
theorem k47 (p0 : (List SCandidate)) : FnD Tryd.prog GG [0, 1, 4] Tryd.f47 [.sl false 8 (List.map tySCandidate.c p0), .fn 48 [] []] (g47 p0) (fun r => .bool r) := by unfold FnD; kernel_rfl
noncomputable def s47 (p0 : (List SCandidate)) : EV.Spec Tryd.prog GG (Bool) := .ofFn 47 mixed Tryd.func47 (k47 p0)
noncomputable def g23 (p0 : (List SCandidate)) : TT (Bool) :=
 .call 1002 (s47 p0) [] [] fun r138 =>
 .done (!r138)
theorem k23 (p0 : (List SCandidate)) : FnD Tryd.prog GG [0, 2] Tryd.f23 [.sl false 8 (List.map tySCandidate.c p0)] (g23 p0) (fun r => .bool r) := by unfold FnD; kernel_rfl
noncomputable def s23 (p0 : (List SCandidate)) : EV.Spec Tryd.prog GG (Bool) := .ofFn 23 mixed Tryd.func23 (k23 p0)
noncomputable def g37 (p0 : SPair) : TT (Int) :=
 .done p0.fPriority
theorem k37 (p0 : SPair) : FnD Tryd.prog GG [0, 1, 2] Tryd.f37 [.agg [.int .i64 p0.fLocal, .int .i64 p0.fRemote, .int .i64 p0.fPriority, .int .i64 p0.fState]] (g37 p0) (fun r => .int .i64 r) := by unfold FnD; kernel_rfl
noncomputable def s37 (p0 : SPair) : EV.Spec Tryd.prog GG (Int) := .ofFn 37 mixed Tryd.func37 (k37 p0)
noncomputable def g39 (p0 : SPair) : TT (Bool) :=
 .done (p0.fState == 1)
theorem k39 (p0 : SPair) : FnD Tryd.prog GG [0, 1, 2] Tryd.f39 [.agg [.int .i64 p0.fLocal, .int .i64 p0.fRemote, .int .i64 p0.fPriority, .int .i64 p0.fState]] (g39 p0) (fun r => .bool r) := by unfold FnD; kernel_rfl
noncomputable def s39 (p0 : SPair) : EV.Spec Tryd.prog GG (Bool) := .ofFn 39 mixed Tryd.func39 (k39 p0)
noncomputable def g41 (p0 : SPair) : TT (Bool) :=
 .done (decide (p0.fState < 3))
theorem k41 (p0 : SPair) : FnD Tryd.prog GG [0, 1, 2] Tryd.f41 [.agg [.int .i64 p0.fLocal, .int .i64 p0.fRemote, .int .i64 p0.fPriority, .int .i64 p0.fState]] (g41 p0) (fun r => .bool r) := by unfold FnD; kernel_rfl
noncomputable def s41 (p0 : SPair) : EV.Spec Tryd.prog GG (Bool) := .ofFn 41 mixed Tryd.func41 (k41 p0)
noncomputable def g43 (p0 : SPlanner) : TT (Bool) :=
 .cnd 1 [48]
 (.br 1009 (decide ((12 : Int) < (mlen tySCandidate p0.fList.fLocals)))
  (.done true)
  (.br 1018 (decide ((12 : Int) < (mlen tySCandidate p0.fList.fRemotes)))
   (.done true)
   (.br 1027 (decide ((36 : Int) < (mlen tySPair p0.fList.fPairs)))
    (.done true)
    (.call 1032 (s23 p0.fList.fLocals) [] [] fun r139 =>
     .br 1036 (!r139)
     (.done true)
     (.call 1041 (s23 p0.fList.fRemotes) [] [] fun r140 =>
      .done (!r140))))))
 (fun (c141 : Bool) => [.bool c141]) fun c141 =>
 .br 0 c141
 (.done false)
 (.opr 3001 (Rule.makeMap 76 49 1114373 (by decide)) fun _ =>
  .bind2 1
  (.lp (fun (l152 : (List SEnt76) × Int) => Ext.of .normal [(0, .snap [.bool p0.fList.fControlling, .sl false 8 (List.map tySCandidate.c p0.fList.fLocals), .sl false 8 (List.map tySCandidate.c p0.fList.fRemotes), .sl false 4 (List.map tySPair.c p0.fList.fPairs)]), (2, .bool false), (3, .mp 49), (54, .sl false 4 (List.map tySPair.c p0.fList.fPairs)), (55, .int .i64 (mlen tySPair p0.fList.fPairs)), (56, .int .i64 l152.2)] [] [BT.of 49 tySEnt76 1114373 l152.1 true] (by rfl))
   (fun l152 =>
    .br 0 (decide (l152.2 < (mlen tySPair p0.fList.fPairs)))
    (.row 6001 tySPair p0.fList.fPairs l152.2.toNat (decide (0 ≤ l152.2)) fun x153 =>
     .cnd 7 [99]
     (.br 7005 (decide (x153.fLocal < 0))
      (.done true)
      (.br 7016 (decide ((mlen tySCandidate p0.fList.fLocals) ≤ x153.fLocal))
       (.done true)
       (.br 7021 (decide (x153.fRemote < 0))
        (.done true)
        (.br 7032 (decide ((mlen tySCandidate p0.fList.fRemotes) ≤ x153.fRemote))
         (.done true)
         (.br 7037 (decide (x153.fState < 0))
          (.done true)
          (.done (decide ((4 : Int) < x153.fState))))))))
     (fun (c154 : Bool) => [.bool c154]) fun c154 =>
     .br 0 c154
     (.done (.inr (.inl ())))
     (.cnd 9 [134]
      (.row 9008 tySCandidate p0.fList.fLocals x153.fLocal.toNat (decide (0 ≤ x153.fLocal)) fun x155 =>
       .row 9017 tySCandidate p0.fList.fRemotes x153.fRemote.toNat (decide (0 ≤ x153.fRemote)) fun x156 =>
       .call 9019 (s50 x155 x156) [] [] fun r157 =>
       .br 9022 (!r157)
       (.done true)
       (.call 9026 (s35 p0 x153) [] [] fun r158 =>
        .br 9030 (x153.fPriority != r158)
        (.done true)
        (.call 9033 (s29 p0 x153) [] [] fun r159 =>
         .opr 9034 (Rule.look (mt := 76) (kt := 78) (et := 4) (z := 1114373) (ty := tySEnt76) (p := (fun x => ((decide (r159.fbase.fHost = x.fk.fbase.fHost)) && ((r159.fbase.fPort == x.fk.fbase.fPort) && ((decide (r159.faddr.fHost = x.fk.faddr.fHost)) && ((r159.faddr.fPort == x.fk.faddr.fPort) && ((r159.fcomponent == x.fk.fcomponent) && true))))))) (kc := [.str r159.fbase.fHost, .int .i64 r159.fbase.fPort, .str r159.faddr.fHost, .int .i64 r159.faddr.fPort, .int .i64 r159.fcomponent]) (.tmp 129) (.tmp 132) 133 49 true l152.1 (.bool false) (.bool (mlook l152.1 (fun x => ((decide (r159.fbase.fHost = x.fk.fbase.fHost)) && ((r159.fbase.fPort == x.fk.fbase.fPort) && ((decide (r159.faddr.fHost = x.fk.faddr.fHost)) && ((r159.faddr.fPort == x.fk.faddr.fPort) && ((r159.fcomponent == x.fk.fcomponent) && true)))))) (fun x => x.fv) false)) ⟨by kernel_rfl, by kernel_rfl, by kernel_rfl, fun _ => by kernel_rfl⟩ (by kernel_rfl) (mlook_map _ _ (fun x : SEnt76 => x.fv) false V.bool)) fun _ =>
         .done (mlook l152.1 (fun x => ((decide (r159.fbase.fHost = x.fk.fbase.fHost)) && ((r159.fbase.fPort == x.fk.fbase.fPort) && ((decide (r159.faddr.fHost = x.fk.faddr.fHost)) && ((r159.faddr.fPort == x.fk.faddr.fPort) && ((r159.fcomponent == x.fk.fcomponent) && true)))))) (fun x => x.fv) false))))
      (fun (c160 : Bool) => [.bool c160]) fun c160 =>
      .br 0 c160
      (.done (.inr (.inl ())))
      (.call 11004 (s29 p0 x153) [] [] fun r161 =>
       .opr 11005 (Rule.put (mt := 76) (kt := 78) (et := 4) (z := 1114373) (ty := tySEnt76) (p := (fun x => ((decide (r161.fbase.fHost = x.fk.fbase.fHost)) && ((r161.fbase.fPort == x.fk.fbase.fPort) && ((decide (r161.faddr.fHost = x.fk.faddr.fHost)) && ((r161.faddr.fPort == x.fk.faddr.fPort) && ((r161.fcomponent == x.fk.fcomponent) && true))))))) (kc := [.str r161.fbase.fHost, .int .i64 r161.fbase.fPort, .str r161.faddr.fHost, .int .i64 r161.faddr.fPort, .int .i64 r161.fcomponent]) (.tmp 135) (.tmp 138) (.const (.bool true)) 49 l152.1 (SEnt76.mk r161 true) [.bool true] ⟨by kernel_rfl, by kernel_rfl, by kernel_rfl, fun _ => by kernel_rfl⟩ (by rfl) (by kernel_rfl) (by kernel_rfl) (by decide) (by decide)) fun _ =>
       .done (.inl ((mput l152.1 (fun x => ((decide (r161.fbase.fHost = x.fk.fbase.fHost)) && ((r161.fbase.fPort == x.fk.fbase.fPort) && ((decide (r161.faddr.fHost = x.fk.faddr.fHost)) && ((r161.faddr.fPort == x.fk.faddr.fPort) && ((r161.fcomponent == x.fk.fcomponent) && true)))))) (SEnt76.mk r161 true)), (wi64 (l152.2 + 1)))))))
    (.done (.inr (.inr ()))))
   ([], 0))
  (fun (e162 : Unit) => Ext.lit .ret [(2, .bool false)] [])
  (fun (e163 : Unit) => Ext.lit (.exit 0) [(2, .bool false)] [])
  (fun e162 =>
   .done false)
  (fun e163 =>
   .done true))
theorem k43 (p0 : SPlanner) : FnD Tryd.prog GG [0, 2, 3, 5, 48, 54, 55, 56, 57, 99, 134] Tryd.f43 [.snap [.bool p0.fList.fControlling, .sl false 8 (List.map tySCandidate.c p0.fList.fLocals), .sl false 8 (List.map tySCandidate.c p0.fList.fRemotes), .sl false 4 (List.map tySPair.c p0.fList.fPairs)]] (g43 p0) (fun r => .bool r) := by unfold FnD; kernel_rfl
noncomputable def s43 (p0 : SPlanner) : EV.Spec Tryd.prog GG (Bool) := .ofFn 43 mixed Tryd.func43 (k43 p0)
noncomputable def g53 (p0 : (List SPair)) : TT Unit := .app 3003 tySPair [] p0 32 true (by intros; rfl) (.done ())
theorem k53y : Piece Tryd.prog GG [2] 8 (cloneYes Tryd.f53.body) (Ext.lit .normal [(2, .nilsl)] []) (.done () : TT Unit) (fun _ => Ext.lit .ret [(2, .nilsl)] []) := by unfold Piece; kernel_rfl
theorem k53r (p0 : (List SPair)) : Piece Tryd.prog GG [0, 2, 5, 6, 7] 8 (cloneRest Tryd.f53.body) (Ext.lit .normal [(0, .sl false 4 (List.map tySPair.c p0)), (2, .nilsl)] []) (g53 p0) (fun _ => Ext.of .ret [(2, .ref 7 0 ([] ++ p0).length)] [] [BT.of 7 tySPair 4 ([] ++ p0)] (by rfl)) := by unfold Piece; kernel_rfl
theorem k53 (p0 : (List SPair)) {r : Unit} (h : (g53 p0).run = some r) : CallC Tryd.prog GG 53 [.sl false 4 (List.map tySPair.c p0)] (ofL []) (.ref 7 0 p0.length) (ofL [(7, ⟨4, true, List.map tySPair.c p0⟩)]) :=
 clone_ok (ty := tySPair) (ops0 := cloneOps0 Tryd.f53.body) (ops1 := cloneOps1 Tryd.f53.body) (yes := cloneYes Tryd.f53.body) (rest := cloneRest Tryd.f53.body) (t := 29) mixed (by decide) Tryd.func53 (by kernel_rfl) (by kernel_rfl) (by kernel_rfl) (by kernel_rfl) (by kernel_rfl) (by kernel_rfl) (by kernel_rfl) (by kernel_rfl) (by kernel_rfl) k53y (k53r p0) (by rfl) h
noncomputable def s53 (p0 : (List SPair)) : EV.Spec Tryd.prog GG Unit := ⟨53, [.sl false 4 (List.map tySPair.c p0)], [], (g53 p0).run, fun _ => .ref 7 0 p0.length, fun _ => [(7, ⟨4, true, List.map tySPair.c p0⟩)], [7], fun _ p hp _ => by
 rw [List.mem_singleton.1 hp]; exact tySPair.data _, fun _ h => k53 p0 h⟩
noncomputable def g34 (p0 : SList) : TT ((Unit) ⊕ (Unit)) :=
 .view 2002 (s43 (SPlanner.mk p0)) [] fun r164 =>
 .br 0 (!r164)
 (.done (.inl ()))
 (.call 4004 (s53 p0.fPairs) [] [(7, 500007)] fun _ =>
  .done (.inr ()))
theorem k34 (p0 : SList) : FnB Tryd.prog GG [0, 1, 2, 3, 4, 10] Tryd.f34 [.agg [.bool p0.fControlling, .sl false 8 (List.map tySCandidate.c p0.fLocals), .sl false 8 (List.map tySCandidate.c p0.fRemotes), .sl false 4 (List.map tySPair.c p0.fPairs)]] (Ext.of .normal (argTs [.agg [.bool p0.fControlling, .sl false 8 (List.map tySCandidate.c p0.fLocals), .sl false 8 (List.map tySCandidate.c p0.fRemotes), .sl false 4 (List.map tySPair.c p0.fPairs)]]) [] [] (by rfl)) (g34 p0) (Sum.elim (fun (_ : Unit) => .tup [.nilp, .int .i64 100]) (fun (_ : Unit) => .tup [.ptr 7 0 0, .int .i64 0])) (Sum.elim (fun (_ : Unit) => Ext.of .normal [] [] [] (by rfl)) (fun (_ : Unit) => Ext.of .normal [] [(7, ⟨4, true, [[.bool p0.fControlling, .sl false 8 (List.map tySCandidate.c p0.fLocals), .sl false 8 (List.map tySCandidate.c p0.fRemotes), .ref 500007 0 p0.fPairs.length]]⟩)] [BT.of 500007 tySPair 4 p0.fPairs true] (by rfl))) := by unfold FnB; kernel_rfl
noncomputable def s34 (p0 : SList) : EV.Spec Tryd.prog GG ((Unit) ⊕ (Unit)) := .ofFnB 34 [500007] mixed Tryd.func34 rfl (fun r => by cases r <;> rfl) (k34 p0)
noncomputable def g19 (p0 : SList) : TT (Int) :=
 .view 2002 (s43 (SPlanner.mk p0)) [] fun r166 =>
 .br 0 (!r166)
 (.done 100)
 (.done 0)
theorem k19 (p0 : SList) : FnD Tryd.prog GG [0, 1, 2, 3, 9] Tryd.f19 [.agg [.bool p0.fControlling, .sl false 8 (List.map tySCandidate.c p0.fLocals), .sl false 8 (List.map tySCandidate.c p0.fRemotes), .sl false 4 (List.map tySPair.c p0.fPairs)]] (g19 p0) (fun r => .int .i64 r) := by unfold FnD; kernel_rfl
noncomputable def s19 (p0 : SList) : EV.Spec Tryd.prog GG (Int) := .ofFn 19 mixed Tryd.func19 (k19 p0)
noncomputable def g38 (p0 : (List SPair)) : TT (Int) :=
 .bind 1
 (.lp (fun (l173 : Int × Int) => Ext.lit .normal [(0, .sl false 4 (List.map tySPair.c p0)), (1, .fn 39 [] []), (2, .fn 37 [] []), (6, .int .i64 0), (7, .int .i64 l173.1), (10, .sl false 4 (List.map tySPair.c p0)), (11, .int .i64 (mlen tySPair p0)), (12, .int .i64 l173.2)] [])
  (fun l173 =>
   .br 0 (decide (l173.2 < (mlen tySPair p0)))
   (.row 4002 tySPair p0 l173.2.toNat (decide (0 ≤ l173.2)) fun x174 =>
    .cnd 5 [35]
    (.call 5003 (s39 x174) [] [] fun r175 =>
     .br 5005 r175
     (.br 5008 (decide (l173.1 < 0))
      (.done true)
      (.call 5010 (s37 x174) [] [] fun r176 =>
       .row 5014 tySPair p0 l173.1.toNat (decide (0 ≤ l173.1)) fun x177 =>
       .call 5016 (s37 x177) [] [] fun r178 =>
       .done (decide (r178 < r176))))
     (.done false))
    (fun (c179 : Bool) => [.bool c179]) fun c179 =>
    .br 0 c179
    (.done (.inl (l173.2, (wi64 (l173.2 + 1)))))
    (.done (.inl (l173.1, (wi64 (l173.2 + 1))))))
   (.done (.inr l173.1)))
  ((-1), 0))
 (fun (e180 : Int) => Ext.lit (.exit 0) [(6, .int .i64 0), (7, .int .i64 e180)] [])
 (fun e180 =>
  .done e180)
theorem k38 (p0 : (List SPair)) : FnD Tryd.prog GG [0, 1, 2, 6, 7, 8, 9, 10, 11, 12, 13, 35] Tryd.f38 [.sl false 4 (List.map tySPair.c p0), .fn 39 [] [], .fn 37 [] []] (g38 p0) (fun r => .int .i64 r) := by unfold FnD; kernel_rfl
noncomputable def s38 (p0 : (List SPair)) : EV.Spec Tryd.prog GG (Int) := .ofFn 38 mixed Tryd.func38 (k38 p0)
noncomputable def g40 (p0 : SPair) (p1 : (List SEnt94)) (p2 : Bool) (p3 : (List SCandidate)) (p4 : (List SCandidate)) (p5 : (List SPair)) : TT (Bool) :=
 .cnd 1 [4]
 (.br 1005 (p0.fState == 0)
  (.view 1008 (s30 (SPlanner.mk (SList.mk p2 p3 p4 p5)) p0) [(VwW.of 1000004 tySPair p5)] fun r191 =>
   .opr 1009 (Rule.look (mt := 94) (kt := 81) (et := 4) (z := 1114370) (ty := tySEnt94) (p := (fun x => ((decide (r191.a0 = x.fk.a0)) && ((decide (r191.a1 = x.fk.a1)) && true)))) (kc := [.str r191.a0, .str r191.a1]) (.tmp 9) (.tmp 12) 13 1000002 true p1 (.bool false) (.bool (mlook p1 (fun x => ((decide (r191.a0 = x.fk.a0)) && ((decide (r191.a1 = x.fk.a1)) && true))) (fun x => x.fv) false)) ⟨by kernel_rfl, by kernel_rfl, by kernel_rfl, fun _ => by kernel_rfl⟩ (by kernel_rfl) (mlook_map _ _ (fun x : SEnt94 => x.fv) false V.bool)) fun _ =>
   .done (!(mlook p1 (fun x => ((decide (r191.a0 = x.fk.a0)) && ((decide (r191.a1 = x.fk.a1)) && true))) (fun x => x.fv) false)))
  (.done false))
 (fun (c192 : Bool) => [.bool c192]) fun c192 =>
 .done c192
theorem k40 (p0 : SPair) (p1 : (List SEnt94)) (p2 : Bool) (p3 : (List SCandidate)) (p4 : (List SCandidate)) (p5 : (List SPair)) : FnB Tryd.prog GG [0, 1, 2, 3, 4] Tryd.f40 [.agg [.int .i64 p0.fLocal, .int .i64 p0.fRemote, .int .i64 p0.fPriority, .int .i64 p0.fState], .ptr 1000000 0 0, .ptr 1000001 0 0] (Ext.of .normal (argTs [.agg [.int .i64 p0.fLocal, .int .i64 p0.fRemote, .int .i64 p0.fPriority, .int .i64 p0.fState], .ptr 1000000 0 0, .ptr 1000001 0 0]) [(1000000, ⟨1, true, [[.mp 1000002]]⟩), (1000001, ⟨1, true, [[.ptr 1000003 0 0]]⟩), (1000003, ⟨4, true, [[.bool p2, .sl false 8 (List.map tySCandidate.c p3), .sl false 8 (List.map tySCandidate.c p4), .ref 1000004 0 p5.length]]⟩)] [BT.of 1000002 tySEnt94 1114370 p1 true, BT.of 1000004 tySPair 4 p5 true] (by rfl)) (g40 p0 p1 p2 p3 p4 p5) (fun (r : Bool) => .bool r) (fun (_ : Bool) => Ext.of .normal [] [(1000000, ⟨1, true, [[.mp 1000002]]⟩), (1000001, ⟨1, true, [[.ptr 1000003 0 0]]⟩), (1000003, ⟨4, true, [[.bool p2, .sl false 8 (List.map tySCandidate.c p3), .sl false 8 (List.map tySCandidate.c p4), .ref 1000004 0 p5.length]]⟩)] [BT.of 1000002 tySEnt94 1114370 p1 true, BT.of 1000004 tySPair 4 p5 true] (by rfl)) := by unfold FnB; kernel_rfl
noncomputable def s40 (p0 : SPair) (p1 : (List SEnt94)) (p2 : Bool) (p3 : (List SCandidate)) (p4 : (List SCandidate)) (p5 : (List SPair)) : EV.Spec Tryd.prog GG (Bool) := .ofFnB 40 [1000002, 1000004] mixed Tryd.func40 rfl (fun _ => rfl) (k40 p0 p1 p2 p3 p4 p5)
noncomputable def g38_1 (p0 : (List SPair)) (p1 : (List SEnt94)) (p2 : Bool) (p3 : (List SCandidate)) (p4 : (List SCandidate)) : TT (Int) :=
 .bind 1
 (.lp (fun (l193 : Int × Int) => Ext.of .normal [(0, .ref 1000000 0 p0.length), (1, .fn 40 [] [.ptr 1000001 0 0, .ptr 1000002 0 0]), (2, .fn 37 [] []), (6, .int .i64 0), (7, .int .i64 l193.1), (10, .ref 1000000 0 p0.length), (11, .int .i64 (p0.length : Int)), (12, .int .i64 l193.2)] [(1000001, ⟨1, true, [[.mp 1000003]]⟩), (1000002, ⟨1, true, [[.ptr 1000004 0 0]]⟩), (1000004, ⟨4, true, [[.bool p2, .sl false 8 (List.map tySCandidate.c p3), .sl false 8 (List.map tySCandidate.c p4), .ref 1000000 0 p0.length]]⟩)] [BT.of 1000000 tySPair 4 p0 true, BT.of 1000003 tySEnt94 1114370 p1 true] (by rfl))
  (fun l193 =>
   .br 0 (decide (l193.2 < (p0.length : Int)))
   (.chk 4002 (decide (0 ≤ l193.2) && decide (l193.2 < (p0.length : Int))) (.row 4003 tySPair p0 (0 + l193.2.toNat) true fun x194 =>
    .cnd 5 [35]
    (.opr 5003 (Rule.callRead (s40 x194 p1 p2 p3 p4 p0) (.tmp 17) #[.tmp 18] #[37] 19 [] [.agg [.int .i64 x194.fLocal, .int .i64 x194.fRemote, .int .i64 x194.fPriority, .int .i64 x194.fState]] [.ptr 1000001 0 0, .ptr 1000002 0 0] [(1000000, 1000001, ⟨1, true, [[.mp 1000003]]⟩), (1000001, 1000002, ⟨1, true, [[.ptr 1000004 0 0]]⟩), (1000003, 1000004, ⟨4, true, [[.bool p2, .sl false 8 (List.map tySCandidate.c p3), .sl false 8 (List.map tySCandidate.c p4), .ref 1000000 0 p0.length]]⟩)] [(1000002, BT.of 1000003 tySEnt94 1114370 p1 true), (1000004, BT.of 1000000 tySPair 4 p0 true)] [(1000000, 1000001), (1000001, 1000002), (1000003, 1000004), (1000002, 1000003), (1000004, 1000000)] (by kernel_rfl) (by kernel_rfl) (by kernel_rfl) (by kernel_rfl) (by kernel_rfl) (by kernel_rfl) (by kernel_rfl) (by kernel_rfl) (by kernel_rfl) (by kernel_rfl) (fun _ => by kernel_rfl) (fun _ => ⟨by kernel_rfl, by kernel_rfl⟩)) fun r195 =>
     .br 5005 r195
     (.br 5008 (decide (l193.1 < 0))
      (.done true)
      (.call 5010 (s37 x194) [] [] fun r196 =>
       .chk 5014 (decide (0 ≤ l193.1) && decide (l193.1 < (p0.length : Int))) (.row 5015 tySPair p0 (0 + l193.1.toNat) true fun x197 =>
       .call 5016 (s37 x197) [] [] fun r198 =>
       .done (decide (r198 < r196)))))
     (.done false))
    (fun (c199 : Bool) => [.bool c199]) fun c199 =>
    .br 0 c199
    (.done (.inl (l193.2, (wi64 (l193.2 + 1)))))
    (.done (.inl (l193.1, (wi64 (l193.2 + 1)))))))
   (.done (.inr l193.1)))
  ((-1), 0))
 (fun (e200 : Int) => Ext.lit (.exit 0) [(6, .int .i64 0), (7, .int .i64 e200)] [])
 (fun e200 =>
  .done e200)
theorem k38_1 (p0 : (List SPair)) (p1 : (List SEnt94)) (p2 : Bool) (p3 : (List SCandidate)) (p4 : (List SCandidate)) : FnB Tryd.prog GG [0, 1, 2, 6, 7, 8, 9, 10, 11, 12, 13, 35] Tryd.f38 [.ref 1000000 0 p0.length, .fn 40 [] [.ptr 1000001 0 0, .ptr 1000002 0 0], .fn 37 [] []] (Ext.of .normal (argTs [.ref 1000000 0 p0.length, .fn 40 [] [.ptr 1000001 0 0, .ptr 1000002 0 0], .fn 37 [] []]) [(1000001, ⟨1, true, [[.mp 1000003]]⟩), (1000002, ⟨1, true, [[.ptr 1000004 0 0]]⟩), (1000004, ⟨4, true, [[.bool p2, .sl false 8 (List.map tySCandidate.c p3), .sl false 8 (List.map tySCandidate.c p4), .ref 1000000 0 p0.length]]⟩)] [BT.of 1000000 tySPair 4 p0 true, BT.of 1000003 tySEnt94 1114370 p1 true] (by rfl)) (g38_1 p0 p1 p2 p3 p4) (fun (r : Int) => .int .i64 r) (fun (_ : Int) => Ext.of .normal [] [] [] (by rfl)) := by unfold FnB; kernel_rfl
noncomputable def s38_1 (p0 : (List SPair)) (p1 : (List SEnt94)) (p2 : Bool) (p3 : (List SCandidate)) (p4 : (List SCandidate)) : EV.Spec Tryd.prog GG (Int) := .ofFnB 38 [] mixed Tryd.func38 rfl (fun _ => rfl) (k38_1 p0 p1 p2 p3 p4)
noncomputable def g17 (p0 : SList) : TT (Int × Int) :=
 .call2 1002 (s34 p0) [] [(7, 500008), (500007, 500009)] (fun r167 =>
  .tt (.done (0, 100)))
 (fun r168 =>
  .ff (.view 5007 (s38 p0.fPairs) [(VwW.of 500009 tySPair p0.fPairs)] fun r181 =>
  .bind 0
  (.br 0 (decide (r181 < 0))
   (.opr 7001 (Rule.makeMap 94 28 1114370 (by decide)) fun _ =>
    .opr 7002 (Rule.allocAny 94 8 (by kernel_rfl)) fun _ =>
    .bind 1
    (.lp (fun (l185 : (List SEnt94) × Int) => Ext.of .normal [(2, .int .i64 0), (3, .int .i64 0), (4, .ptr 4 0 0), (6, .fn 37 [] []), (7, .int .i64 r181), (8, .ptr 8 0 0), (33, .ref 500009 0 p0.fPairs.length), (34, .int .i64 (p0.fPairs.length : Int)), (35, .int .i64 l185.2)] [(4, ⟨1, true, [[.ptr 500008 0 0]]⟩), (8, ⟨1, true, [[.mp 28]]⟩), (500008, ⟨4, true, [[.bool p0.fControlling, .sl false 8 (List.map tySCandidate.c p0.fLocals), .sl false 8 (List.map tySCandidate.c p0.fRemotes), .ref 500009 0 p0.fPairs.length]]⟩)] [BT.of 28 tySEnt94 1114370 l185.1 true, BT.of 500009 tySPair 4 p0.fPairs true] (by rfl))
     (fun l185 =>
      .br 0 (decide (l185.2 < (p0.fPairs.length : Int)))
      (.chk 10001 (decide (0 ≤ l185.2) && decide (l185.2 < (p0.fPairs.length : Int))) (.row 10002 tySPair p0.fPairs (0 + l185.2.toNat) true fun x186 =>
       .br 0 (x186.fState == 2)
       (.view 12004 (s30 (SPlanner.mk p0) x186) [(VwW.of 500009 tySPair p0.fPairs)] fun r187 =>
        .opr 12005 (Rule.put (mt := 94) (kt := 81) (et := 4) (z := 1114370) (ty := tySEnt94) (p := (fun x => ((decide (r187.a0 = x.fk.a0)) && ((decide (r187.a1 = x.fk.a1)) && true)))) (kc := [.str r187.a0, .str r187.a1]) (.tmp 42) (.tmp 45) (.const (.bool true)) 28 l185.1 (SEnt94.mk r187 true) [.bool true] ⟨by kernel_rfl, by kernel_rfl, by kernel_rfl, fun _ => by kernel_rfl⟩ (by rfl) (by kernel_rfl) (by kernel_rfl) (by decide) (by decide)) fun _ =>
        .done (.inl ((mput l185.1 (fun x => ((decide (r187.a0 = x.fk.a0)) && ((decide (r187.a1 = x.fk.a1)) && true))) (SEnt94.mk r187 true)), (wi64 (l185.2 + 1)))))
       (.done (.inl (l185.1, (wi64 (l185.2 + 1)))))))
      (.done (.inr (l185.1, r181))))
     ([], 0))
    (fun (e188 : (List SEnt94) × Int) => Ext.of (.exit 0) [(2, .int .i64 0), (3, .int .i64 0), (4, .ptr 4 0 0), (6, .fn 37 [] []), (7, .int .i64 e188.2), (8, .ptr 8 0 0)] [(4, ⟨1, true, [[.ptr 500008 0 0]]⟩), (8, ⟨1, true, [[.mp 28]]⟩), (500008, ⟨4, true, [[.bool p0.fControlling, .sl false 8 (List.map tySCandidate.c p0.fLocals), .sl false 8 (List.map tySCandidate.c p0.fRemotes), .ref 500009 0 p0.fPairs.length]]⟩)] [BT.of 28 tySEnt94 1114370 e188.1 true, BT.of 500009 tySPair 4 p0.fPairs true] (by rfl))
    (fun e188 =>
     .call 14008 (s38_1 p0.fPairs e188.1 p0.fControlling p0.fLocals p0.fRemotes) [(1000001, 8), (1000002, 4), (1000004, 500008), (1000000, 500009), (1000003, 28)] [] fun r201 =>
     .done r201))
   (.done r181))
  (fun (e202 : Int) => Ext.lit .normal [(2, .int .i64 0), (3, .int .i64 0), (7, .int .i64 e202)] [])
  (fun e202 =>
   .br 0 (decide (e202 < 0))
   (.done (0, 4))
   (.done (e202, 0)))))
theorem k17 (p0 : SList) : FnD Tryd.prog GG [0, 1, 2, 3, 4, 5, 6, 7, 8, 10, 17, 27, 33, 34, 35, 36, 41, 56] Tryd.f17 [.agg [.bool p0.fControlling, .sl false 8 (List.map tySCandidate.c p0.fLocals), .sl false 8 (List.map tySCandidate.c p0.fRemotes), .sl false 4 (List.map tySPair.c p0.fPairs)]] (g17 p0) (fun r => .tup [.int .i64 r.1, .int .i64 r.2]) := by unfold FnD; kernel_rfl
noncomputable def s17 (p0 : SList) : EV.Spec Tryd.prog GG (Int × Int) := .ofFn 17 mixed Tryd.func17 (k17 p0)
noncomputable def g57 (p0 : (List SPair)) : TT (Int) :=
 .bind2 1
 (.lp (fun (l208 : Int) => Ext.lit .normal [(0, .sl false 4 (List.map tySPair.c p0)), (1, .fn 41 [] []), (4, .int .i64 0), (7, .int .i64 (mlen tySPair p0)), (8, .int .i64 l208)] [])
  (fun l208 =>
   .br 0 (decide (l208 < (mlen tySPair p0)))
   (.row 4004 tySPair p0 l208.toNat (decide (0 ≤ l208)) fun x209 =>
    .call 4006 (s41 x209) [] [] fun r210 =>
    .br 0 r210
    (.done (.inr (.inl l208)))
    (.done (.inl (wi64 (l208 + 1)))))
   (.done (.inr (.inr ()))))
  0)
 (fun (e211 : Int) => Ext.lit .ret [(4, .int .i64 e211)] [])
 (fun (_ : Unit) => Ext.lit (.exit 0) [(4, .int .i64 0)] [])
 (fun e211 =>
  .done e211)
 (fun _ =>
  .done (-1))
theorem k57 (p0 : (List SPair)) : FnD Tryd.prog GG [0, 1, 4, 5, 7, 8, 9, 16] Tryd.f57 [.sl false 4 (List.map tySPair.c p0), .fn 41 [] []] (g57 p0) (fun r => .int .i64 r) := by unfold FnD; kernel_rfl
noncomputable def s57 (p0 : (List SPair)) : EV.Spec Tryd.prog GG (Int) := .ofFn 57 mixed Tryd.func57 (k57 p0)
noncomputable def g42 (p0 : (List SPair)) : TT (Bool) :=
 .call 1003 (s57 p0) [] [] fun r213 =>
 .done (decide ((0 : Int) ≤ r213))
theorem k42 (p0 : (List SPair)) : FnD Tryd.prog GG [0, 1, 4] Tryd.f42 [.sl false 4 (List.map tySPair.c p0), .fn 41 [] []] (g42 p0) (fun r => .bool r) := by unfold FnD; kernel_rfl
noncomputable def s42 (p0 : (List SPair)) : EV.Spec Tryd.prog GG (Bool) := .ofFn 42 mixed Tryd.func42 (k42 p0)
noncomputable def g18 (p0 : SList) : TT (Bool × Int) :=
 .call2 1002 (s34 p0) [] [(7, 500010), (500007, 500011)] (fun _ =>
  .tt (.done (false, 100)))
 (fun _ =>
  .ff (.view 5007 (s42 p0.fPairs) [(VwW.of 500011 tySPair p0.fPairs)] fun r214 =>
  .done ((!r214), 0)))
theorem k18 (p0 : SList) : FnD Tryd.prog GG [0, 1, 2, 3, 4, 5, 6, 13] Tryd.f18 [.agg [.bool p0.fControlling, .sl false 8 (List.map tySCandidate.c p0.fLocals), .sl false 8 (List.map tySCandidate.c p0.fRemotes), .sl false 4 (List.map tySPair.c p0.fPairs)]] (g18 p0) (fun r => .tup [.bool r.1, .int .i64 r.2]) := by unfold FnD; kernel_rfl
noncomputable def s18 (p0 : SList) : EV.Spec Tryd.prog GG (Bool × Int) := .ofFn 18 mixed Tryd.func18 (k18 p0)
noncomputable def g12 (p0 : SList) : TT (SList × Int) :=
 .call2 1002 (s34 p0) [] [(7, 500012), (500007, 500013)] (fun r215 =>
  .tt (.done ((SList.mk false [] [] []), 100)))
 (fun r216 =>
  .ff (.bind 1
  (.lp (fun (l221 : (List SPair) × Int) => Ext.of .normal [(2, .ptr 2 0 0), (3, .int .i64 0), (4, .ptr 500012 0 0), (31, .ref 500013 0 l221.1.length), (32, .int .i64 (p0.fPairs.length : Int)), (33, .int .i64 l221.2)] [(2, ⟨4, true, [[.bool false, .nilsl, .nilsl, .nilsl]]⟩), (500012, ⟨4, true, [[.bool (!p0.fControlling), .sl false 8 (List.map tySCandidate.c p0.fLocals), .sl false 8 (List.map tySCandidate.c p0.fRemotes), .ref 500013 0 l221.1.length]]⟩)] [BT.of 500013 tySPair 4 l221.1 true] (by rfl))
   (fun l221 =>
    .br 0 (decide (l221.2 < (p0.fPairs.length : Int)))
    (.chk 7002 (decide (0 ≤ l221.2) && decide (l221.2 < (l221.1.length : Int))) (.row 7003 tySPair l221.1 (0 + l221.2.toNat) true fun x222 =>
     .view 8009 (s35 (SPlanner.mk (SList.mk (!p0.fControlling) p0.fLocals p0.fRemotes l221.1)) x222) [(VwW.of 500013 tySPair l221.1)] fun r223 =>
     .chk 8010 (decide (0 ≤ l221.2) && decide (l221.2 < (l221.1.length : Int))) (.row 8012 tySPair l221.1 (0 + l221.2.toNat) true fun x224 =>
     .re 8012 (ReW.put 500013 4 tySPair l221.1 (0 + l221.2.toNat) (SPair.mk x224.fLocal x224.fRemote r223 x224.fState)) (.gh 11 (.len 500013 ((l221.1.set (0 + l221.2.toNat) (SPair.mk x224.fLocal x224.fRemote r223 x224.fState)).length) [l221.1.length, l221.1.length] (by simp)) (.done (.inl ((l221.1.set (0 + l221.2.toNat) (SPair.mk x224.fLocal x224.fRemote r223 x224.fState)), (wi64 (l221.2 + 1)))))))))
    (.done (.inr l221.1)))
   (p0.fPairs, 0))
  (fun (e225 : (List SPair)) => Ext.of (.exit 0) [(2, .ptr 2 0 0), (3, .int .i64 0), (4, .ptr 500012 0 0)] [(2, ⟨4, true, [[.bool false, .nilsl, .nilsl, .nilsl]]⟩), (500012, ⟨4, true, [[.bool (!p0.fControlling), .sl false 8 (List.map tySCandidate.c p0.fLocals), .sl false 8 (List.map tySCandidate.c p0.fRemotes), .ref 500013 0 e225.length]]⟩)] [BT.of 500013 tySPair 4 e225 true] (by rfl))
  (fun e225 =>
   .gh 0 (.share (VwW.of 500013 tySPair e225) 1) (.done ((SList.mk (!p0.fControlling) p0.fLocals p0.fRemotes e225), 0)))))
theorem k12 (p0 : SList) : FnD Tryd.prog GG [0, 1, 2, 3, 4, 5, 6, 7, 14, 31, 32, 33, 34] Tryd.f12 [.agg [.bool p0.fControlling, .sl false 8 (List.map tySCandidate.c p0.fLocals), .sl false 8 (List.map tySCandidate.c p0.fRemotes), .sl false 4 (List.map tySPair.c p0.fPairs)]] (g12 p0) (fun r => .tup [.agg [.bool r.1.fControlling, .sl false 8 (List.map tySCandidate.c r.1.fLocals), .sl false 8 (List.map tySCandidate.c r.1.fRemotes), .sl false 4 (List.map tySPair.c r.1.fPairs)], .int .i64 r.2]) := by unfold FnD; kernel_rfl
noncomputable def s12 (p0 : SList) : EV.Spec Tryd.prog GG (SList × Int) := .ofFn 12 mixed Tryd.func12 (k12 p0)
noncomputable def g16 (p0 : SList) (p1 : Int) (p2 : Int) : TT (SList × Int) :=
 .call2 1002 (s34 p0) [] [(7, 500014), (500007, 500015)] (fun r226 =>
  .tt (.done ((SList.mk false [] [] []), 100)))
 (fun r227 =>
  .ff (.cnd 4 [40]
  (.br 4004 (decide (p1 < 0))
   (.done true)
   (.br 4014 (decide ((p0.fPairs.length : Int) ≤ p1))
    (.done true)
    (.br 4018 (decide (p2 < 0))
     (.done true)
     (.done (decide ((4 : Int) < p2))))))
  (fun (c228 : Bool) => [.bool c228]) fun c228 =>
  .br 0 c228
  (.done ((SList.mk false [] [] []), 2))
  (.chk 6008 (decide (0 ≤ p1) && decide (p1 < (p0.fPairs.length : Int))) (.row 6010 tySPair p0.fPairs (0 + p1.toNat) true fun x229 =>
   .re 6010 (ReW.put 500015 4 tySPair p0.fPairs (0 + p1.toNat) (SPair.mk x229.fLocal x229.fRemote x229.fPriority p2)) (.gh 9 (.len 500015 ((p0.fPairs.set (0 + p1.toNat) (SPair.mk x229.fLocal x229.fRemote x229.fPriority p2)).length) [p0.fPairs.length] (by simp)) (.bind 1
   (.lp (fun (l237 : (List SPair) × Int) => Ext.of .normal [(1, .int .i64 p1), (2, .int .i64 p2), (6, .ptr 6 0 0), (7, .int .i64 0), (8, .ptr 500014 0 0), (55, .ref 500015 0 l237.1.length), (56, .int .i64 ((p0.fPairs.set (0 + p1.toNat) (SPair.mk x229.fLocal x229.fRemote x229.fPriority p2)).length : Int)), (57, .int .i64 l237.2)] [(6, ⟨4, true, [[.bool false, .nilsl, .nilsl, .nilsl]]⟩), (500014, ⟨4, true, [[.bool p0.fControlling, .sl false 8 (List.map tySCandidate.c p0.fLocals), .sl false 8 (List.map tySCandidate.c p0.fRemotes), .ref 500015 0 l237.1.length]]⟩)] [BT.of 500015 tySPair 4 l237.1 true] (by rfl))
    (fun l237 =>
     .br 0 (decide (l237.2 < ((p0.fPairs.set (0 + p1.toNat) (SPair.mk x229.fLocal x229.fRemote x229.fPriority p2)).length : Int)))
     (.chk 9002 (decide (0 ≤ l237.2) && decide (l237.2 < (l237.1.length : Int))) (.row 9003 tySPair l237.1 (0 + l237.2.toNat) true fun x238 =>
      .cnd 10 [84]
      (.br 10004 (p2 == 3)
       (.br 10009 (x238.fState == 0)
        (.view 10011 (s30 (SPlanner.mk (SList.mk p0.fControlling p0.fLocals p0.fRemotes l237.1)) x238) [(VwW.of 500015 tySPair l237.1)] fun r239 =>
         .chk 10019 (decide (0 ≤ p1) && decide (p1 < (l237.1.length : Int))) (.row 10020 tySPair l237.1 (0 + p1.toNat) true fun x240 =>
         .view 10021 (s30 (SPlanner.mk (SList.mk p0.fControlling p0.fLocals p0.fRemotes l237.1)) x240) [(VwW.of 500015 tySPair l237.1)] fun r241 =>
         .done ((decide (r239.a0 = r241.a0)) && ((decide (r239.a1 = r241.a1)) && true))))
        (.done false))
       (.done false))
      (fun (c242 : Bool) => [.bool c242]) fun c242 =>
      .br 0 c242
      (.chk 11007 (decide (0 ≤ l237.2) && decide (l237.2 < (l237.1.length : Int))) (.row 11009 tySPair l237.1 (0 + l237.2.toNat) true fun x243 =>
       .re 11009 (ReW.put 500015 4 tySPair l237.1 (0 + l237.2.toNat) (SPair.mk x243.fLocal x243.fRemote x243.fPriority 1)) (.gh 14 (.len 500015 ((l237.1.set (0 + l237.2.toNat) (SPair.mk x243.fLocal x243.fRemote x243.fPriority 1)).length) [l237.1.length, l237.1.length] (by simp)) (.done (.inl ((l237.1.set (0 + l237.2.toNat) (SPair.mk x243.fLocal x243.fRemote x243.fPriority 1)), (wi64 (l237.2 + 1))))))))
      (.done (.inl (l237.1, (wi64 (l237.2 + 1)))))))
     (.done (.inr l237.1)))
    ((p0.fPairs.set (0 + p1.toNat) (SPair.mk x229.fLocal x229.fRemote x229.fPriority p2)), 0))
   (fun (e244 : (List SPair)) => Ext.of (.exit 0) [(6, .ptr 6 0 0), (7, .int .i64 0), (8, .ptr 500014 0 0)] [(6, ⟨4, true, [[.bool false, .nilsl, .nilsl, .nilsl]]⟩), (500014, ⟨4, true, [[.bool p0.fControlling, .sl false 8 (List.map tySCandidate.c p0.fLocals), .sl false 8 (List.map tySCandidate.c p0.fRemotes), .ref 500015 0 e244.length]]⟩)] [BT.of 500015 tySPair 4 e244 true] (by rfl))
   (fun e244 =>
    .gh 0 (.share (VwW.of 500015 tySPair e244) 1) (.done ((SList.mk p0.fControlling p0.fLocals p0.fRemotes e244), 0)))))))))
theorem k16 (p0 : SList) (p1 : Int) (p2 : Int) : FnD Tryd.prog GG [0, 1, 2, 3, 6, 7, 8, 9, 10, 11, 18, 40, 55, 56, 57, 58, 84] Tryd.f16 [.agg [.bool p0.fControlling, .sl false 8 (List.map tySCandidate.c p0.fLocals), .sl false 8 (List.map tySCandidate.c p0.fRemotes), .sl false 4 (List.map tySPair.c p0.fPairs)], .int .i64 p1, .int .i64 p2] (g16 p0 p1 p2) (fun r => .tup [.agg [.bool r.1.fControlling, .sl false 8 (List.map tySCandidate.c r.1.fLocals), .sl false 8 (List.map tySCandidate.c r.1.fRemotes), .sl false 4 (List.map tySPair.c r.1.fPairs)], .int .i64 r.2]) := by unfold FnD; kernel_rfl
noncomputable def s16 (p0 : SList) (p1 : Int) (p2 : Int) : EV.Spec Tryd.prog GG (SList × Int) := .ofFn 16 mixed Tryd.func16 (k16 p0 p1 p2)
end Go.Proofs.YtioobnkmohikjaaDoor
namespace Go.Proofs.YtioobnkmohikjaaDoor
open Go Go.EV
set_option maxRecDepth 100000
theorem eA_iff {a b : SAddr} : (decide (a.fHost = b.fHost) && ((a.fPort == b.fPort) && true)) = true ↔ a = b := by
 cases a; cases b; simp
def UsableA (a : SAddr) : Prop := ((a.fHost.size : Int) = 4 ∨ (a.fHost.size : Int) = 16) ∧ 1 ≤ a.fPort ∧ a.fPort ≤ 65535
theorem okAREAD (h : ByteArray) : SOk (s85 h) (fun r => (r.2 = 0 ↔ ((h.size : Int) = 4 ∨ (h.size : Int) = 16))) := by
 show Ok (g85 h) _
 unfold g85
 refine Ok.cnd (R := fun c => (c = true ↔ ¬ ((h.size : Int) = 4 ∨ (h.size : Int) = 16))) ?_ fun c hc => ?_
 ·refine Ok.br (fun h1 => Ok.done ?_) (fun h1 => Ok.done ?_)
  ·simp at h1 ⊢; omega
  ·simp at h1 ⊢; omega
 ·refine Ok.br (fun h1 => Ok.done ?_) (fun h1 => Ok.done ?_)
  ·simp [hc.1 h1]
  ·subst h1; simp at hc ⊢; omega
theorem okACHECK (a : SAddr) : SOk (s77 a) (fun r => (r = 0 ↔ ((a.fHost.size : Int) = 4 ∨ (a.fHost.size : Int) = 16) ∧ 0 ≤ a.fPort ∧ a.fPort ≤ 65535)) := by
 show Ok (g77 a) _
 unfold g77
 refine Ok.call (okAREAD _) fun r hr => ?_
 refine Ok.cnd (R := fun c => (c = true ↔ ¬ (((a.fHost.size : Int) = 4 ∨ (a.fHost.size : Int) = 16) ∧ 0 ≤ a.fPort ∧ a.fPort ≤ 65535))) ?_ fun c hc => ?_
 ·refine Ok.br (fun h1 => Ok.done ?_) (fun h1 => Ok.br (fun h2 => Ok.done ?_) (fun h2 => Ok.done ?_))
  ·simp at h1 ⊢; rw [hr] at h1; omega
  ·simp at h2 ⊢; omega
  ·simp at h1 h2 ⊢; rw [hr] at h1; omega
 ·refine Ok.br (fun h1 => Ok.done ?_) (fun h1 => Ok.done ?_)
  ·simp; have := hc.1 h1; omega
  ·subst h1; simp at hc ⊢; omega
theorem okCUSABLE (a : SAddr) : SOk (s66 a) (fun b => (b = true ↔ UsableA a)) := by
 show Ok (g66 a) _
 unfold g66
 refine Ok.cnd (R := fun c => (c = true ↔ UsableA a)) ?_ fun c hc => Ok.done hc
 refine Ok.call (okACHECK _) fun x hx => ?_
 unfold UsableA
 refine Ok.br (fun h1 => Ok.done ?_) (fun h1 => Ok.done ?_)
 ·simp at h1 ⊢; rw [hx] at h1; omega
 ·simp at h1 ⊢; rw [hx] at h1; omega
theorem okRUSABLE (a : SAddr) : SOk (s62 a) (fun b => (b = true ↔ UsableA a)) := by
 show Ok (g62 a) _
 unfold g62
 refine Ok.cnd (R := fun c => (c = true ↔ UsableA a)) ?_ fun c hc => Ok.done hc
 refine Ok.call (R := fun c => (c = true ↔ ((a.fHost.size : Int) = 4 ∨ (a.fHost.size : Int) = 16) ∧ 0 ≤ a.fPort ∧ a.fPort ≤ 65535)) ?_ fun c hc => ?_
 ·show Ok (g68 a) _
  unfold g68
  refine Ok.cnd (R := fun c => (c = true ↔ ((a.fHost.size : Int) = 4 ∨ (a.fHost.size : Int) = 16) ∧ 0 ≤ a.fPort ∧ a.fPort ≤ 65535)) ?_ fun c hc => Ok.done hc
  refine Ok.call (R := fun c => (c = true ↔ ((a.fHost.size : Int) = 4 ∨ (a.fHost.size : Int) = 16))) ?_ fun c hc => ?_
  ·show Ok (g79 a.fHost) _
   unfold g79
   refine Ok.cnd (R := fun c => (c = true ↔ ((a.fHost.size : Int) = 4 ∨ (a.fHost.size : Int) = 16))) ?_ fun c hc => Ok.done hc
   refine Ok.br (fun h1 => Ok.done ?_) (fun h1 => Ok.done ?_)
   ·simp at h1 ⊢; exact .inl h1
   ·simp at h1 ⊢; omega
  ·refine Ok.br (fun h1 => Ok.br (fun h2 => Ok.done ?_) (fun h2 => Ok.done ?_)) (fun h1 => Ok.done ?_)
   ·rw [hc] at h1; simp at h2 ⊢; omega
   ·simp at h2 ⊢; omega
   ·subst h1; simp at hc ⊢; omega
 ·unfold UsableA
  refine Ok.br (fun h1 => Ok.done ?_) (fun h1 => Ok.done ?_)
  ·rw [hc] at h1; simp; omega
  ·subst h1; simp at hc ⊢; omega
theorem okWITHIN (n a b : Int) : SOk (s33 n a b) (fun c => (c = true ↔ a ≤ n ∧ n ≤ b)) := by
 show Ok (g33 n a b) _
 unfold g33
 refine Ok.cnd (R := fun c => (c = true ↔ a ≤ n ∧ n ≤ b)) ?_ fun c hc => Ok.done hc
 refine Ok.br (fun h1 => Ok.done ?_) (fun h1 => Ok.done ?_)
 ·simp at h1 ⊢; omega
 ·simp at h1 ⊢; omega
def HexD (x : Int) : Prop := (48 ≤ x ∧ x ≤ 57) ∨ (97 ≤ x ∧ x ≤ 102) ∨ x = 45
theorem bAt_lt (s : ByteArray) (i : Int) : 0 ≤ bAt s i ∧ bAt s i < 256 := by
 unfold bAt
 refine ⟨by omega, ?_⟩
 have := UInt8.toNat_lt (s.data.getD i.toNat 0)
 omega
theorem okCONT (x : Int) (h : 0 ≤ x ∧ x < 256) : SOk (s81 x) (fun c => (c = true ↔ HexD x)) := by
 show Ok (g81 x) _
 unfold g81
 obtain ⟨n, rfl⟩ := Int.eq_ofNat_of_zero_le h.1
 have hn : n < 256 := by omega
 refine Ok.ceq ?_ ?_
 ·have : ∀ n : Fin 256, ([0, 1, 2, 3, 4, 5, 6, 7, 8, 9, 10, 11, 12, 13, 14, 15, 16, 17, 18, 19, 20, 21, 22, 23, 24, 25, 26, 27, 28, 29, 30, 31, 32, 33, 34, 35, 36, 37, 38, 39, 40, 41, 42, 43, 44, 45, 46, 47, 48, 49, 50, 51, 52, 53, 54, 55, 56, 57, 58, 59, 60, 61, 62, 63, 64, 65, 66, 67, 68, 69, 70, 71, 72, 73, 74, 75, 76, 77, 78, 79, 80, 81, 82, 83, 84, 85, 86, 87, 88, 89, 90, 91, 92, 93, 94, 95, 96, 97, 98, 99, 100, 101, 102, 103, 104, 105, 106, 107, 108, 109, 110, 111, 112, 113, 114, 115, 116, 117, 118, 119, 120, 121, 122, 123, 124, 125, 126, 127, 128, 129, 130, 131, 132, 133, 134, 135, 136, 137, 138, 139, 140, 141, 142, 143, 144, 145, 146, 147, 148, 149, 150, 151, 152, 153, 154, 155, 156, 157, 158, 159, 160, 161, 162, 163, 164, 165, 166, 167, 168, 169, 170, 171, 172, 173, 174, 175, 176, 177, 178, 179, 180, 181, 182, 183, 184, 185, 186, 187, 188, 189, 190, 191, 192, 193, 194, 195, 196, 197, 198, 199, 200, 201, 202, 203, 204, 205, 206, 207, 208, 209, 210, 211, 212, 213, 214, 215, 216, 217, 218, 219, 220, 221, 222, 223, 224, 225, 226, 227, 228, 229, 230, 231, 232, 233, 234, 235, 236, 237, 238, 239, 240, 241, 242, 243, 244, 245, 246, 247, 248, 249, 250, 251, 252, 253, 254, 255] : List Int).contains ((n.val : Nat) : Int) = true := by decide
  exact this ⟨n, hn⟩
 ·cases hb : ([45, 48, 49, 50, 51, 52, 53, 54, 55, 56, 57, 97, 98, 99, 100, 101, 102] : List Int).contains (n : Int) with
  | true =>
   refine Ok.done ⟨fun _ => ?_, fun _ => rfl⟩
   rw [List.contains_iff_mem] at hb
   simp only [List.mem_cons, List.not_mem_nil, or_false] at hb
   unfold HexD; omega
  | false =>
   refine Ok.done ⟨fun h => by simp at h, fun h => ?_⟩
   have : ¬ (n : Int) ∈ ([45, 48, 49, 50, 51, 52, 53, 54, 55, 56, 57, 97, 98, 99, 100, 101, 102] : List Int) := fun hm => by
    rw [← List.contains_iff_mem] at hm; rw [hm] at hb; simp at hb
   simp only [List.mem_cons, List.not_mem_nil, or_false] at this
   unfold HexD at h; omega
def AllHex (s : ByteArray) : Prop := ∀ i : Nat, i < s.size → HexD (bAt s i)
theorem bAt_extract (s : ByteArray) (a b : Nat) (i : Nat) (hb : b ≤ s.size) (hi : a + i < b) : bAt (s.extract a b) (i : Int) = bAt s ((a + i : Nat) : Int) := by
 unfold bAt
 simp only [Int.toNat_natCast]
 have : (s.extract a b).data[i]? = s.data[a + i]? := by
  rw [ByteArray.data_extract, Array.getElem?_extract, if_pos (by have : s.data.size = s.size := rfl; omega)]
 rw [Array.getD_eq_getD_getElem?, Array.getD_eq_getD_getElem?, this]
theorem size_extract (s : ByteArray) (a b : Nat) (hb : b ≤ s.size) : (s.extract a b).size = b - a := by
 rw [ByteArray.size_extract]; omega
theorem empty_iff (s : ByteArray) : s = ByteArray.empty ↔ s.size = 0 := by
 constructor
 ·rintro rfl; rfl
 ·intro h
  exact ByteArray.ext (Array.eq_empty_of_size_eq_zero h)
theorem okTRIMR (s : ByteArray) (hs : s.size ≤ 1000000) : SOk (s74 s) (fun r => ∃ n, n ≤ s.size ∧ r = s.extract 0 n ∧ (∀ i, n ≤ i → i < s.size → HexD (bAt s i)) ∧ (0 < n → ¬ HexD (bAt s ((n - 1 : Nat) : Int)))) := by
 show Ok (g74 s) _
 unfold g74
 refine Ok.bind (R := fun r => ∃ n, n ≤ s.size ∧ r = s.extract 0 n ∧ (∀ i, n ≤ i → i < s.size → HexD (bAt s i)) ∧ (0 < n → ¬ HexD (bAt s ((n - 1 : Nat) : Int)))) ?_ fun e he => Ok.done he
 refine Ok.lp (fun y => ∃ n, n ≤ s.size ∧ y = s.extract 0 n ∧ ∀ i, n ≤ i → i < s.size → HexD (bAt s i)) (fun y => y.size) ⟨s.size, Nat.le_refl _, by rw [ByteArray.extract_zero_size], fun i h1 h2 => by omega⟩ (fuel (by omega)) fun y hy => ?_
 obtain ⟨n, hn, rfl, hd⟩ := hy
 have hsz : (s.extract 0 n).size = n := by rw [size_extract s 0 n hn]; omega
 rw [hsz]
 refine Ok.br (fun hc => ?_) (fun hc => Ok.done ?_)
 ·simp only [decide_eq_true_eq] at hc
  have e : wi64 ((n : Int) - 1) = ((n - 1 : Nat) : Int) := by rw [wi64_id (by omega) (by omega)]; omega
  rw [e]
  refine Ok.chk (by simp; omega) ?_
  have eb : bAt (s.extract 0 n) ((n - 1 : Nat) : Int) = bAt s ((n - 1 : Nat) : Int) := by
   have := bAt_extract s 0 n (n - 1) hn (by omega)
   rw [this]; simp
  rw [eb]
  refine Ok.call (okCONT _ (bAt_lt _ _)) fun c hcc => ?_
  refine Ok.br (fun h1 => Ok.done ?_) (fun h1 => ?_)
  ·exact ⟨n, hn, rfl, hd, fun _ h => by rw [hcc.2 h] at h1; simp at h1⟩
  ·refine Ok.chk (by simp) (Ok.done ?_)
   have hcx : HexD (bAt s ((n - 1 : Nat) : Int)) := hcc.1 (by simpa using h1)
   refine ⟨⟨n - 1, by omega, ?_, fun i h2 h3 => ?_⟩, ?_⟩
   ·rw [Int.toNat_natCast, ByteArray.extract_extract]
    congr 1
    omega
   ·by_cases h4 : i = n - 1
    ·rw [h4]; exact hcx
    ·exact hd i (by omega) h3
   ·show ((s.extract 0 n).extract 0 ((n - 1 : Nat) : Int).toNat).size < n
    rw [Int.toNat_natCast, size_extract _ _ _ (by rw [hsz]; omega)]; omega
 ·simp only [decide_eq_false_iff_not] at hc
  exact ⟨n, hn, rfl, hd, fun h => by omega⟩
theorem okTRIML (s : ByteArray) (hs : s.size ≤ 1000000) : SOk (s73 s) (fun r => (r.size = 0 ↔ AllHex s)) := by
 show Ok (g73 s) _
 unfold g73
 refine Ok.bind (R := fun r => (r.size = 0 ↔ AllHex s)) ?_ fun e he => Ok.done he
 refine Ok.lp (fun y => ∃ n, n ≤ s.size ∧ y = s.extract n s.size ∧ ∀ i, i < n → HexD (bAt s i)) (fun y => y.size) ⟨0, Nat.zero_le _, by rw [ByteArray.extract_zero_size], fun i h => by omega⟩ (fuel (by omega)) fun y hy => ?_
 obtain ⟨n, hn, rfl, hd⟩ := hy
 have hsz : (s.extract n s.size).size = s.size - n := size_extract s n s.size (Nat.le_refl _)
 rw [hsz]
 refine Ok.br (fun hc => ?_) (fun hc => Ok.done ?_)
 ·simp only [decide_eq_true_eq] at hc
  refine Ok.chk (by simp; omega) ?_
  have eb : bAt (s.extract n s.size) 0 = bAt s (n : Int) := by
   have := bAt_extract s n s.size 0 (Nat.le_refl _) (by omega)
   simpa using this
  rw [eb]
  refine Ok.call (okCONT _ (bAt_lt _ _)) fun c hcc => ?_
  refine Ok.br (fun h1 => Ok.done ?_) (fun h1 => ?_)
  ·show _ ↔ _
   rw [hsz]
   refine ⟨fun h => by omega, fun h => ?_⟩
   have := hcc.2 (h n (by omega))
   rw [this] at h1; simp at h1
  ·refine Ok.chk (by simp; omega) (Ok.done ?_)
   refine ⟨⟨n + 1, by omega, ?_, fun i hi => ?_⟩, ?_⟩
   ·rw [ByteArray.extract_extract]
    congr 1 <;> omega
   ·by_cases h4 : i = n
    ·rw [h4]; exact hcc.1 (by simpa using h1)
    ·exact hd i (by omega)
   ·show ((s.extract n s.size).extract 1 (s.size - n)).size < s.size - n
    rw [size_extract _ _ _ (by rw [hsz]; omega)]; omega
 ·simp only [decide_eq_false_iff_not] at hc
  show _ ↔ _
  rw [hsz]
  exact ⟨fun _ i hi => hd i (by omega), fun _ => by omega⟩
theorem okTRIM (s : ByteArray) (hs : s.size ≤ 1000000) : SOk (s65 s) (fun r => (r = ByteArray.empty ↔ AllHex s)) := by
 show Ok (g65 s) _
 unfold g65
 refine Ok.cnd (R := fun c => c = decide (s = ByteArray.empty)) (Ok.br (fun h => Ok.done h.symm) (fun h => Ok.done h.symm)) fun c hc => ?_
 refine Ok.br (fun h1 => Ok.done ?_) (fun h1 => ?_)
 ·rw [hc, decide_eq_true_eq] at h1
  exact ⟨fun _ i hi => by rw [h1] at hi; exact absurd hi (by simp [ByteArray.size_empty]), fun _ => h1⟩
 ·refine Ok.ff (Ok.call (R := fun _ => True) ⟨(), by kernel_rfl, trivial⟩ fun _ _ => Ok.tt (Ok.view (okTRIMR s hs) fun r hr => ?_))
  obtain ⟨n, hn, rfl, hd, hl⟩ := hr
  have hsz : (s.extract 0 n).size = n := by rw [size_extract s 0 n hn]; omega
  refine Ok.view (okTRIML _ (by omega)) fun q hq => Ok.done ?_
  rw [empty_iff, hq]
  have eb : ∀ i, i < n → bAt (s.extract 0 n) (i : Int) = bAt s (i : Int) := fun i hi => by
   have := bAt_extract s 0 n i hn (by omega)
   rw [this]; simp
  constructor
  ·intro h i hi
   by_cases hin : i < n
   ·rw [← eb i hin]; exact h i (by omega)
   ·exact hd i (by omega) hi
  ·intro h i hi
   rw [hsz] at hi
   rw [eb i hi]; exact h i (by omega)
def CandOk (c : SCandidate) : Prop :=
 (1 ≤ c.fKind ∧ c.fKind ≤ 4) ∧ (1 ≤ c.fComponent ∧ c.fComponent ≤ 256) ∧ (1 ≤ c.fPriority ∧ c.fPriority ≤ 2147483647) ∧ (1 ≤ (c.fFoundation.size : Int) ∧ (c.fFoundation.size : Int) ≤ 80) ∧
 AllHex c.fFoundation ∧ UsableA c.fAddr ∧ UsableA c.fBase ∧ (c.fAddr.fHost.size : Int) = (c.fBase.fHost.size : Int) ∧ (c.fAddr = c.fBase ∨ c.fKind = 2 ∨ c.fKind = 3)
theorem okCVALID (c : SCandidate) : SOk (s59 c) (fun b => (b = true ↔ CandOk c)) := by
 show Ok (g59 c) _
 unfold g59 CandOk
 refine Ok.cnd (R := fun b => (b = true ↔ ¬ ((1 ≤ c.fKind ∧ c.fKind ≤ 4) ∧ (1 ≤ c.fComponent ∧ c.fComponent ≤ 256) ∧ (1 ≤ c.fPriority ∧ c.fPriority ≤ 2147483647) ∧ (1 ≤ (c.fFoundation.size : Int) ∧ (c.fFoundation.size : Int) ≤ 80)))) ?_ fun b hb => ?_
 ·refine Ok.call (okWITHIN _ _ _) fun r1 h1 => Ok.br (fun k1 => Ok.done ?_) (fun k1 => Ok.call (okWITHIN _ _ _) fun r2 h2 => Ok.br (fun k2 => Ok.done ?_) (fun k2 => Ok.call (okWITHIN _ _ _) fun r3 h3 => Ok.br (fun k3 => Ok.done ?_) (fun k3 => Ok.call (okWITHIN _ _ _) fun r4 h4 => Ok.done ?_)))
  ·simp only [Bool.not_eq_true'] at k1; subst k1; simp at h1 ⊢; omega
  ·simp only [Bool.not_eq_true'] at k2; subst k2; simp at h2 ⊢; omega
  ·simp only [Bool.not_eq_true'] at k3; subst k3; simp at h3 ⊢; omega
  ·simp only [Bool.not_eq_false'] at k1 k2 k3
   rw [k1] at h1; rw [k2] at h2; rw [k3] at h3
   simp only [true_iff] at h1 h2 h3
   cases r4 <;> simp at h4 ⊢ <;> omega
 ·refine Ok.br (fun h1 => Ok.done ?_) (fun h1 => ?_)
  ·have := hb.1 h1
   exact ⟨fun h => by simp at h, fun h => absurd ⟨h.1, h.2.1, h.2.2.1, h.2.2.2.1⟩ this⟩
  ·have hb' : (1 ≤ c.fKind ∧ c.fKind ≤ 4) ∧ (1 ≤ c.fComponent ∧ c.fComponent ≤ 256) ∧ (1 ≤ c.fPriority ∧ c.fPriority ≤ 2147483647) ∧ (1 ≤ (c.fFoundation.size : Int) ∧ (c.fFoundation.size : Int) ≤ 80) :=
    Classical.byContradiction fun hn => by rw [hb.2 hn] at h1; simp at h1
   refine Ok.cnd (R := fun b => (b = true ↔ ¬ (AllHex c.fFoundation ∧ UsableA c.fAddr ∧ UsableA c.fBase ∧ (c.fAddr.fHost.size : Int) = (c.fBase.fHost.size : Int)))) ?_ fun b2 hb2 => ?_
   ·refine Ok.call (okTRIM _ (by omega)) fun r hr => Ok.br (fun k1 => Ok.done ?_) (fun k1 => Ok.call (okCUSABLE _) fun r2 h2 => Ok.br (fun k2 => Ok.done ?_) (fun k2 => Ok.call (okCUSABLE _) fun r3 h3 => Ok.br (fun k3 => Ok.done ?_) (fun k3 => Ok.done ?_)))
    ·simp only [Bool.not_eq_true', decide_eq_false_iff_not] at k1
     exact ⟨fun _ h => k1 (hr.2 h.1), fun _ => rfl⟩
    ·simp only [Bool.not_eq_true'] at k2; subst k2
     exact ⟨fun _ h => by have := h2.2 h.2.1; simp at this, fun _ => rfl⟩
    ·simp only [Bool.not_eq_true'] at k3; subst k3
     exact ⟨fun _ h => by have := h3.2 h.2.2.1; simp at this, fun _ => rfl⟩
    ·simp only [Bool.not_eq_false', decide_eq_true_eq] at k1 k2 k3
     have e1 := hr.1 k1; have e2 := h2.1 k2; have e3 := h3.1 k3
     simp only [bne_iff_ne]
     exact ⟨fun h h' => h h'.2.2.2, fun h h' => h ⟨e1, e2, e3, h'⟩⟩
   ·refine Ok.br (fun h2 => Ok.done ?_) (fun h2 => ?_)
    ·have := hb2.1 h2
     exact ⟨fun h => by simp at h, fun h => absurd ⟨h.2.2.2.2.1, h.2.2.2.2.2.1, h.2.2.2.2.2.2.1, h.2.2.2.2.2.2.2.1⟩ this⟩
    ·have hb3 : AllHex c.fFoundation ∧ UsableA c.fAddr ∧ UsableA c.fBase ∧ (c.fAddr.fHost.size : Int) = (c.fBase.fHost.size : Int) :=
      Classical.byContradiction fun hn => by rw [hb2.2 hn] at h2; simp at h2
     refine Ok.cnd (R := fun b => (b = true ↔ (c.fAddr = c.fBase ∨ c.fKind = 2 ∨ c.fKind = 3))) ?_ fun b4 hb4 => Ok.done ?_
     ·refine Ok.br (fun k1 => Ok.done ?_) (fun k1 => Ok.br (fun k2 => Ok.done ?_) (fun k2 => Ok.done ?_))
      ·exact ⟨fun _ => .inl (eA_iff.1 k1), fun _ => rfl⟩
      ·simp only [beq_iff_eq] at k2; exact ⟨fun _ => .inr (.inl k2), fun _ => rfl⟩
      ·simp only [beq_eq_false_iff_ne, beq_iff_eq] at k2 ⊢
       have hne : c.fAddr ≠ c.fBase := fun e => by rw [eA_iff.2 e] at k1; simp at k1
       exact ⟨fun h => .inr (.inr h), fun h => by rcases h with h | h | h; exact absurd h hne; exact absurd h k2; exact h⟩
     ·rw [hb4]
      exact ⟨fun h => ⟨hb'.1, hb'.2.1, hb'.2.2.1, hb'.2.2.2, hb3.1, hb3.2.1, hb3.2.2.1, hb3.2.2.2, h⟩, fun h => h.2.2.2.2.2.2.2.2⟩
theorem okCCHECK (c : SCandidate) : SOk (s49 c) (fun r => (r = 0 ↔ CandOk c)) := by
 show Ok (g49 c) _
 unfold g49
 refine Ok.call (okCVALID c) fun r hr => Ok.br (fun k1 => Ok.done ?_) (fun k1 => Ok.done ?_)
 ·simp only [Bool.not_eq_true'] at k1; subst k1; simp at hr ⊢; exact hr
 ·simp only [Bool.not_eq_false'] at k1; subst k1; simp at hr ⊢; exact hr
theorem okRCAND (c : SCandidate) : SOk (s56 c) (fun b => (b = true ↔ CandOk c)) := by
 show Ok (g56 c) _
 unfold g56 CandOk
 refine Ok.cnd (R := fun b => (b = true ↔ ¬ ((1 ≤ c.fKind ∧ c.fKind ≤ 4) ∧ (1 ≤ c.fComponent ∧ c.fComponent ≤ 256) ∧ (1 ≤ c.fPriority ∧ c.fPriority ≤ 2147483647) ∧ (1 ≤ (c.fFoundation.size : Int) ∧ (c.fFoundation.size : Int) ≤ 80)))) ?_ fun b hb => ?_
 ·refine Ok.br (fun h1 => Ok.done ?_) (fun h1 => Ok.br (fun h2 => Ok.done ?_) (fun h2 => Ok.br (fun h3 => Ok.done ?_) (fun h3 => Ok.br (fun h4 => Ok.done ?_) (fun h4 => Ok.br (fun h5 => Ok.done ?_) (fun h5 => Ok.br (fun h6 => Ok.done ?_) (fun h6 => Ok.br (fun h7 => Ok.done ?_) (fun h7 => Ok.done ?_)))))))
  all_goals (simp at *; omega)
 ·refine Ok.br (fun h1 => Ok.done ?_) (fun h1 => ?_)
  ·have := hb.1 h1
   exact ⟨fun h => by simp at h, fun h => absurd ⟨h.1, h.2.1, h.2.2.1, h.2.2.2.1⟩ this⟩
  ·have hb' : (1 ≤ c.fKind ∧ c.fKind ≤ 4) ∧ (1 ≤ c.fComponent ∧ c.fComponent ≤ 256) ∧ (1 ≤ c.fPriority ∧ c.fPriority ≤ 2147483647) ∧ (1 ≤ (c.fFoundation.size : Int) ∧ (c.fFoundation.size : Int) ≤ 80) :=
    Classical.byContradiction fun hn => by rw [hb.2 hn] at h1; simp at h1
   refine Ok.bind2 (R := fun e => match e with | .inl _ => ¬ AllHex c.fFoundation | .inr _ => AllHex c.fFoundation) ?_ (fun e he => Ok.done ?_) (fun e he => ?_)
   ·refine Ok.scan c.fFoundation.size (by omega) (fun k y => y = (k : Int) ∧ ∀ i : Nat, i < k → HexD (bAt c.fFoundation i)) ⟨rfl, fun i h => by omega⟩ (fun k y hy hk => ?_) (fun y hy => ?_)
    ·obtain ⟨rfl, hd⟩ := hy
     refine Ok.br (fun hc => ?_) (fun hc => by simp at hc; omega)
     refine Ok.chk (by simp; omega) ?_
     generalize hx : bAt c.fFoundation (k : Int) = x
     refine Ok.cnd (R := fun b => (b = true ↔ ¬ HexD x)) ?_ fun b2 hb2 => ?_
     ·unfold HexD
      refine Ok.br (fun p1 => Ok.br (fun p2 => Ok.br (fun p3 => Ok.br (fun p4 => Ok.done ?_) (fun p4 => Ok.done ?_)) (fun p3 => Ok.done ?_)) (fun p2 => Ok.done ?_)) (fun p1 => Ok.br (fun p3 => Ok.br (fun p4 => Ok.done ?_) (fun p4 => Ok.done ?_)) (fun p3 => Ok.done ?_))
      all_goals (simp at *; omega)
     ·refine Ok.br (fun p1 => Ok.done ?_) (fun p1 => Ok.done ?_)
      ·show ¬ AllHex _
       intro h
       exact hb2.1 p1 (by rw [← hx]; exact h k hk)
      ·refine ⟨wi64_nat hk (by omega), fun i hi => ?_⟩
       by_cases h4 : i = k
       ·rw [h4, hx]; exact Classical.byContradiction fun hn => by rw [hb2.2 hn] at p1; simp at p1
       ·exact hd i (by omega)
    ·obtain ⟨rfl, hd⟩ := hy
     refine Ok.br (fun hc => by simp at hc) (fun hc => Ok.done ?_)
     exact fun i hi => hd i hi
   ·exact ⟨fun h => by simp at h, fun h => absurd h.2.2.2.2.1 he⟩
   ·have he : AllHex c.fFoundation := he
    refine Ok.cnd (R := fun b => (b = true ↔ ¬ (UsableA c.fAddr ∧ UsableA c.fBase ∧ (c.fAddr.fHost.size : Int) = (c.fBase.fHost.size : Int)))) ?_ fun b2 hb2 => ?_
    ·refine Ok.call (okRUSABLE _) fun r2 h2 => Ok.br (fun k2 => Ok.done ?_) (fun k2 => Ok.call (okRUSABLE _) fun r3 h3 => Ok.br (fun k3 => Ok.done ?_) (fun k3 => Ok.done ?_))
     ·simp only [Bool.not_eq_true'] at k2; subst k2
      exact ⟨fun _ h => by have := h2.2 h.1; simp at this, fun _ => rfl⟩
     ·simp only [Bool.not_eq_true'] at k3; subst k3
      exact ⟨fun _ h => by have := h3.2 h.2.1; simp at this, fun _ => rfl⟩
     ·simp only [Bool.not_eq_false'] at k2 k3
      have e2 := h2.1 k2; have e3 := h3.1 k3
      simp only [bne_iff_ne]
      exact ⟨fun h h' => h h'.2.2, fun h h' => h ⟨e2, e3, h'⟩⟩
    ·refine Ok.br (fun h2 => Ok.done ?_) (fun h2 => ?_)
     ·have := hb2.1 h2
      exact ⟨fun h => by simp at h, fun h => absurd ⟨h.2.2.2.2.2.1, h.2.2.2.2.2.2.1, h.2.2.2.2.2.2.2.1⟩ this⟩
     ·have hb3 : UsableA c.fAddr ∧ UsableA c.fBase ∧ (c.fAddr.fHost.size : Int) = (c.fBase.fHost.size : Int) :=
       Classical.byContradiction fun hn => by rw [hb2.2 hn] at h2; simp at h2
      refine Ok.cnd (R := fun b => (b = true ↔ (c.fAddr = c.fBase ∨ c.fKind = 2 ∨ c.fKind = 3))) ?_ fun b4 hb4 => Ok.done ?_
      ·have hk := hb'.1
       refine Ok.br (fun k1 => Ok.done ?_) (fun k1 => Ok.br (fun k2 => Ok.done ?_) (fun k2 => Ok.done ?_))
       ·exact ⟨fun _ => .inl (eA_iff.1 k1), fun _ => rfl⟩
       ·have hne : c.fAddr ≠ c.fBase := fun e => by rw [eA_iff.2 e] at k1; simp at k1
        simp only [bne_iff_ne] at k2 ⊢
        exact ⟨fun h => .inr (by omega), fun h => by rcases h with h | h; exact absurd h hne; omega⟩
       ·have hne : c.fAddr ≠ c.fBase := fun e => by rw [eA_iff.2 e] at k1; simp at k1
        simp only [bne_eq_false_iff_eq] at k2
        exact ⟨fun h => by simp at h, fun h => by rcases h with h | h; exact absurd h hne; omega⟩
      ·rw [hb4]
       exact ⟨fun h => ⟨hb'.1, hb'.2.1, hb'.2.2.1, hb'.2.2.2, he, hb3.1, hb3.2.1, hb3.2.2, h⟩, fun h => h.2.2.2.2.2.2.2.2⟩
def CandsOk (l : List SCandidate) : Prop := ∀ c, c ∈ l → CandOk c
theorem okCANDS (l : List SCandidate) (hl : l.length ≤ 1000000) : SOk (s23 l) (fun b => (b = true ↔ CandsOk l)) := by
 show Ok (g23 l) _
 unfold g23
 refine Ok.call (R := fun b => (b = true ↔ ¬ CandsOk l)) ?_ fun b hb => Ok.done ?_
 ·show Ok (g47 l) _
  unfold g47
  refine Ok.call (R := fun i => (0 ≤ i ↔ ¬ CandsOk l)) ?_ fun i hi => Ok.done (by simpa using hi)
  show Ok (g58 l) _
  unfold g58
  refine Ok.bind2 (R := fun e => match e with | .inl i => 0 ≤ i ∧ ¬ CandsOk l | .inr _ => CandsOk l) ?_ (fun e he => Ok.done ⟨fun _ => he.2, fun _ => he.1⟩) (fun e he => Ok.done ⟨fun h => by simp at h, fun h => absurd he h⟩)
  refine Ok.scan l.length hl (fun k y => y = (k : Int) ∧ ∀ j c, j < k → l[j]? = some c → CandOk c) ⟨rfl, fun j c h => by omega⟩ (fun k y hy hk => ?_) (fun y hy => ?_)
  ·obtain ⟨rfl, hd⟩ := hy
   rw [mlen_eq]
   refine Ok.br (fun hc => ?_) (fun hc => by simp at hc; omega)
   obtain ⟨x, hx1, hx2⟩ := get_lt hk
   refine Ok.row (by simp) hx1 ?_
   refine Ok.call (R := fun b => (b = true ↔ ¬ CandOk x)) ?_ fun b hb => ?_
   ·show Ok (g48 x) _
    unfold g48
    exact Ok.call (okCCHECK x) fun r hr => Ok.done (by rw [bne_iff_ne]; exact not_congr hr)
   ·refine Ok.br (fun p1 => Ok.done ?_) (fun p1 => Ok.done ?_)
    ·exact ⟨by omega, fun h => hb.1 p1 (h x (List.mem_of_getElem? hx2))⟩
    ·exact ⟨wi64_nat hk hl, upto2 (p := CandOk) hd hx2 (Classical.byContradiction fun hn => by rw [hb.2 hn] at p1; simp at p1)⟩
  ·obtain ⟨rfl, hd⟩ := hy
   rw [mlen_eq]
   refine Ok.br (fun hc => by simp at hc) (fun hc => Ok.done ?_)
   intro c hc
   obtain ⟨j, hj⟩ := List.mem_iff_getElem?.1 hc
   exact hd j c (List.getElem?_eq_some_iff.1 hj).1 hj
 ·cases b <;> simp at hb ⊢ <;> exact hb
end Go.Proofs.YtioobnkmohikjaaDoor
namespace Go.Proofs.YtioobnkmohikjaaDoor
open Go Go.EV
set_option maxRecDepth 100000
def c0 : SCandidate := ⟨0, 0, 0, ByteArray.empty, ⟨ByteArray.empty, 0⟩, ⟨ByteArray.empty, 0⟩⟩
def locC (l : SList) (x : SPair) : SCandidate := (l.fLocals[x.fLocal.toNat]?).getD c0
def remC (l : SList) (x : SPair) : SCandidate := (l.fRemotes[x.fRemote.toNat]?).getD c0
def InB (l : SList) (x : SPair) : Prop := (0 ≤ x.fLocal ∧ x.fLocal < (l.fLocals.length : Int)) ∧ (0 ≤ x.fRemote ∧ x.fRemote < (l.fRemotes.length : Int))
theorem InB.loc {l : SList} {x : SPair} (h : InB l x) : l.fLocals[x.fLocal.toNat]? = some (locC l x) := by
 obtain ⟨y, hy⟩ := at_of h.1.1 h.1.2
 unfold locC; rw [hy]; rfl
theorem InB.rem {l : SList} {x : SPair} (h : InB l x) : l.fRemotes[x.fRemote.toNat]? = some (remC l x) := by
 obtain ⟨y, hy⟩ := at_of h.2.1 h.2.2
 unfold remC; rw [hy]; rfl
theorem InB.lc {l : SList} {x : SPair} (h : InB l x) : decide (0 ≤ x.fLocal) = true := by simpa using h.1.1
theorem InB.rc {l : SList} {x : SPair} (h : InB l x) : decide (0 ≤ x.fRemote) = true := by simpa using h.2.1
theorem InB.locOk {l : SList} {x : SPair} (h : InB l x) (hc : CandsOk l.fLocals) : CandOk (locC l x) := hc _ (List.mem_of_getElem? h.loc)
theorem InB.remOk {l : SList} {x : SPair} (h : InB l x) (hc : CandsOk l.fRemotes) : CandOk (remC l x) := hc _ (List.mem_of_getElem? h.rem)
def ppr (a b : Int) : Int := if b < a then b * 4294967296 + 2 * a + 1 else a * 4294967296 + 2 * b
theorem okPP (a b : Int) (ha : 1 ≤ a ∧ a ≤ 2147483647) (hb : 1 ≤ b ∧ b ≤ 2147483647) : SOk (s11 a b) (fun r => r = (ppr a b, 0)) := by
 show Ok (g11 a b) _
 unfold g11
 refine Ok.cnd (R := fun c => c = false) (Ok.call (okWITHIN _ _ _) fun r hr => Ok.br (fun k => ?_) (fun k => Ok.call (okWITHIN _ _ _) fun r2 hr2 => Ok.done ?_)) fun c hc => ?_
 ·simp only [Bool.not_eq_true'] at k; subst k; have := hr.2 ha; simp at this
 ·cases r2 with
  | true => rfl
  | false => have := hr2.2 hb; simp at this
 ·subst hc
  have sh : ∀ x : Int, 1 ≤ x → x ≤ 2147483647 → bShl .i64 x 32 = x * 4294967296 := fun x h1 h2 => by
   show IntKind.i64.wrap (x * 2 ^ (min (32 : Int).toNat 64)) = _
   have e : (2 : Int) ^ (min (32 : Int).toNat 64) = 4294967296 := by decide
   rw [e]
   exact wi64_id (by omega) (by omega)
  refine Ok.brF rfl (Ok.br (fun h => Ok.done ?_) (fun h => Ok.done ?_))
  ·simp only [decide_eq_true_eq] at h
   have e1 : (if b < a then b else a) = b := if_pos h
   have e2 : (if b > a then b else a) = a := if_neg (by omega)
   rw [e1, e2, sh b hb.1 hb.2, wi64_id (n := 2 * a) (by omega) (by omega), wi64_id (n := b * 4294967296 + 2 * a) (by omega) (by omega), wi64_id (by omega) (by omega)]
   unfold ppr; rw [if_pos h]
  ·simp only [decide_eq_false_iff_not] at h
   have e1 : (if b < a then b else a) = a := if_neg h
   have e2 : (if b > a then b else a) = b := by split <;> omega
   rw [e1, e2, sh a ha.1 ha.2, wi64_id (n := 2 * b) (by omega) (by omega), wi64_id (by omega) (by omega)]
   unfold ppr; rw [if_neg h]
def prio (l : SList) (x : SPair) : Int := bif l.fControlling then ppr (locC l x).fPriority (remC l x).fPriority else ppr (remC l x).fPriority (locC l x).fPriority
def likeK (l : SList) (x : SPair) : SLike := ⟨(locC l x).fBase, (remC l x).fAddr, (locC l x).fComponent⟩
def foundK (l : SList) (x : SPair) : S2String := ⟨(locC l x).fFoundation, (remC l x).fFoundation⟩
theorem okLIKE (l : SList) (x : SPair) (h : InB l x) : SOk (s29 (SPlanner.mk l) x) (fun r => r = likeK l x) := by
 show Ok (g29 (SPlanner.mk l) x) _
 unfold g29
 exact Ok.row h.lc h.loc (Ok.row h.rc h.rem (Ok.done rfl))
theorem okFOUND (l : SList) (x : SPair) (h : InB l x) : SOk (s30 (SPlanner.mk l) x) (fun r => r = foundK l x) := by
 show Ok (g30 (SPlanner.mk l) x) _
 unfold g30
 exact Ok.row h.lc h.loc (Ok.row h.rc h.rem (Ok.done rfl))
def FitP (a b : SCandidate) : Prop := a.fComponent = b.fComponent ∧ (a.fAddr.fHost.size : Int) = (b.fAddr.fHost.size : Int)
theorem okFIT (a b : SCandidate) : SOk (s50 a b) (fun c => (c = true ↔ FitP a b)) := by
 show Ok (g50 a b) _
 unfold g50 FitP
 refine Ok.cnd (R := fun c => (c = true ↔ a.fComponent = b.fComponent ∧ (a.fAddr.fHost.size : Int) = (b.fAddr.fHost.size : Int))) ?_ fun c hc => Ok.done hc
 refine Ok.br (fun h => Ok.done ?_) (fun h => Ok.done ?_)
 ·rw [beq_iff_eq] at h ⊢; exact ⟨fun k => ⟨h, k⟩, fun k => k.2⟩
 ·rw [beq_eq_false_iff_ne] at h; exact ⟨fun k => by simp at k, fun k => absurd k.1 h⟩
theorem likeP_iff {a b : SLike} : ((decide (a.fbase.fHost = b.fbase.fHost)) && ((a.fbase.fPort == b.fbase.fPort) && ((decide (a.faddr.fHost = b.faddr.fHost)) && ((a.faddr.fPort == b.faddr.fPort) && ((a.fcomponent == b.fcomponent) && true))))) = true ↔ a = b := by
 obtain ⟨⟨a1, a2⟩, ⟨a3, a4⟩, a5⟩ := a
 obtain ⟨⟨b1, b2⟩, ⟨b3, b4⟩, b5⟩ := b
 simp only [Bool.and_eq_true, decide_eq_true_eq, beq_iff_eq, and_true, SLike.mk.injEq, SAddr.mk.injEq, and_assoc]
end Go.Proofs.YtioobnkmohikjaaDoor
namespace Go.Proofs.YtioobnkmohikjaaDoor
section
variable {α : Type} {lt : α → α → Prop}
def Sorts (lt : α → α → Prop) (l s : List α) : Prop := s.Perm l ∧ s.Pairwise lt
theorem pairwise_le {l : List α} (hl : l.Pairwise lt) {i j : Nat} {x y : α} (hi : l[i]? = some x) (hj : l[j]? = some y) (h : i < j) : lt x y := by
 obtain ⟨a, rfl⟩ := List.getElem?_eq_some_iff.1 hi
 obtain ⟨b, rfl⟩ := List.getElem?_eq_some_iff.1 hj
 exact List.pairwise_iff_getElem.1 hl i j a b h
theorem mem_take_at {l : List α} {n : Nat} {x : α} (h : x ∈ l.take n) : ∃ i, i < n ∧ l[i]? = some x := by
 obtain ⟨i, hi⟩ := List.mem_iff_getElem?.1 h
 rw [List.getElem?_take] at hi
 split at hi
 ·exact ⟨i, by assumption, hi⟩
 ·simp at hi
theorem mem_drop_at {l : List α} {n : Nat} {x : α} (h : x ∈ l.drop n) : ∃ i, n ≤ i ∧ l[i]? = some x := by
 obtain ⟨i, hi⟩ := List.mem_iff_getElem?.1 h
 rw [List.getElem?_drop] at hi
 exact ⟨n + i, by omega, hi⟩
theorem cut_lt (trans : ∀ x y z, lt x y → lt y z → lt x z) {l r : List α} (hl : l.Pairwise lt) (hr : r.Pairwise lt) {s t : Nat} (hs : s ≤ l.length) (ht : t ≤ r.length)
  (h1 : ∀ x y, 0 < s → l[s - 1]? = some x → r[t]? = some y → lt x y) (h2 : ∀ x y, 0 < t → r[t - 1]? = some x → l[s]? = some y → lt x y) :
  ∀ x, x ∈ l.take s ++ r.take t → ∀ y, y ∈ l.drop s ++ r.drop t → lt x y := by

 have cross : ∀ {p q : List α} {a b : Nat}, a ≤ p.length → p.Pairwise lt → q.Pairwise lt → (∀ x y, 0 < a → p[a - 1]? = some x → q[b]? = some y → lt x y) → ∀ x, x ∈ p.take a → ∀ y, y ∈ q.drop b → lt x y := by
  intro p q a b hap hp hq h x hx y hy
  obtain ⟨i, hi, hxi⟩ := mem_take_at hx
  obtain ⟨j, hj, hyj⟩ := mem_drop_at hy
  have ha : a - 1 < p.length ∨ p.length ≤ a - 1 := Nat.lt_or_ge _ _
  have hil := (List.getElem?_eq_some_iff.1 hxi).1
  have hjl := (List.getElem?_eq_some_iff.1 hyj).1
  have hb : q[b]? = some q[b] := List.getElem?_eq_getElem (by omega)
  have step : lt x q[b] → lt x y := fun hh => by
   rcases Nat.lt_or_ge b j with hbj | hbj
   ·exact trans _ _ _ hh (pairwise_le hq hb hyj hbj)
   ·obtain rfl : b = j := by omega
    rw [Option.some.inj (hyj.symm.trans hb)]; exact hh
  refine step ?_
  rcases ha with ha | ha
  ·have hpa : p[a - 1]? = some p[a - 1] := List.getElem?_eq_getElem ha
   have h0 := h _ _ (by omega) hpa hb
   rcases Nat.lt_or_ge i (a - 1) with hia | hia
   ·exact trans _ _ _ (pairwise_le hp hxi hpa hia) h0
   ·obtain rfl : i = a - 1 := by omega
    rw [Option.some.inj (hxi.symm.trans hpa)]; exact h0
  ·omega
 intro x hx y hy
 rcases List.mem_append.1 hx with hx | hx <;> rcases List.mem_append.1 hy with hy | hy
 ·obtain ⟨i, hi, hxi⟩ := mem_take_at hx
  obtain ⟨j, hj, hyj⟩ := mem_drop_at hy
  exact pairwise_le hl hxi hyj (by omega)
 ·exact cross hs hl hr h1 x hx y hy
 ·exact cross ht hr hl h2 x hx y hy
 ·obtain ⟨i, hi, hxi⟩ := mem_take_at hx
  obtain ⟨j, hj, hyj⟩ := mem_drop_at hy
  exact pairwise_le hr hxi hyj (by omega)
theorem Sorts.halves {l r a b : List α} {s t : Nat} (hc : ∀ x, x ∈ l.take s ++ r.take t → ∀ y, y ∈ l.drop s ++ r.drop t → lt x y)
  (ha : Sorts lt (l.take s ++ r.take t) a) (hb : Sorts lt (l.drop s ++ r.drop t) b) : Sorts lt (l ++ r) (a ++ b) := by
 refine ⟨?_, List.pairwise_append.2 ⟨ha.2, hb.2, fun x hx y hy => hc x (ha.1.mem_iff.1 hx) y (hb.1.mem_iff.1 hy)⟩⟩
 refine (ha.1.append hb.1).trans ?_
 have e : (l.take s ++ r.take t) ++ (l.drop s ++ r.drop t) = l.take s ++ (r.take t ++ l.drop s) ++ r.drop t := by simp
 rw [e]
 have p : (l.take s ++ (r.take t ++ l.drop s) ++ r.drop t).Perm (l.take s ++ (l.drop s ++ r.take t) ++ r.drop t) :=
  ((List.perm_append_comm).append_left _).append_right _
 refine p.trans ?_
 have e2 : l.take s ++ (l.drop s ++ r.take t) ++ r.drop t = l ++ r := by
  rw [← List.append_assoc, List.take_append_drop, List.append_assoc, List.take_append_drop]
 rw [e2]
end
end Go.Proofs.YtioobnkmohikjaaDoor
