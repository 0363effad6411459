/- Helps for the plain laws: loops over indices, maps that are sets.
   Guides and contracts, printed by a program.
   Guides and contracts, printed by a program.
   Guides and contracts, printed by a program.
   Guides and contracts, printed by a program.
   Guides and contracts, printed by a program.
   When a candidate is valid: the program and its reference hold one condition. No conditions. -/
import Derived.Test.YtioobnkmohikjaaGreatDoorM5
import Derived.Test.YtioobnkmohikjaaGreatDoorM6
import Derived.Test.YtioobnkmohikjaaGreatDoorProg
import Derived.Test.YtioobnkmohikjaaGreatDoorM7
import Derived.KernelRfl
namespace Go.Proofs.YtioobnkmohikjaaGreatDoor
open Go Go.EV
set_option maxRecDepth 100000
theorem wi64_id {n : Int} (h1 : -9223372036854775808 ≤ n) (h2 : n ≤ 9223372036854775807) : wi64 n = n := by
 unfold wi64 IntKind.wrap
 simp [IntKind.signed, IntKind.bits]
 omega
theorem fuel {n : Nat} (h : n ≤ 140737488355329) : n < FUEL := by unfold FUEL; omega
theorem at_of {α : Type} {l : List α} {i : Int} (h0 : 0 ≤ i) (h : i < (l.length : Int)) : ∃ y, l[i.toNat]? = some y :=
 ⟨l[i.toNat]'(by omega), List.getElem?_eq_getElem (by omega)⟩
theorem Ok.scan {P : Program} {G : Nat → Option (List V)} {σ ε : Type} {S : σ → Ext} {body : σ → T P G (σ ⊕ ε)} {x0 : σ} {R : ε → Prop} (n : Nat) (hn : n ≤ 1000000) (I : Nat → σ → Prop) (h0 : I 0 x0)
  (step : ∀ k y, I k y → k < n → Ok (body y) (Sum.elim (I (k + 1)) R)) (last : ∀ y, I n y → Ok (body y) (Sum.elim (fun _ => False) R)) : Ok (.lp S body x0) R := by
 have key : ∀ m k y, I k y → k ≤ n → n - k < m → ∃ e, iter (fun y => (body y).run) m y = some e ∧ R e := by
  intro m
  induction m with
  | zero => intro k y _ _ h; omega
  | succ m ih =>
   intro k y hy hk hm
   have e1 : iter (fun y => (body y).run) (m + 1) y = (match (body y).run with | none => none | some (.inl y) => iter (fun y => (body y).run) m y | some (.inr e) => some e) := rfl
   rw [e1]
   rcases Nat.lt_or_ge k n with h | h
   ·obtain ⟨r, hr, hq⟩ := step k y hy h
    rw [hr]
    cases r with
    | inl z => exact ih (k + 1) z hq (by omega) (by omega)
    | inr e => exact ⟨e, rfl, hq⟩
   ·have : k = n := by omega
    subst this
    obtain ⟨r, hr, hq⟩ := last y hy
    rw [hr]
    cases r with
    | inl z => exact hq.elim
    | inr e => exact ⟨e, rfl, hq⟩
 exact key FUEL 0 x0 h0 (Nat.zero_le _) (fuel (by omega))
theorem wi64_nat {k n : Nat} (h : k < n) (hn : n ≤ 1000000) : wi64 ((k : Int) + 1) = ((k + 1 : Nat) : Int) := by
 rw [wi64_id (by omega) (by omega)]; omega
theorem get_lt {α : Type} {l : List α} {k : Nat} (h : k < l.length) : ∃ x, l[((k : Int)).toNat]? = some x ∧ l[k]? = some x := ⟨l[k], by rw [Int.toNat_natCast]; exact List.getElem?_eq_getElem h, List.getElem?_eq_getElem h⟩
theorem upto2 {α : Type} {l : List α} {p : α → Prop} {k : Nat} {x : α} (h : ∀ j y, j < k → l[j]? = some y → p y) (hx : l[k]? = some x) (hp : p x) : ∀ j y, j < k + 1 → l[j]? = some y → p y := fun j y hj hy => by
 rcases Nat.lt_or_ge j k with h1 | h1
 ·exact h j y h1 hy
 ·have : j = k := by omega
  subst this
  rw [hx] at hy
  exact Option.some.inj hy ▸ hp
theorem mlook_set {α : Type} {l : List α} {p : α → Bool} {fv : α → Bool} (hv : ∀ e, e ∈ l → fv e = true) : mlook l p fv false = true ↔ ∃ e, e ∈ l ∧ p e = true := by
 unfold mlook
 cases h : l.findIdx? p with
 | none =>
  rw [List.findIdx?_eq_none_iff] at h
  simp only [Bool.false_eq_true, false_iff]
  rintro ⟨e, h1, h2⟩
  rw [h e h1] at h2; simp at h2
 | some j =>
  obtain ⟨h1, h2, _⟩ := List.findIdx?_eq_some_iff_getElem.1 h
  simp only [List.getElem?_eq_getElem h1]
  exact ⟨fun _ => ⟨l[j], List.getElem_mem h1, h2⟩, fun _ => hv _ (List.getElem_mem h1)⟩
theorem mput_mem {α : Type} {l : List α} {p : α → Bool} {y e : α} : e ∈ mput l p y → e = y ∨ e ∈ l := by
 unfold mput
 split
 ·intro h
  rcases List.mem_or_eq_of_mem_set h with h | h
  ·exact .inr h
  ·exact .inl h
 ·intro h
  rcases List.mem_append.1 h with h | h
  ·exact .inr h
  ·exact .inl (by simpa using h)
theorem mput_keys {α κ : Type} {l : List α} {fk : α → κ} {p : α → Bool} {y : α} {x : κ} (hp : ∀ e, p e = true ↔ x = fk e) (hy : fk y = x) (z : κ) : (∃ e, e ∈ mput l p y ∧ fk e = z) ↔ (∃ e, e ∈ l ∧ fk e = z) ∨ z = x := by
 constructor
 ·rintro ⟨e, h1, h2⟩
  rcases mput_mem h1 with rfl | h1
  ·exact .inr (h2.symm.trans hy)
  ·exact .inl ⟨e, h1, h2⟩
 ·unfold mput
  cases h : l.findIdx? p with
  | none =>
   rintro (⟨e, h1, h2⟩ | rfl)
   ·exact ⟨e, by simp [h1], h2⟩
   ·exact ⟨y, by simp, hy⟩
  | some j =>
   obtain ⟨h1, h2, _⟩ := List.findIdx?_eq_some_iff_getElem.1 h
   have hyin : y ∈ l.set j y := List.mem_iff_getElem?.2 ⟨j, List.getElem?_set_self h1⟩
   rintro (⟨e, k1, k2⟩ | rfl)
   ·obtain ⟨i, hi⟩ := List.mem_iff_getElem?.1 k1
    by_cases hij : i = j
    ·subst hij
     rw [List.getElem?_eq_getElem h1] at hi
     obtain rfl := Option.some.inj hi
     exact ⟨y, hyin, by rw [hy, ← k2]; exact (hp _).1 h2⟩
    ·exact ⟨e, List.mem_iff_getElem?.2 ⟨i, by rw [List.getElem?_set_ne (Ne.symm hij)]; exact hi⟩, k2⟩
   ·exact ⟨y, hyin, hy⟩
def SetOf {α κ : Type} (fk : α → κ) (fv : α → Bool) (l : List α) (ks : List κ) : Prop := (∀ e, e ∈ l → fv e = true) ∧ ∀ z, (∃ e, e ∈ l ∧ fk e = z) ↔ z ∈ ks
theorem SetOf.look {α κ : Type} {fk : α → κ} {fv : α → Bool} {l : List α} {ks : List κ} (h : SetOf fk fv l ks) {p : α → Bool} {x : κ} (hp : ∀ e, p e = true ↔ x = fk e) : mlook l p fv false = true ↔ x ∈ ks := by
 rw [mlook_set h.1, ← h.2 x]
 exact ⟨fun ⟨e, h1, h2⟩ => ⟨e, h1, ((hp e).1 h2).symm⟩, fun ⟨e, h1, h2⟩ => ⟨e, h1, (hp e).2 h2.symm⟩⟩
theorem SetOf.put {α κ : Type} {fk : α → κ} {fv : α → Bool} {l : List α} {ks : List κ} (h : SetOf fk fv l ks) {p : α → Bool} {x : κ} {y : α} (hp : ∀ e, p e = true ↔ x = fk e) (hy : fk y = x) (hv : fv y = true) : SetOf fk fv (mput l p y) (ks ++ [x]) := by
 refine ⟨fun e he => ?_, fun z => ?_⟩
 ·rcases mput_mem he with rfl | h1
  ·exact hv
  ·exact h.1 e h1
 ·rw [mput_keys hp hy z, h.2 z]; simp
theorem SetOf.nil {α κ : Type} (fk : α → κ) (fv : α → Bool) : SetOf fk fv [] [] := ⟨fun e h => by simp at h, fun z => by simp⟩
theorem nodup_app {κ : Type} {l : List κ} {x : κ} : (l ++ [x]).Nodup ↔ l.Nodup ∧ x ∉ l := by
 rw [List.nodup_append]
 simp only [List.nodup_cons, List.not_mem_nil, not_false_eq_true, List.nodup_nil, and_self, true_and, List.mem_cons, or_false]
 exact ⟨fun ⟨h1, h2⟩ => ⟨h1, fun h => h2 x h x rfl rfl⟩, fun ⟨h1, h2⟩ => ⟨h1, fun a ha b hb e => h2 (by rw [← hb, ← e]; exact ha)⟩⟩
section
variable {P : Program} {G : Nat → Option (List V)} {ρ : Type} {Q : ρ → Prop}
theorem Ok.opr {β : Type} {a : Nat} {R : Rule P G β} {k : β → T P G ρ} {r : β} (hr : R.o = some r) (h : Ok (k r) Q) : Ok (.opr a R k) Q := by
 obtain ⟨x, e, hq⟩ := h
 exact ⟨x, by simp only [T.run, hr]; exact e, hq⟩
theorem Ok.brT {a : Nat} {c : Bool} {x y : T P G ρ} (hc : c = true) (h : Ok x Q) : Ok (.br a c x y) Q := Ok.br (fun _ => h) fun e => by rw [hc] at e; simp at e
theorem Ok.brF {a : Nat} {c : Bool} {x y : T P G ρ} (hc : c = false) (h : Ok y Q) : Ok (.br a c x y) Q := Ok.br (fun e => by rw [hc] at e; simp at e) fun _ => h
end
end Go.Proofs.YtioobnkmohikjaaGreatDoor
namespace Go.Proofs.YtioobnkmohikjaaGreatDoor
open Go Go.EV
set_option maxRecDepth 100000
def GG : Nat → Option (List V) := fun _ => none
abbrev TT := T Tryz.prog GG
theorem mixed : Tryz.prog.follows .mixedOrders = true := by kernel_rfl
structure SAddr where
 fHost : ByteArray
 fPort : Int
structure SCandidate where
 fKind : Int
 fComponent : Int
 fPriority : Int
 fFoundation : ByteArray
 fAddr : SAddr
 fBase : SAddr
structure SHost where
 fs : ByteArray
structure SPair where
 fLocal : Int
 fRemote : Int
 fPriority : Int
 fState : Int
structure SList where
 fControlling : Bool
 fLocals : (List SCandidate)
 fRemotes : (List SCandidate)
 fPairs : (List SPair)
structure SPlanner where
 fList : SList
structure SLike where
 fbase : SAddr
 faddr : SAddr
 fcomponent : Int
structure S2String where
 a0 : ByteArray
 a1 : ByteArray
def tySCandidate : Ty SCandidate := ⟨fun x => [.int .i64 x.fKind, .int .i64 x.fComponent, .int .i64 x.fPriority, .str x.fFoundation, .str x.fAddr.fHost, .int .i64 x.fAddr.fPort, .str x.fBase.fHost, .int .i64 x.fBase.fPort], fun x => [.int .i64 x.fKind, .int .i64 x.fComponent, .int .i64 x.fPriority, .str x.fFoundation, .str x.fAddr.fHost, .int .i64 x.fAddr.fPort, .str x.fBase.fHost, .int .i64 x.fBase.fPort], fun _ => rfl, fun _ => rfl, fun _ _ => rfl, fun _ => rfl⟩
def tySPair : Ty SPair := ⟨fun x => [.int .i64 x.fLocal, .int .i64 x.fRemote, .int .i64 x.fPriority, .int .i64 x.fState], fun x => [.int .i64 x.fLocal, .int .i64 x.fRemote, .int .i64 x.fPriority, .int .i64 x.fState], fun _ => rfl, fun _ => rfl, fun _ _ => rfl, fun _ => rfl⟩
end Go.Proofs.YtioobnkmohikjaaGreatDoor
namespace Go.Proofs.YtioobnkmohikjaaGreatDoor
open Go Go.EV
set_option maxRecDepth 100000
noncomputable def g79 (p0 : Int) (p1 : Int) (p2 : Int) : TT (Bool) :=
 .cnd 1 [6]
 (.br 1005 (decide (p1 ≤ p0))
  (.done (decide (p0 ≤ p2)))
  (.done false))
 (fun (c1 : Bool) => [.bool c1]) fun c1 =>
 .done c1
theorem k79 (p0 : Int) (p1 : Int) (p2 : Int) : FnD Tryz.prog GG [0, 1, 2, 6] Tryz.f79 [.int .i64 p0, .int .i64 p1, .int .i64 p2] (g79 p0 p1 p2) (fun r => .bool r) := by unfold FnD; kernel_rfl
noncomputable def s79 (p0 : Int) (p1 : Int) (p2 : Int) : EV.Spec Tryz.prog GG (Bool) := .ofFn 79 mixed Tryz.func79 (k79 p0 p1 p2)
noncomputable def g66 (p0 : Int) : TT (Bool) :=
 .done (p0 != p0)
theorem k66 (p0 : Int) : FnD Tryz.prog GG [0, 2] Tryz.f66 [.int .i64 p0] (g66 p0) (fun r => .bool r) := by unfold FnD; kernel_rfl
noncomputable def s66 (p0 : Int) : EV.Spec Tryz.prog GG (Bool) := .ofFn 66 mixed Tryz.func66 (k66 p0)
noncomputable def g35 (p0 : Int) (p1 : Int) : TT (Int) :=
 .call 1002 (s66 p0) [] [] fun r2 =>
 .call 2002 (s66 p1) [] [] fun r3 =>
 .br 0 r2
 (.br 0 r3
  (.done 0)
  (.done (-1)))
 (.br 0 r3
  (.done 1)
  (.br 0 (decide (p0 < p1))
   (.done (-1))
   (.br 0 (decide (p1 < p0))
    (.done 1)
    (.done 0))))
theorem k35 (p0 : Int) (p1 : Int) : FnD Tryz.prog GG [0, 1, 4, 5, 6, 11, 12, 13, 16, 19] Tryz.f35 [.int .i64 p0, .int .i64 p1] (g35 p0 p1) (fun r => .int .i64 r) := by unfold FnD; kernel_rfl
noncomputable def s35 (p0 : Int) (p1 : Int) : EV.Spec Tryz.prog GG (Int) := .ofFn 35 mixed Tryz.func35 (k35 p0 p1)
noncomputable def g64 (p0 : SCandidate) (p1 : SCandidate) : TT (Bool) :=
 .cnd 1 [4]
 (.br 1007 (p0.fComponent == p1.fComponent)
  (.done ((p0.fAddr.fHost.size : Int) == (p1.fAddr.fHost.size : Int)))
  (.done false))
 (fun (c4 : Bool) => [.bool c4]) fun c4 =>
 .done c4
theorem k64 (p0 : SCandidate) (p1 : SCandidate) : FnD Tryz.prog GG [0, 1, 2, 3, 4] Tryz.f64 [.agg [.int .i64 p0.fKind, .int .i64 p0.fComponent, .int .i64 p0.fPriority, .str p0.fFoundation, .str p0.fAddr.fHost, .int .i64 p0.fAddr.fPort, .str p0.fBase.fHost, .int .i64 p0.fBase.fPort], .agg [.int .i64 p1.fKind, .int .i64 p1.fComponent, .int .i64 p1.fPriority, .str p1.fFoundation, .str p1.fAddr.fHost, .int .i64 p1.fAddr.fPort, .str p1.fBase.fHost, .int .i64 p1.fBase.fPort]] (g64 p0 p1) (fun r => .bool r) := by unfold FnD; kernel_rfl
noncomputable def s64 (p0 : SCandidate) (p1 : SCandidate) : EV.Spec Tryz.prog GG (Bool) := .ofFn 64 mixed Tryz.func64 (k64 p0 p1)
noncomputable def g102 (p0 : ByteArray) : TT (SHost × Int) :=
 .cnd 1 [11]
 (.br 1005 ((p0.size : Int) != 4)
  (.done ((p0.size : Int) != 16))
  (.done false))
 (fun (c5 : Bool) => [.bool c5]) fun c5 =>
 .br 0 c5
 (.done ((SHost.mk ByteArray.empty), 2))
 (.done ((SHost.mk p0), 0))
theorem k102 (p0 : ByteArray) : FnD Tryz.prog GG [0, 2, 3, 11] Tryz.f102 [.str p0] (g102 p0) (fun r => .tup [.agg [.str r.1.fs], .int .i64 r.2]) := by unfold FnD; kernel_rfl
noncomputable def s102 (p0 : ByteArray) : EV.Spec Tryz.prog GG (SHost × Int) := .ofFn 102 mixed Tryz.func102 (k102 p0)
noncomputable def g94 (p0 : SAddr) : TT (Int) :=
 .call 1003 (s102 p0.fHost) [] [] fun r6 =>
 .cnd 2 [22]
 (.br 2004 (r6.2 != 0)
  (.done true)
  (.br 2009 (decide (p0.fPort < 0))
   (.done true)
   (.done (decide ((65535 : Int) < p0.fPort)))))
 (fun (c7 : Bool) => [.bool c7]) fun c7 =>
 .br 0 c7
 (.done 2)
 (.done 0)
theorem k94 (p0 : SAddr) : FnD Tryz.prog GG [0, 1, 2, 4, 22] Tryz.f94 [.agg [.str p0.fHost, .int .i64 p0.fPort]] (g94 p0) (fun r => .int .i64 r) := by unfold FnD; kernel_rfl
noncomputable def s94 (p0 : SAddr) : EV.Spec Tryz.prog GG (Int) := .ofFn 94 mixed Tryz.func94 (k94 p0)
noncomputable def g83 (p0 : SAddr) : TT (Bool) :=
 .cnd 1 [2]
 (.call 1002 (s94 p0) [] [] fun r8 =>
  .br 1005 (r8 == 0)
  (.done (decide ((1 : Int) ≤ p0.fPort)))
  (.done false))
 (fun (c9 : Bool) => [.bool c9]) fun c9 =>
 .done c9
theorem k83 (p0 : SAddr) : FnD Tryz.prog GG [0, 1, 2] Tryz.f83 [.agg [.str p0.fHost, .int .i64 p0.fPort]] (g83 p0) (fun r => .bool r) := by unfold FnD; kernel_rfl
noncomputable def s83 (p0 : SAddr) : EV.Spec Tryz.prog GG (Bool) := .ofFn 83 mixed Tryz.func83 (k83 p0)
noncomputable def g71 (p0 : Int) (p1 : Int) : TT (Int × Int) :=
 .cnd 1 [14]
 (.call 1002 (s79 p0 1 2147483647) [] [] fun r10 =>
  .br 1005 (!r10)
  (.done true)
  (.call 1006 (s79 p1 1 2147483647) [] [] fun r11 =>
   .done (!r11)))
 (fun (c12 : Bool) => [.bool c12]) fun c12 =>
 .br 0 c12
 (.done (0, 2))
 (.br 0 (decide (p1 < p0))
  (.done ((wi64 ((wi64 ((bShl .i64 (if p1 < p0 then p1 else p0) 32) + (wi64 ((2 : Int) * (if p1 > p0 then p1 else p0))))) + 1)), 0))
  (.done ((wi64 ((bShl .i64 (if p1 < p0 then p1 else p0) 32) + (wi64 ((2 : Int) * (if p1 > p0 then p1 else p0))))), 0)))
theorem k71 (p0 : Int) (p1 : Int) : FnD Tryz.prog GG [0, 1, 4, 5, 6, 14, 26] Tryz.f71 [.int .i64 p0, .int .i64 p1] (g71 p0 p1) (fun r => .tup [.int .i64 r.1, .int .i64 r.2]) := by unfold FnD; kernel_rfl
noncomputable def s71 (p0 : Int) (p1 : Int) : EV.Spec Tryz.prog GG (Int × Int) := .ofFn 71 mixed Tryz.func71 (k71 p0 p1)
noncomputable def g56 (p0 : SPlanner) (p1 : SPair) : TT (Int) :=
 .row 1008 tySCandidate p0.fList.fLocals p1.fLocal.toNat (decide (0 ≤ p1.fLocal)) fun x13 =>
 .row 1018 tySCandidate p0.fList.fRemotes p1.fRemote.toNat (decide (0 ≤ p1.fRemote)) fun x14 =>
 .bind 0
 (.br 0 (!p0.fList.fControlling)
  (.done (x14.fPriority, x13.fPriority))
  (.done (x13.fPriority, x14.fPriority)))
 (fun (e15 : Int × Int) => Ext.lit .normal [(4, .int .i64 0), (5, .int .i64 e15.1), (6, .int .i64 e15.2)] [])
 (fun e15 =>
  .call 4003 (s71 e15.1 e15.2) [] [] fun r16 =>
  .done r16.1)
theorem k56 (p0 : SPlanner) (p1 : SPair) : FnD Tryz.prog GG [0, 1, 3, 4, 5, 6, 7, 34] Tryz.f56 [.snap [.bool p0.fList.fControlling, .sl false 8 (List.map tySCandidate.c p0.fList.fLocals), .sl false 8 (List.map tySCandidate.c p0.fList.fRemotes), .sl false 4 (List.map tySPair.c p0.fList.fPairs)], .agg [.int .i64 p1.fLocal, .int .i64 p1.fRemote, .int .i64 p1.fPriority, .int .i64 p1.fState]] (g56 p0 p1) (fun r => .int .i64 r) := by unfold FnD; kernel_rfl
noncomputable def s56 (p0 : SPlanner) (p1 : SPair) : EV.Spec Tryz.prog GG (Int) := .ofFn 56 mixed Tryz.func56 (k56 p0 p1)
noncomputable def g36 (p0 : SPlanner) (p1 : SPair) : TT (SLike) :=
 .row 1008 tySCandidate p0.fList.fLocals p1.fLocal.toNat (decide (0 ≤ p1.fLocal)) fun x17 =>
 .row 1017 tySCandidate p0.fList.fRemotes p1.fRemote.toNat (decide (0 ≤ p1.fRemote)) fun x18 =>
 .done (SLike.mk x17.fBase x18.fAddr x17.fComponent)
theorem k36 (p0 : SPlanner) (p1 : SPair) : FnD Tryz.prog GG [0, 1, 3, 4, 5, 6] Tryz.f36 [.snap [.bool p0.fList.fControlling, .sl false 8 (List.map tySCandidate.c p0.fList.fLocals), .sl false 8 (List.map tySCandidate.c p0.fList.fRemotes), .sl false 4 (List.map tySPair.c p0.fList.fPairs)], .agg [.int .i64 p1.fLocal, .int .i64 p1.fRemote, .int .i64 p1.fPriority, .int .i64 p1.fState]] (g36 p0 p1) (fun r => .agg [.str r.fbase.fHost, .int .i64 r.fbase.fPort, .str r.faddr.fHost, .int .i64 r.faddr.fPort, .int .i64 r.fcomponent]) := by unfold FnD; kernel_rfl
noncomputable def s36 (p0 : SPlanner) (p1 : SPair) : EV.Spec Tryz.prog GG (SLike) := .ofFn 36 mixed Tryz.func36 (k36 p0 p1)
noncomputable def g37 (p0 : SPlanner) (p1 : SPair) : TT (S2String) :=
 .row 1008 tySCandidate p0.fList.fLocals p1.fLocal.toNat (decide (0 ≤ p1.fLocal)) fun x19 =>
 .row 1018 tySCandidate p0.fList.fRemotes p1.fRemote.toNat (decide (0 ≤ p1.fRemote)) fun x20 =>
 .done (S2String.mk x19.fFoundation x20.fFoundation)
theorem k37 (p0 : SPlanner) (p1 : SPair) : FnD Tryz.prog GG [0, 1, 3, 4] Tryz.f37 [.snap [.bool p0.fList.fControlling, .sl false 8 (List.map tySCandidate.c p0.fList.fLocals), .sl false 8 (List.map tySCandidate.c p0.fList.fRemotes), .sl false 4 (List.map tySPair.c p0.fList.fPairs)], .agg [.int .i64 p1.fLocal, .int .i64 p1.fRemote, .int .i64 p1.fPriority, .int .i64 p1.fState]] (g37 p0 p1) (fun r => .agg [.str r.a0, .str r.a1]) := by unfold FnD; kernel_rfl
noncomputable def s37 (p0 : SPlanner) (p1 : SPair) : EV.Spec Tryz.prog GG (S2String) := .ofFn 37 mixed Tryz.func37 (k37 p0 p1)
noncomputable def g38 (p0 : SPlanner) (p1 : SPair) : TT (Int) :=
 .row 1008 tySCandidate p0.fList.fLocals p1.fLocal.toNat (decide (0 ≤ p1.fLocal)) fun x21 =>
 .done x21.fComponent
theorem k38 (p0 : SPlanner) (p1 : SPair) : FnD Tryz.prog GG [0, 1, 3, 4] Tryz.f38 [.snap [.bool p0.fList.fControlling, .sl false 8 (List.map tySCandidate.c p0.fList.fLocals), .sl false 8 (List.map tySCandidate.c p0.fList.fRemotes), .sl false 4 (List.map tySPair.c p0.fList.fPairs)], .agg [.int .i64 p1.fLocal, .int .i64 p1.fRemote, .int .i64 p1.fPriority, .int .i64 p1.fState]] (g38 p0 p1) (fun r => .int .i64 r) := by unfold FnD; kernel_rfl
noncomputable def s38 (p0 : SPlanner) (p1 : SPair) : EV.Spec Tryz.prog GG (Int) := .ofFn 38 mixed Tryz.func38 (k38 p0 p1)
noncomputable def g45 (p0 : (List SCandidate)) (p1 : (List SCandidate)) : TT (Bool) :=
 .br 0 ((mlen tySCandidate p0) != (mlen tySCandidate p1))
 (.done false)
 (.bind2 1
  (.lp (fun (l25 : Int) => Ext.lit .normal [(0, .sl false 8 (List.map tySCandidate.c p0)), (1, .sl false 8 (List.map tySCandidate.c p1)), (4, .bool false), (5, .int .i64 l25)] [])
   (fun l25 =>
    .br 0 (decide (l25 < (mlen tySCandidate p0)))
    (.row 6003 tySCandidate p0 l25.toNat (decide (0 ≤ l25)) fun x26 =>
     .row 6007 tySCandidate p1 l25.toNat (decide (0 ≤ l25)) fun x27 =>
     .br 0 (!((x26.fKind == x27.fKind) && ((x26.fComponent == x27.fComponent) && ((x26.fPriority == x27.fPriority) && ((decide (x26.fFoundation = x27.fFoundation)) && ((decide (x26.fAddr.fHost = x27.fAddr.fHost)) && ((x26.fAddr.fPort == x27.fAddr.fPort) && ((decide (x26.fBase.fHost = x27.fBase.fHost)) && ((x26.fBase.fPort == x27.fBase.fPort) && true)))))))))
     (.done (.inr (.inl ())))
     (.done (.inl (wi64 (l25 + 1)))))
    (.done (.inr (.inr ()))))
   0)
  (fun (_ : Unit) => Ext.lit .ret [(4, .bool false)] [])
  (fun (_ : Unit) => Ext.lit (.exit 0) [(4, .bool false)] [])
  (fun _ =>
   .done false)
  (fun _ =>
   .done true))
theorem k45 (p0 : (List SCandidate)) (p1 : (List SCandidate)) : FnD Tryz.prog GG [0, 1, 4, 5, 10, 14, 25] Tryz.f45 [.sl false 8 (List.map tySCandidate.c p0), .sl false 8 (List.map tySCandidate.c p1)] (g45 p0 p1) (fun r => .bool r) := by unfold FnD; kernel_rfl
noncomputable def s45 (p0 : (List SCandidate)) (p1 : (List SCandidate)) : EV.Spec Tryz.prog GG (Bool) := .ofFn 45 mixed Tryz.func45 (k45 p0 p1)
noncomputable def g44 (p0 : SList) (p1 : SPair) (p2 : SPair) : TT (Bool) :=
 .cnd 1 [6]
 (.row 1005 tySCandidate p0.fLocals p1.fLocal.toNat (decide (0 ≤ p1.fLocal)) fun x30 =>
  .row 1012 tySCandidate p0.fLocals p2.fLocal.toNat (decide (0 ≤ p2.fLocal)) fun x31 =>
  .br 1017 (decide (x30.fFoundation = x31.fFoundation))
  (.row 1021 tySCandidate p0.fRemotes p1.fRemote.toNat (decide (0 ≤ p1.fRemote)) fun x32 =>
   .row 1028 tySCandidate p0.fRemotes p2.fRemote.toNat (decide (0 ≤ p2.fRemote)) fun x33 =>
   .done (decide (x32.fFoundation = x33.fFoundation)))
  (.done false))
 (fun (c34 : Bool) => [.bool c34]) fun c34 =>
 .done c34
theorem k44 (p0 : SList) (p1 : SPair) (p2 : SPair) : FnD Tryz.prog GG [0, 1, 2, 3, 4, 5, 6] Tryz.f44 [.agg [.bool p0.fControlling, .sl false 8 (List.map tySCandidate.c p0.fLocals), .sl false 8 (List.map tySCandidate.c p0.fRemotes), .sl false 4 (List.map tySPair.c p0.fPairs)], .agg [.int .i64 p1.fLocal, .int .i64 p1.fRemote, .int .i64 p1.fPriority, .int .i64 p1.fState], .agg [.int .i64 p2.fLocal, .int .i64 p2.fRemote, .int .i64 p2.fPriority, .int .i64 p2.fState]] (g44 p0 p1 p2) (fun r => .bool r) := by unfold FnD; kernel_rfl
noncomputable def s44 (p0 : SList) (p1 : SPair) (p2 : SPair) : EV.Spec Tryz.prog GG (Bool) := .ofFn 44 mixed Tryz.func44 (k44 p0 p1 p2)
noncomputable def g28 (p0 : SList) (p1 : Int) (p2 : Int) (p3 : Int) (p4 : Int) : TT (Bool) :=
 .cnd 1 [10]
 (.br 1007 (decide (p1 < (mlen tySPair p0.fPairs)))
  (.row 1010 tySPair p0.fPairs p1.toNat (decide (0 ≤ p1)) fun x40 =>
   .br 1017 (x40.fLocal == p2)
   (.row 1020 tySPair p0.fPairs p1.toNat (decide (0 ≤ p1)) fun x41 =>
    .br 1027 (x41.fRemote == p3)
    (.row 1030 tySPair p0.fPairs p1.toNat (decide (0 ≤ p1)) fun x42 =>
     .done (x42.fState == p4))
    (.done false))
   (.done false))
  (.done false))
 (fun (c43 : Bool) => [.bool c43]) fun c43 =>
 .done c43
theorem k28 (p0 : SList) (p1 : Int) (p2 : Int) (p3 : Int) (p4 : Int) : FnD Tryz.prog GG [0, 1, 2, 3, 4, 5, 10] Tryz.f28 [.agg [.bool p0.fControlling, .sl false 8 (List.map tySCandidate.c p0.fLocals), .sl false 8 (List.map tySCandidate.c p0.fRemotes), .sl false 4 (List.map tySPair.c p0.fPairs)], .int .i64 p1, .int .i64 p2, .int .i64 p3, .int .i64 p4] (g28 p0 p1 p2 p3 p4) (fun r => .bool r) := by unfold FnD; kernel_rfl
noncomputable def s28 (p0 : SList) (p1 : Int) (p2 : Int) (p3 : Int) (p4 : Int) : EV.Spec Tryz.prog GG (Bool) := .ofFn 28 mixed Tryz.func28 (k28 p0 p1 p2 p3 p4)
noncomputable def g68 (p0 : Int) (p1 : Int) : TT (Int × Int) :=
 .cnd 1 [19]
 (.br 1004 (decide (p0 < 1))
  (.done true)
  (.br 1008 (decide ((2147483647 : Int) < p0))
   (.done true)
   (.br 1012 (decide (p1 < 1))
    (.done true)
    (.done (decide ((2147483647 : Int) < p1))))))
 (fun (c44 : Bool) => [.bool c44]) fun c44 =>
 .br 0 c44
 (.done (0, 2))
 (.br 0 (decide (p1 < p0))
  (.done ((wi64 ((wi64 ((wi64 (p1 * 4294967296)) + (wi64 ((2 : Int) * p0)))) + 1)), 0))
  (.done ((wi64 ((wi64 (p0 * 4294967296)) + (wi64 ((2 : Int) * p1)))), 0)))
theorem k68 (p0 : Int) (p1 : Int) : FnD Tryz.prog GG [0, 1, 4, 5, 19, 22] Tryz.f68 [.int .i64 p0, .int .i64 p1] (g68 p0 p1) (fun r => .tup [.int .i64 r.1, .int .i64 r.2]) := by unfold FnD; kernel_rfl
noncomputable def s68 (p0 : Int) (p1 : Int) : EV.Spec Tryz.prog GG (Int × Int) := .ofFn 68 mixed Tryz.func68 (k68 p0 p1)
noncomputable def g40 (p0 : SCandidate) (p1 : SCandidate) : TT (Bool) :=
 .cnd 1 [4]
 (.br 1007 (p0.fComponent == p1.fComponent)
  (.done ((p0.fAddr.fHost.size : Int) == (p1.fAddr.fHost.size : Int)))
  (.done false))
 (fun (c45 : Bool) => [.bool c45]) fun c45 =>
 .done c45
theorem k40 (p0 : SCandidate) (p1 : SCandidate) : FnD Tryz.prog GG [0, 1, 2, 3, 4] Tryz.f40 [.agg [.int .i64 p0.fKind, .int .i64 p0.fComponent, .int .i64 p0.fPriority, .str p0.fFoundation, .str p0.fAddr.fHost, .int .i64 p0.fAddr.fPort, .str p0.fBase.fHost, .int .i64 p0.fBase.fPort], .agg [.int .i64 p1.fKind, .int .i64 p1.fComponent, .int .i64 p1.fPriority, .str p1.fFoundation, .str p1.fAddr.fHost, .int .i64 p1.fAddr.fPort, .str p1.fBase.fHost, .int .i64 p1.fBase.fPort]] (g40 p0 p1) (fun r => .bool r) := by unfold FnD; kernel_rfl
noncomputable def s40 (p0 : SCandidate) (p1 : SCandidate) : EV.Spec Tryz.prog GG (Bool) := .ofFn 40 mixed Tryz.func40 (k40 p0 p1)
noncomputable def g41 (p0 : SList) (p1 : SPair) : TT (Int) :=
 .row 1005 tySCandidate p0.fLocals p1.fLocal.toNat (decide (0 ≤ p1.fLocal)) fun x46 =>
 .row 1012 tySCandidate p0.fRemotes p1.fRemote.toNat (decide (0 ≤ p1.fRemote)) fun x47 =>
 .br 0 p0.fControlling
 (.call 3003 (s68 x46.fPriority x47.fPriority) [] [] fun r48 =>
  .done r48.1)
 (.call 5003 (s68 x47.fPriority x46.fPriority) [] [] fun r49 =>
  .done r49.1)
theorem k41 (p0 : SList) (p1 : SPair) : FnD Tryz.prog GG [0, 1, 2, 3, 4, 5, 6, 7, 9, 26] Tryz.f41 [.agg [.bool p0.fControlling, .sl false 8 (List.map tySCandidate.c p0.fLocals), .sl false 8 (List.map tySCandidate.c p0.fRemotes), .sl false 4 (List.map tySPair.c p0.fPairs)], .agg [.int .i64 p1.fLocal, .int .i64 p1.fRemote, .int .i64 p1.fPriority, .int .i64 p1.fState]] (g41 p0 p1) (fun r => .int .i64 r) := by unfold FnD; kernel_rfl
noncomputable def s41 (p0 : SList) (p1 : SPair) : EV.Spec Tryz.prog GG (Int) := .ofFn 41 mixed Tryz.func41 (k41 p0 p1)
noncomputable def g42 (p0 : SPair) (p1 : SPair) : TT (Bool) :=
 .br 0 (p0.fPriority != p1.fPriority)
 (.done (decide (p1.fPriority < p0.fPriority)))
 (.br 0 (p0.fLocal != p1.fLocal)
  (.done (decide (p0.fLocal < p1.fLocal)))
  (.done (decide (p0.fRemote < p1.fRemote))))
theorem k42 (p0 : SPair) (p1 : SPair) : FnD Tryz.prog GG [0, 1, 2, 3, 4, 9, 19] Tryz.f42 [.agg [.int .i64 p0.fLocal, .int .i64 p0.fRemote, .int .i64 p0.fPriority, .int .i64 p0.fState], .agg [.int .i64 p1.fLocal, .int .i64 p1.fRemote, .int .i64 p1.fPriority, .int .i64 p1.fState]] (g42 p0 p1) (fun r => .bool r) := by unfold FnD; kernel_rfl
noncomputable def s42 (p0 : SPair) (p1 : SPair) : EV.Spec Tryz.prog GG (Bool) := .ofFn 42 mixed Tryz.func42 (k42 p0 p1)
noncomputable def g43 (p0 : SList) (p1 : SPair) (p2 : SPair) : TT (Bool) :=
 .row 1005 tySCandidate p0.fLocals p1.fLocal.toNat (decide (0 ≤ p1.fLocal)) fun x50 =>
 .row 1011 tySCandidate p0.fRemotes p1.fRemote.toNat (decide (0 ≤ p1.fRemote)) fun x51 =>
 .row 1017 tySCandidate p0.fLocals p2.fLocal.toNat (decide (0 ≤ p2.fLocal)) fun x52 =>
 .row 1023 tySCandidate p0.fRemotes p2.fRemote.toNat (decide (0 ≤ p2.fRemote)) fun x53 =>
 .cnd 2 [6]
 (.br 2007 ((decide (x50.fBase.fHost = x52.fBase.fHost)) && ((x50.fBase.fPort == x52.fBase.fPort) && true))
  (.br 2014 ((decide (x51.fAddr.fHost = x53.fAddr.fHost)) && ((x51.fAddr.fPort == x53.fAddr.fPort) && true))
   (.done (x50.fComponent == x52.fComponent))
   (.done false))
  (.done false))
 (fun (c54 : Bool) => [.bool c54]) fun c54 =>
 .done c54
theorem k43 (p0 : SList) (p1 : SPair) (p2 : SPair) : FnD Tryz.prog GG [0, 1, 2, 3, 4, 5, 6, 7, 8, 9, 10] Tryz.f43 [.agg [.bool p0.fControlling, .sl false 8 (List.map tySCandidate.c p0.fLocals), .sl false 8 (List.map tySCandidate.c p0.fRemotes), .sl false 4 (List.map tySPair.c p0.fPairs)], .agg [.int .i64 p1.fLocal, .int .i64 p1.fRemote, .int .i64 p1.fPriority, .int .i64 p1.fState], .agg [.int .i64 p2.fLocal, .int .i64 p2.fRemote, .int .i64 p2.fPriority, .int .i64 p2.fState]] (g43 p0 p1 p2) (fun r => .bool r) := by unfold FnD; kernel_rfl
noncomputable def s43 (p0 : SList) (p1 : SPair) (p2 : SPair) : EV.Spec Tryz.prog GG (Bool) := .ofFn 43 mixed Tryz.func43 (k43 p0 p1 p2)
noncomputable def g57 (p0 : SList) : TT ((List SPair)) :=
 .app 2004 tySPair [] p0.fPairs 32 true (by intros; rfl) (.done ([] ++ p0.fPairs))
theorem k57 (p0 : SList) : FnB Tryz.prog GG [0, 1, 2, 3] Tryz.f57 [.agg [.bool p0.fControlling, .sl false 8 (List.map tySCandidate.c p0.fLocals), .sl false 8 (List.map tySCandidate.c p0.fRemotes), .sl false 4 (List.map tySPair.c p0.fPairs)]] (Ext.of .normal (argTs [.agg [.bool p0.fControlling, .sl false 8 (List.map tySCandidate.c p0.fLocals), .sl false 8 (List.map tySCandidate.c p0.fRemotes), .sl false 4 (List.map tySPair.c p0.fPairs)]]) [] [] (by rfl)) (g57 p0) (fun (r : (List SPair)) => .agg [.bool p0.fControlling, .sl false 8 (List.map tySCandidate.c p0.fLocals), .sl false 8 (List.map tySCandidate.c p0.fRemotes), .ref 7 0 r.length]) (fun (r : (List SPair)) => Ext.of .normal [] [] [BT.of 7 tySPair 4 r true] (by rfl)) := by unfold FnB; kernel_rfl
noncomputable def s57 (p0 : SList) : EV.Spec Tryz.prog GG ((List SPair)) := .ofFnB 57 [7] mixed Tryz.func57 rfl (fun _ => rfl) (k57 p0)
noncomputable def g59 (p0 : Int) : TT (SAddr) :=
 .br 0 ((Int.tmod p0 8) == 7)
 (.done (SAddr.mk (strOfNums [32, 1, 13, 184, 0, 0, 0, 0, 0, 0, 0, 0, 0, 0, 0, (Int.tmod (wu8 (Int.tdiv p0 8)) 3)]) (wi64 ((1 : Int) + (wi64 (wu8 (Int.tdiv p0 24)))))))
 (.done (SAddr.mk (strOfNums [10, 0, 0, (Int.tmod p0 8)]) (wi64 ((1 : Int) + (wi64 (Int.tmod (wu8 (Int.tdiv p0 8)) 4))))))
theorem k59 (p0 : Int) : FnD Tryz.prog GG [0, 2, 5] Tryz.f59 [.int .u8 p0] (g59 p0) (fun r => .agg [.str r.fHost, .int .i64 r.fPort]) := by unfold FnD; kernel_rfl
noncomputable def s59 (p0 : Int) : EV.Spec Tryz.prog GG (SAddr) := .ofFn 59 mixed Tryz.func59 (k59 p0)
noncomputable def g96 (p0 : ByteArray) : TT (Bool) :=
 .cnd 1 [2]
 (.br 1005 ((p0.size : Int) == 4)
  (.done true)
  (.done ((p0.size : Int) == 16)))
 (fun (c55 : Bool) => [.bool c55]) fun c55 =>
 .done c55
theorem k96 (p0 : ByteArray) : FnD Tryz.prog GG [0, 2] Tryz.f96 [.str p0] (g96 p0) (fun r => .bool r) := by unfold FnD; kernel_rfl
noncomputable def s96 (p0 : ByteArray) : EV.Spec Tryz.prog GG (Bool) := .ofFn 96 mixed Tryz.func96 (k96 p0)
noncomputable def g85 (p0 : SAddr) : TT (Bool) :=
 .cnd 1 [2]
 (.call 1003 (s96 p0.fHost) [] [] fun r56 =>
  .br 1005 r56
  (.br 1010 (decide ((0 : Int) ≤ p0.fPort))
   (.done (decide (p0.fPort ≤ 65535)))
   (.done false))
  (.done false))
 (fun (c57 : Bool) => [.bool c57]) fun c57 =>
 .done c57
theorem k85 (p0 : SAddr) : FnD Tryz.prog GG [0, 1, 2] Tryz.f85 [.agg [.str p0.fHost, .int .i64 p0.fPort]] (g85 p0) (fun r => .bool r) := by unfold FnD; kernel_rfl
noncomputable def s85 (p0 : SAddr) : EV.Spec Tryz.prog GG (Bool) := .ofFn 85 mixed Tryz.func85 (k85 p0)
noncomputable def g78 (p0 : SAddr) : TT (Bool) :=
 .cnd 1 [2]
 (.call 1002 (s85 p0) [] [] fun r58 =>
  .br 1004 r58
  (.done (decide ((1 : Int) ≤ p0.fPort)))
  (.done false))
 (fun (c59 : Bool) => [.bool c59]) fun c59 =>
 .done c59
theorem k78 (p0 : SAddr) : FnD Tryz.prog GG [0, 1, 2] Tryz.f78 [.agg [.str p0.fHost, .int .i64 p0.fPort]] (g78 p0) (fun r => .bool r) := by unfold FnD; kernel_rfl
noncomputable def s78 (p0 : SAddr) : EV.Spec Tryz.prog GG (Bool) := .ofFn 78 mixed Tryz.func78 (k78 p0)
noncomputable def g10 (p0 : (List SCandidate)) : TT ((List SCandidate)) :=
 .chk 2005 (decide (0 ≤ (if (14 : Int) < (mlen tySCandidate p0) then (14 : Int) else (mlen tySCandidate p0))) && decide ((if (14 : Int) < (mlen tySCandidate p0) then (14 : Int) else (mlen tySCandidate p0)) ≤ ((mlenn tySCandidate p0) : Int))) (.re 2005 (ReW.cutHi 10 8 tySCandidate p0 ((if (14 : Int) < (mlen tySCandidate p0) then (14 : Int) else (mlen tySCandidate p0)).toNat)) (.gh 1 (.virt 600002 3 8) (.bind 0
 (.lp (fun (l62 : (List SCandidate) × Int) => Ext.of .normal [(2, .nilsl), (3, .ref 600002 0 l62.1.length), (10, .sl false 8 (List.map tySCandidate.c (p0.take ((if (14 : Int) < (mlen tySCandidate p0) then (14 : Int) else (mlen tySCandidate p0)).toNat)))), (11, .int .i64 (mlen tySCandidate (p0.take ((if (14 : Int) < (mlen tySCandidate p0) then (14 : Int) else (mlen tySCandidate p0)).toNat)))), (12, .int .i64 l62.2)] [] [BT.of 600002 tySCandidate 8 l62.1 true] (by rfl))
  (fun l62 =>
   .br 0 (decide (l62.2 < (mlen tySCandidate (p0.take ((if (14 : Int) < (mlen tySCandidate p0) then (14 : Int) else (mlen tySCandidate p0)).toNat)))))
   (.row 4001 tySCandidate (p0.take ((if (14 : Int) < (mlen tySCandidate p0) then (14 : Int) else (mlen tySCandidate p0)).toNat)) l62.2.toNat (decide (0 ≤ l62.2)) fun x63 =>
    .chk 5007 (decide (0 ≤ (if (100 : Int) < (x63.fFoundation.size : Int) then (100 : Int) else (x63.fFoundation.size : Int))) && decide ((if (100 : Int) < (x63.fFoundation.size : Int) then (100 : Int) else (x63.fFoundation.size : Int)) ≤ (x63.fFoundation.size : Int))) (.app 6004 tySCandidate l62.1 [(SCandidate.mk x63.fKind x63.fComponent x63.fPriority (x63.fFoundation.extract 0 ((if (100 : Int) < (x63.fFoundation.size : Int) then (100 : Int) else (x63.fFoundation.size : Int)).toNat)) x63.fAddr x63.fBase)] 88 false (by intro h; cases h) (.gh 0 (.drop [600002]) (.gh 0 (.ren 27 600002) (.done (.inl ((l62.1 ++ [(SCandidate.mk x63.fKind x63.fComponent x63.fPriority (x63.fFoundation.extract 0 ((if (100 : Int) < (x63.fFoundation.size : Int) then (100 : Int) else (x63.fFoundation.size : Int)).toNat)) x63.fAddr x63.fBase)]), (wi64 (l62.2 + 1)))))))))
   (.done (.inr l62.1)))
  ([], 0))
 (fun (e64 : (List SCandidate)) => Ext.of (.exit 0) [(2, .nilsl), (3, .ref 600002 0 e64.length)] [] [BT.of 600002 tySCandidate 8 e64 true] (by rfl))
 (fun e64 =>
  .gh 0 (.share (VwW.of 600002 tySCandidate e64) 1) (.done e64)))))
theorem k10 (p0 : (List SCandidate)) : FnD Tryz.prog GG [0, 2, 3, 5, 10, 11, 12, 13] Tryz.f10 [.sl false 8 (List.map tySCandidate.c p0)] (g10 p0) (fun r => .sl false 8 (List.map tySCandidate.c r)) := by unfold FnD; kernel_rfl
noncomputable def s10 (p0 : (List SCandidate)) : EV.Spec Tryz.prog GG ((List SCandidate)) := .ofFn 10 mixed Tryz.func10 (k10 p0)
noncomputable def g89  : TT (Unit) :=
 .tt (.ff (.tt (.ff (.tt (.ff (.tt (.ff (.tt (.ff (.tt (.ff (.tt (.ff (.tt (.ff (.tt (.ff (.tt (.ff (.tt (.ff (.tt (.ff (.tt (.ff (.tt (.ff (.tt (.ff (.tt (.ff (.tt (.ff (.ff (.done ())))))))))))))))))))))))))))))))))))
theorem k89  : FnB Tryz.prog GG [0, 2, 3, 4, 5, 9, 16] Tryz.f89 [.str (bs [48, 49, 50, 51, 52, 53, 54, 55, 56, 57, 97, 98, 99, 100, 101, 102, 45])] (Ext.of .normal (argTs [.str (bs [48, 49, 50, 51, 52, 53, 54, 55, 56, 57, 97, 98, 99, 100, 101, 102, 45])]) [] [] (by rfl)) (g89) (fun (_ : Unit) => .tup [.agg [.bool false, .bool false, .bool false, .bool false, .bool false, .bool false, .bool false, .bool false, .bool false, .bool false, .bool false, .bool false, .bool false, .bool false, .bool false, .bool false, .bool false, .bool false, .bool false, .bool false, .bool false, .bool false, .bool false, .bool false, .bool false, .bool false, .bool false, .bool false, .bool false, .bool false, .bool false, .bool false, .bool false, .bool false, .bool false, .bool false, .bool false, .bool false, .bool false, .bool false, .bool false, .bool false, .bool false, .bool false, .bool false, .bool true, .bool false, .bool false, .bool true, .bool true, .bool true, .bool true, .bool true, .bool true, .bool true, .bool true, .bool true, .bool true, .bool false, .bool false, .bool false, .bool false, .bool false, .bool false, .bool false, .bool false, .bool false, .bool false, .bool false, .bool false, .bool false, .bool false, .bool false, .bool false, .bool false, .bool false, .bool false, .bool false, .bool false, .bool false, .bool false, .bool false, .bool false, .bool false, .bool false, .bool false, .bool false, .bool false, .bool false, .bool false, .bool false, .bool false, .bool false, .bool false, .bool false, .bool false, .bool false, .bool true, .bool true, .bool true, .bool true, .bool true, .bool true, .bool false, .bool false, .bool false, .bool false, .bool false, .bool false, .bool false, .bool false, .bool false, .bool false, .bool false, .bool false, .bool false, .bool false, .bool false, .bool false, .bool false, .bool false, .bool false, .bool false, .bool false, .bool false, .bool false, .bool false, .bool false, .bool false, .bool false, .bool false, .bool false, .bool false, .bool false, .bool false, .bool false, .bool false, .bool false, .bool false, .bool false, .bool false, .bool false, .bool false, .bool false, .bool false, .bool false, .bool false, .bool false, .bool false, .bool false, .bool false, .bool false, .bool false, .bool false, .bool false, .bool false, .bool false, .bool false, .bool false, .bool false, .bool false, .bool false, .bool false, .bool false, .bool false, .bool false, .bool false, .bool false, .bool false, .bool false, .bool false, .bool false, .bool false, .bool false, .bool false, .bool false, .bool false, .bool false, .bool false, .bool false, .bool false, .bool false, .bool false, .bool false, .bool false, .bool false, .bool false, .bool false, .bool false, .bool false, .bool false, .bool false, .bool false, .bool false, .bool false, .bool false, .bool false, .bool false, .bool false, .bool false, .bool false, .bool false, .bool false, .bool false, .bool false, .bool false, .bool false, .bool false, .bool false, .bool false, .bool false, .bool false, .bool false, .bool false, .bool false, .bool false, .bool false, .bool false, .bool false, .bool false, .bool false, .bool false, .bool false, .bool false, .bool false, .bool false, .bool false, .bool false, .bool false, .bool false, .bool false, .bool false, .bool false, .bool false, .bool false, .bool false, .bool false, .bool false, .bool false, .bool false, .bool false, .bool false, .bool false, .bool false, .bool false, .bool false, .bool false, .bool false, .bool false, .bool false, .bool false, .bool false, .bool false, .bool false, .bool false, .bool false], .bool true]) (fun (_ : Unit) => Ext.of .normal [] [] [] (by rfl)) := by unfold FnB; kernel_rfl
noncomputable def s89  : EV.Spec Tryz.prog GG (Unit) := .ofFnB 89 [] mixed Tryz.func89 rfl (fun _ => rfl) (k89)
noncomputable def g98 (p0 : Int) : TT (Bool) :=
 .ceq 1004 p0 [0, 1, 2, 3, 4, 5, 6, 7, 8, 9, 10, 11, 12, 13, 14, 15, 16, 17, 18, 19, 20, 21, 22, 23, 24, 25, 26, 27, 28, 29, 30, 31, 32, 33, 34, 35, 36, 37, 38, 39, 40, 41, 42, 43, 44, 45, 46, 47, 48, 49, 50, 51, 52, 53, 54, 55, 56, 57, 58, 59, 60, 61, 62, 63, 64, 65, 66, 67, 68, 69, 70, 71, 72, 73, 74, 75, 76, 77, 78, 79, 80, 81, 82, 83, 84, 85, 86, 87, 88, 89, 90, 91, 92, 93, 94, 95, 96, 97, 98, 99, 100, 101, 102, 103, 104, 105, 106, 107, 108, 109, 110, 111, 112, 113, 114, 115, 116, 117, 118, 119, 120, 121, 122, 123, 124, 125, 126, 127, 128, 129, 130, 131, 132, 133, 134, 135, 136, 137, 138, 139, 140, 141, 142, 143, 144, 145, 146, 147, 148, 149, 150, 151, 152, 153, 154, 155, 156, 157, 158, 159, 160, 161, 162, 163, 164, 165, 166, 167, 168, 169, 170, 171, 172, 173, 174, 175, 176, 177, 178, 179, 180, 181, 182, 183, 184, 185, 186, 187, 188, 189, 190, 191, 192, 193, 194, 195, 196, 197, 198, 199, 200, 201, 202, 203, 204, 205, 206, 207, 208, 209, 210, 211, 212, 213, 214, 215, 216, 217, 218, 219, 220, 221, 222, 223, 224, 225, 226, 227, 228, 229, 230, 231, 232, 233, 234, 235, 236, 237, 238, 239, 240, 241, 242, 243, 244, 245, 246, 247, 248, 249, 250, 251, 252, 253, 254, 255] (fun v => bif [45, 48, 49, 50, 51, 52, 53, 54, 55, 56, 57, 97, 98, 99, 100, 101, 102].contains v then .done true else .done false)
theorem k98 (p0 : Int) : FnD Tryz.prog GG [0, 1, 4] Tryz.f98 [.snap [.bool false, .bool false, .bool false, .bool false, .bool false, .bool false, .bool false, .bool false, .bool false, .bool false, .bool false, .bool false, .bool false, .bool false, .bool false, .bool false, .bool false, .bool false, .bool false, .bool false, .bool false, .bool false, .bool false, .bool false, .bool false, .bool false, .bool false, .bool false, .bool false, .bool false, .bool false, .bool false, .bool false, .bool false, .bool false, .bool false, .bool false, .bool false, .bool false, .bool false, .bool false, .bool false, .bool false, .bool false, .bool false, .bool true, .bool false, .bool false, .bool true, .bool true, .bool true, .bool true, .bool true, .bool true, .bool true, .bool true, .bool true, .bool true, .bool false, .bool false, .bool false, .bool false, .bool false, .bool false, .bool false, .bool false, .bool false, .bool false, .bool false, .bool false, .bool false, .bool false, .bool false, .bool false, .bool false, .bool false, .bool false, .bool false, .bool false, .bool false, .bool false, .bool false, .bool false, .bool false, .bool false, .bool false, .bool false, .bool false, .bool false, .bool false, .bool false, .bool false, .bool false, .bool false, .bool false, .bool false, .bool false, .bool true, .bool true, .bool true, .bool true, .bool true, .bool true, .bool false, .bool false, .bool false, .bool false, .bool false, .bool false, .bool false, .bool false, .bool false, .bool false, .bool false, .bool false, .bool false, .bool false, .bool false, .bool false, .bool false, .bool false, .bool false, .bool false, .bool false, .bool false, .bool false, .bool false, .bool false, .bool false, .bool false, .bool false, .bool false, .bool false, .bool false, .bool false, .bool false, .bool false, .bool false, .bool false, .bool false, .bool false, .bool false, .bool false, .bool false, .bool false, .bool false, .bool false, .bool false, .bool false, .bool false, .bool false, .bool false, .bool false, .bool false, .bool false, .bool false, .bool false, .bool false, .bool false, .bool false, .bool false, .bool false, .bool false, .bool false, .bool false, .bool false, .bool false, .bool false, .bool false, .bool false, .bool false, .bool false, .bool false, .bool false, .bool false, .bool false, .bool false, .bool false, .bool false, .bool false, .bool false, .bool false, .bool false, .bool false, .bool false, .bool false, .bool false, .bool false, .bool false, .bool false, .bool false, .bool false, .bool false, .bool false, .bool false, .bool false, .bool false, .bool false, .bool false, .bool false, .bool false, .bool false, .bool false, .bool false, .bool false, .bool false, .bool false, .bool false, .bool false, .bool false, .bool false, .bool false, .bool false, .bool false, .bool false, .bool false, .bool false, .bool false, .bool false, .bool false, .bool false, .bool false, .bool false, .bool false, .bool false, .bool false, .bool false, .bool false, .bool false, .bool false, .bool false, .bool false, .bool false, .bool false, .bool false, .bool false, .bool false, .bool false, .bool false, .bool false, .bool false, .bool false, .bool false, .bool false, .bool false, .bool false, .bool false, .bool false, .bool false, .bool false, .bool false, .bool false, .bool false, .bool false, .bool false, .bool false], .int .u8 p0] (g98 p0) (fun r => .bool r) := by unfold FnD; kernel_rfl
noncomputable def s98 (p0 : Int) : EV.Spec Tryz.prog GG (Bool) := .ofFn 98 mixed Tryz.func98 (k98 p0)
noncomputable def g91 (p0 : ByteArray) : TT (ByteArray) :=
 .bind 1
 (.lp (fun (l74 : ByteArray) => Ext.lit .normal [(0, .str l74), (1, .snap [.bool false, .bool false, .bool false, .bool false, .bool false, .bool false, .bool false, .bool false, .bool false, .bool false, .bool false, .bool false, .bool false, .bool false, .bool false, .bool false, .bool false, .bool false, .bool false, .bool false, .bool false, .bool false, .bool false, .bool false, .bool false, .bool false, .bool false, .bool false, .bool false, .bool false, .bool false, .bool false, .bool false, .bool false, .bool false, .bool false, .bool false, .bool false, .bool false, .bool false, .bool false, .bool false, .bool false, .bool false, .bool false, .bool true, .bool false, .bool false, .bool true, .bool true, .bool true, .bool true, .bool true, .bool true, .bool true, .bool true, .bool true, .bool true, .bool false, .bool false, .bool false, .bool false, .bool false, .bool false, .bool false, .bool false, .bool false, .bool false, .bool false, .bool false, .bool false, .bool false, .bool false, .bool false, .bool false, .bool false, .bool false, .bool false, .bool false, .bool false, .bool false, .bool false, .bool false, .bool false, .bool false, .bool false, .bool false, .bool false, .bool false, .bool false, .bool false, .bool false, .bool false, .bool false, .bool false, .bool false, .bool false, .bool true, .bool true, .bool true, .bool true, .bool true, .bool true, .bool false, .bool false, .bool false, .bool false, .bool false, .bool false, .bool false, .bool false, .bool false, .bool false, .bool false, .bool false, .bool false, .bool false, .bool false, .bool false, .bool false, .bool false, .bool false, .bool false, .bool false, .bool false, .bool false, .bool false, .bool false, .bool false, .bool false, .bool false, .bool false, .bool false, .bool false, .bool false, .bool false, .bool false, .bool false, .bool false, .bool false, .bool false, .bool false, .bool false, .bool false, .bool false, .bool false, .bool false, .bool false, .bool false, .bool false, .bool false, .bool false, .bool false, .bool false, .bool false, .bool false, .bool false, .bool false, .bool false, .bool false, .bool false, .bool false, .bool false, .bool false, .bool false, .bool false, .bool false, .bool false, .bool false, .bool false, .bool false, .bool false, .bool false, .bool false, .bool false, .bool false, .bool false, .bool false, .bool false, .bool false, .bool false, .bool false, .bool false, .bool false, .bool false, .bool false, .bool false, .bool false, .bool false, .bool false, .bool false, .bool false, .bool false, .bool false, .bool false, .bool false, .bool false, .bool false, .bool false, .bool false, .bool false, .bool false, .bool false, .bool false, .bool false, .bool false, .bool false, .bool false, .bool false, .bool false, .bool false, .bool false, .bool false, .bool false, .bool false, .bool false, .bool false, .bool false, .bool false, .bool false, .bool false, .bool false, .bool false, .bool false, .bool false, .bool false, .bool false, .bool false, .bool false, .bool false, .bool false, .bool false, .bool false, .bool false, .bool false, .bool false, .bool false, .bool false, .bool false, .bool false, .bool false, .bool false, .bool false, .bool false, .bool false, .bool false, .bool false, .bool false, .bool false, .bool false, .bool false, .bool false, .bool false, .bool false, .bool false, .bool false]), (4, .str ByteArray.empty)] [])
  (fun l74 =>
   .br 0 (decide ((0 : Int) < (l74.size : Int)))
   (.chk 2006 (decide (0 ≤ (wi64 ((l74.size : Int) - 1)) ∧ (wi64 ((l74.size : Int) - 1)) < (l74.size : Int))) (.call 2007 (s98 (bAt l74 (wi64 ((l74.size : Int) - 1)))) [] [] fun r75 =>
    .br 0 (!r75)
    (.done (.inr l74))
    (.chk 3005 (decide (0 ≤ (wi64 ((l74.size : Int) - 1))) && decide ((wi64 ((l74.size : Int) - 1)) ≤ (l74.size : Int))) (.done (.inl (l74.extract 0 ((wi64 ((l74.size : Int) - 1)).toNat)))))))
   (.done (.inr l74)))
  p0)
 (fun (e76 : ByteArray) => Ext.lit (.exit 0) [(0, .str e76), (4, .str ByteArray.empty)] [])
 (fun e76 =>
  .done e76)
theorem k91 (p0 : ByteArray) : FnD Tryz.prog GG [0, 1, 4, 7, 15] Tryz.f91 [.str p0, .snap [.bool false, .bool false, .bool false, .bool false, .bool false, .bool false, .bool false, .bool false, .bool false, .bool false, .bool false, .bool false, .bool false, .bool false, .bool false, .bool false, .bool false, .bool false, .bool false, .bool false, .bool false, .bool false, .bool false, .bool false, .bool false, .bool false, .bool false, .bool false, .bool false, .bool false, .bool false, .bool false, .bool false, .bool false, .bool false, .bool false, .bool false, .bool false, .bool false, .bool false, .bool false, .bool false, .bool false, .bool false, .bool false, .bool true, .bool false, .bool false, .bool true, .bool true, .bool true, .bool true, .bool true, .bool true, .bool true, .bool true, .bool true, .bool true, .bool false, .bool false, .bool false, .bool false, .bool false, .bool false, .bool false, .bool false, .bool false, .bool false, .bool false, .bool false, .bool false, .bool false, .bool false, .bool false, .bool false, .bool false, .bool false, .bool false, .bool false, .bool false, .bool false, .bool false, .bool false, .bool false, .bool false, .bool false, .bool false, .bool false, .bool false, .bool false, .bool false, .bool false, .bool false, .bool false, .bool false, .bool false, .bool false, .bool true, .bool true, .bool true, .bool true, .bool true, .bool true, .bool false, .bool false, .bool false, .bool false, .bool false, .bool false, .bool false, .bool false, .bool false, .bool false, .bool false, .bool false, .bool false, .bool false, .bool false, .bool false, .bool false, .bool false, .bool false, .bool false, .bool false, .bool false, .bool false, .bool false, .bool false, .bool false, .bool false, .bool false, .bool false, .bool false, .bool false, .bool false, .bool false, .bool false, .bool false, .bool false, .bool false, .bool false, .bool false, .bool false, .bool false, .bool false, .bool false, .bool false, .bool false, .bool false, .bool false, .bool false, .bool false, .bool false, .bool false, .bool false, .bool false, .bool false, .bool false, .bool false, .bool false, .bool false, .bool false, .bool false, .bool false, .bool false, .bool false, .bool false, .bool false, .bool false, .bool false, .bool false, .bool false, .bool false, .bool false, .bool false, .bool false, .bool false, .bool false, .bool false, .bool false, .bool false, .bool false, .bool false, .bool false, .bool false, .bool false, .bool false, .bool false, .bool false, .bool false, .bool false, .bool false, .bool false, .bool false, .bool false, .bool false, .bool false, .bool false, .bool false, .bool false, .bool false, .bool false, .bool false, .bool false, .bool false, .bool false, .bool false, .bool false, .bool false, .bool false, .bool false, .bool false, .bool false, .bool false, .bool false, .bool false, .bool false, .bool false, .bool false, .bool false, .bool false, .bool false, .bool false, .bool false, .bool false, .bool false, .bool false, .bool false, .bool false, .bool false, .bool false, .bool false, .bool false, .bool false, .bool false, .bool false, .bool false, .bool false, .bool false, .bool false, .bool false, .bool false, .bool false, .bool false, .bool false, .bool false, .bool false, .bool false, .bool false, .bool false, .bool false, .bool false, .bool false, .bool false, .bool false, .bool false]] (g91 p0) (fun r => .str r) := by unfold FnD; kernel_rfl
noncomputable def s91 (p0 : ByteArray) : EV.Spec Tryz.prog GG (ByteArray) := .ofFn 91 mixed Tryz.func91 (k91 p0)
noncomputable def g90 (p0 : ByteArray) : TT (ByteArray) :=
 .bind 1
 (.lp (fun (l80 : ByteArray) => Ext.lit .normal [(0, .str l80), (1, .snap [.bool false, .bool false, .bool false, .bool false, .bool false, .bool false, .bool false, .bool false, .bool false, .bool false, .bool false, .bool false, .bool false, .bool false, .bool false, .bool false, .bool false, .bool false, .bool false, .bool false, .bool false, .bool false, .bool false, .bool false, .bool false, .bool false, .bool false, .bool false, .bool false, .bool false, .bool false, .bool false, .bool false, .bool false, .bool false, .bool false, .bool false, .bool false, .bool false, .bool false, .bool false, .bool false, .bool false, .bool false, .bool false, .bool true, .bool false, .bool false, .bool true, .bool true, .bool true, .bool true, .bool true, .bool true, .bool true, .bool true, .bool true, .bool true, .bool false, .bool false, .bool false, .bool false, .bool false, .bool false, .bool false, .bool false, .bool false, .bool false, .bool false, .bool false, .bool false, .bool false, .bool false, .bool false, .bool false, .bool false, .bool false, .bool false, .bool false, .bool false, .bool false, .bool false, .bool false, .bool false, .bool false, .bool false, .bool false, .bool false, .bool false, .bool false, .bool false, .bool false, .bool false, .bool false, .bool false, .bool false, .bool false, .bool true, .bool true, .bool true, .bool true, .bool true, .bool true, .bool false, .bool false, .bool false, .bool false, .bool false, .bool false, .bool false, .bool false, .bool false, .bool false, .bool false, .bool false, .bool false, .bool false, .bool false, .bool false, .bool false, .bool false, .bool false, .bool false, .bool false, .bool false, .bool false, .bool false, .bool false, .bool false, .bool false, .bool false, .bool false, .bool false, .bool false, .bool false, .bool false, .bool false, .bool false, .bool false, .bool false, .bool false, .bool false, .bool false, .bool false, .bool false, .bool false, .bool false, .bool false, .bool false, .bool false, .bool false, .bool false, .bool false, .bool false, .bool false, .bool false, .bool false, .bool false, .bool false, .bool false, .bool false, .bool false, .bool false, .bool false, .bool false, .bool false, .bool false, .bool false, .bool false, .bool false, .bool false, .bool false, .bool false, .bool false, .bool false, .bool false, .bool false, .bool false, .bool false, .bool false, .bool false, .bool false, .bool false, .bool false, .bool false, .bool false, .bool false, .bool false, .bool false, .bool false, .bool false, .bool false, .bool false, .bool false, .bool false, .bool false, .bool false, .bool false, .bool false, .bool false, .bool false, .bool false, .bool false, .bool false, .bool false, .bool false, .bool false, .bool false, .bool false, .bool false, .bool false, .bool false, .bool false, .bool false, .bool false, .bool false, .bool false, .bool false, .bool false, .bool false, .bool false, .bool false, .bool false, .bool false, .bool false, .bool false, .bool false, .bool false, .bool false, .bool false, .bool false, .bool false, .bool false, .bool false, .bool false, .bool false, .bool false, .bool false, .bool false, .bool false, .bool false, .bool false, .bool false, .bool false, .bool false, .bool false, .bool false, .bool false, .bool false, .bool false, .bool false, .bool false, .bool false, .bool false, .bool false, .bool false]), (4, .str ByteArray.empty)] [])
  (fun l80 =>
   .br 0 (decide ((0 : Int) < (l80.size : Int)))
   (.chk 2003 (decide (0 ≤ (0 : Int) ∧ (0 : Int) < (l80.size : Int))) (.call 2004 (s98 (bAt l80 0)) [] [] fun r81 =>
    .br 0 (!r81)
    (.done (.inr l80))
    (.chk 3002 (decide (0 ≤ (1 : Int)) && decide ((1 : Int) ≤ (l80.size : Int))) (.done (.inl (l80.extract 1 l80.size))))))
   (.done (.inr l80)))
  p0)
 (fun (e82 : ByteArray) => Ext.lit (.exit 0) [(0, .str e82), (4, .str ByteArray.empty)] [])
 (fun e82 =>
  .done e82)
theorem k90 (p0 : ByteArray) : FnD Tryz.prog GG [0, 1, 4, 7, 12] Tryz.f90 [.str p0, .snap [.bool false, .bool false, .bool false, .bool false, .bool false, .bool false, .bool false, .bool false, .bool false, .bool false, .bool false, .bool false, .bool false, .bool false, .bool false, .bool false, .bool false, .bool false, .bool false, .bool false, .bool false, .bool false, .bool false, .bool false, .bool false, .bool false, .bool false, .bool false, .bool false, .bool false, .bool false, .bool false, .bool false, .bool false, .bool false, .bool false, .bool false, .bool false, .bool false, .bool false, .bool false, .bool false, .bool false, .bool false, .bool false, .bool true, .bool false, .bool false, .bool true, .bool true, .bool true, .bool true, .bool true, .bool true, .bool true, .bool true, .bool true, .bool true, .bool false, .bool false, .bool false, .bool false, .bool false, .bool false, .bool false, .bool false, .bool false, .bool false, .bool false, .bool false, .bool false, .bool false, .bool false, .bool false, .bool false, .bool false, .bool false, .bool false, .bool false, .bool false, .bool false, .bool false, .bool false, .bool false, .bool false, .bool false, .bool false, .bool false, .bool false, .bool false, .bool false, .bool false, .bool false, .bool false, .bool false, .bool false, .bool false, .bool true, .bool true, .bool true, .bool true, .bool true, .bool true, .bool false, .bool false, .bool false, .bool false, .bool false, .bool false, .bool false, .bool false, .bool false, .bool false, .bool false, .bool false, .bool false, .bool false, .bool false, .bool false, .bool false, .bool false, .bool false, .bool false, .bool false, .bool false, .bool false, .bool false, .bool false, .bool false, .bool false, .bool false, .bool false, .bool false, .bool false, .bool false, .bool false, .bool false, .bool false, .bool false, .bool false, .bool false, .bool false, .bool false, .bool false, .bool false, .bool false, .bool false, .bool false, .bool false, .bool false, .bool false, .bool false, .bool false, .bool false, .bool false, .bool false, .bool false, .bool false, .bool false, .bool false, .bool false, .bool false, .bool false, .bool false, .bool false, .bool false, .bool false, .bool false, .bool false, .bool false, .bool false, .bool false, .bool false, .bool false, .bool false, .bool false, .bool false, .bool false, .bool false, .bool false, .bool false, .bool false, .bool false, .bool false, .bool false, .bool false, .bool false, .bool false, .bool false, .bool false, .bool false, .bool false, .bool false, .bool false, .bool false, .bool false, .bool false, .bool false, .bool false, .bool false, .bool false, .bool false, .bool false, .bool false, .bool false, .bool false, .bool false, .bool false, .bool false, .bool false, .bool false, .bool false, .bool false, .bool false, .bool false, .bool false, .bool false, .bool false, .bool false, .bool false, .bool false, .bool false, .bool false, .bool false, .bool false, .bool false, .bool false, .bool false, .bool false, .bool false, .bool false, .bool false, .bool false, .bool false, .bool false, .bool false, .bool false, .bool false, .bool false, .bool false, .bool false, .bool false, .bool false, .bool false, .bool false, .bool false, .bool false, .bool false, .bool false, .bool false, .bool false, .bool false, .bool false, .bool false, .bool false, .bool false]] (g90 p0) (fun r => .str r) := by unfold FnD; kernel_rfl
noncomputable def s90 (p0 : ByteArray) : EV.Spec Tryz.prog GG (ByteArray) := .ofFn 90 mixed Tryz.func90 (k90 p0)
noncomputable def g82 (p0 : ByteArray) : TT (ByteArray) :=
 .cnd 1 [12]
 (.br 1004 (decide (p0 = ByteArray.empty))
  (.done true)
  (.done false))
 (fun (c70 : Bool) => [.bool c70]) fun c70 =>
 .br 0 c70
 (.done p0)
 (.ff (.call 5002 s89 [] [] fun _ =>
  .tt (.view 7002 (s91 p0) [] fun r77 =>
  .view 7003 (s90 r77) [] fun r83 =>
  .done r83)))
theorem k82 (p0 : ByteArray) : FnD Tryz.prog GG [0, 1, 4, 5, 6, 12, 21, 34] Tryz.f82 [.str p0, .str (bs [48, 49, 50, 51, 52, 53, 54, 55, 56, 57, 97, 98, 99, 100, 101, 102, 45])] (g82 p0) (fun r => .str r) := by unfold FnD; kernel_rfl
noncomputable def s82 (p0 : ByteArray) : EV.Spec Tryz.prog GG (ByteArray) := .ofFn 82 mixed Tryz.func82 (k82 p0)
noncomputable def g75 (p0 : SCandidate) : TT (Bool) :=
 .cnd 1 [25]
 (.call 1003 (s79 p0.fKind 1 4) [] [] fun r65 =>
  .br 1006 (!r65)
  (.done true)
  (.call 1008 (s79 p0.fComponent 1 256) [] [] fun r66 =>
   .br 1012 (!r66)
   (.done true)
   (.call 1014 (s79 p0.fPriority 1 2147483647) [] [] fun r67 =>
    .br 1018 (!r67)
    (.done true)
    (.call 1021 (s79 (p0.fFoundation.size : Int) 1 80) [] [] fun r68 =>
     .done (!r68)))))
 (fun (c69 : Bool) => [.bool c69]) fun c69 =>
 .br 0 c69
 (.done false)
 (.cnd 3 [52]
  (.call 3003 (s82 p0.fFoundation) [] [] fun r84 =>
   .br 3006 (!decide (r84 = ByteArray.empty))
   (.done true)
   (.call 3008 (s83 p0.fAddr) [] [] fun r85 =>
    .br 3012 (!r85)
    (.done true)
    (.call 3014 (s83 p0.fBase) [] [] fun r86 =>
     .br 3018 (!r86)
     (.done true)
     (.done ((p0.fAddr.fHost.size : Int) != (p0.fBase.fHost.size : Int))))))
  (fun (c87 : Bool) => [.bool c87]) fun c87 =>
  .br 0 c87
  (.done false)
  (.cnd 5 [2]
   (.br 5007 ((decide (p0.fAddr.fHost = p0.fBase.fHost)) && ((p0.fAddr.fPort == p0.fBase.fPort) && true))
    (.done true)
    (.br 5012 (p0.fKind == 2)
     (.done true)
     (.done (p0.fKind == 3))))
   (fun (c88 : Bool) => [.bool c88]) fun c88 =>
   .done c88))
theorem k75 (p0 : SCandidate) : FnD Tryz.prog GG [0, 1, 2, 25, 52] Tryz.f75 [.agg [.int .i64 p0.fKind, .int .i64 p0.fComponent, .int .i64 p0.fPriority, .str p0.fFoundation, .str p0.fAddr.fHost, .int .i64 p0.fAddr.fPort, .str p0.fBase.fHost, .int .i64 p0.fBase.fPort]] (g75 p0) (fun r => .bool r) := by unfold FnD; kernel_rfl
noncomputable def s75 (p0 : SCandidate) : EV.Spec Tryz.prog GG (Bool) := .ofFn 75 mixed Tryz.func75 (k75 p0)
noncomputable def g63 (p0 : SCandidate) : TT (Int) :=
 .call 1002 (s75 p0) [] [] fun r89 =>
 .br 0 (!r89)
 (.done 90)
 (.done 0)
theorem k63 (p0 : SCandidate) : FnD Tryz.prog GG [0, 1, 2, 5] Tryz.f63 [.agg [.int .i64 p0.fKind, .int .i64 p0.fComponent, .int .i64 p0.fPriority, .str p0.fFoundation, .str p0.fAddr.fHost, .int .i64 p0.fAddr.fPort, .str p0.fBase.fHost, .int .i64 p0.fBase.fPort]] (g63 p0) (fun r => .int .i64 r) := by unfold FnD; kernel_rfl
noncomputable def s63 (p0 : SCandidate) : EV.Spec Tryz.prog GG (Int) := .ofFn 63 mixed Tryz.func63 (k63 p0)
end Go.Proofs.YtioobnkmohikjaaGreatDoor
namespace Go.Proofs.YtioobnkmohikjaaGreatDoor
open Go Go.EV
set_option maxRecDepth 100000
structure SDraft where
 fKind : Int
 fComponent : Int
 fAddr : Int
 fBase : Int
 fServer : Int
 fPreference : Int
structure SBend where
 fWhat : Int
 fN : Int
 fS : ByteArray
 fA : SAddr
def ty_u8 : Ty Int := ⟨fun x => [.int .u8 x], fun x => [.int .u8 x], fun _ => rfl, fun _ => rfl, fun _ _ => rfl, fun _ => rfl⟩
def tySDraft : Ty SDraft := ⟨fun x => [.int .u8 x.fKind, .int .u8 x.fComponent, .int .u8 x.fAddr, .int .u8 x.fBase, .int .u8 x.fServer, .int .u16 x.fPreference], fun x => [.int .u8 x.fKind, .int .u8 x.fComponent, .int .u8 x.fAddr, .int .u8 x.fBase, .int .u8 x.fServer, .int .u16 x.fPreference], fun _ => rfl, fun _ => rfl, fun _ _ => rfl, fun _ => rfl⟩
noncomputable def g103 (p0 : Int) : TT (ByteArray) :=
 .br 0 (decide (p0 < 10))
 (.chk 2004 ((decide (0 ≤ (wi64 (p0 + 1))) && decide ((wi64 (p0 + 1)) ≤ (36 : Int))) && (decide (0 ≤ p0) && decide (p0 ≤ ((wi64 (p0 + 1)).toNat : Int)))) (.done ((bs [48, 49, 50, 51, 52, 53, 54, 55, 56, 57, 97, 98, 99, 100, 101, 102, 103, 104, 105, 106, 107, 108, 109, 110, 111, 112, 113, 114, 115, 116, 117, 118, 119, 120, 121, 122]).extract p0.toNat ((wi64 (p0 + 1)).toNat))))
 (.chk 3006 ((decide (0 ≤ (wi64 ((wi64 (p0 * 2)) + 2))) && decide ((wi64 ((wi64 (p0 * 2)) + 2)) ≤ (200 : Int))) && (decide (0 ≤ (wi64 (p0 * 2))) && decide ((wi64 (p0 * 2)) ≤ ((wi64 ((wi64 (p0 * 2)) + 2)).toNat : Int)))) (.done ((bs [48, 48, 48, 49, 48, 50, 48, 51, 48, 52, 48, 53, 48, 54, 48, 55, 48, 56, 48, 57, 49, 48, 49, 49, 49, 50, 49, 51, 49, 52, 49, 53, 49, 54, 49, 55, 49, 56, 49, 57, 50, 48, 50, 49, 50, 50, 50, 51, 50, 52, 50, 53, 50, 54, 50, 55, 50, 56, 50, 57, 51, 48, 51, 49, 51, 50, 51, 51, 51, 52, 51, 53, 51, 54, 51, 55, 51, 56, 51, 57, 52, 48, 52, 49, 52, 50, 52, 51, 52, 52, 52, 53, 52, 54, 52, 55, 52, 56, 52, 57, 53, 48, 53, 49, 53, 50, 53, 51, 53, 52, 53, 53, 53, 54, 53, 55, 53, 56, 53, 57, 54, 48, 54, 49, 54, 50, 54, 51, 54, 52, 54, 53, 54, 54, 54, 55, 54, 56, 54, 57, 55, 48, 55, 49, 55, 50, 55, 51, 55, 52, 55, 53, 55, 54, 55, 55, 55, 56, 55, 57, 56, 48, 56, 49, 56, 50, 56, 51, 56, 52, 56, 53, 56, 54, 56, 55, 56, 56, 56, 57, 57, 48, 57, 49, 57, 50, 57, 51, 57, 52, 57, 53, 57, 54, 57, 55, 57, 56, 57, 57]).extract ((wi64 (p0 * 2)).toNat) ((wi64 ((wi64 (p0 * 2)) + 2)).toNat))))
theorem k103 (p0 : Int) : FnD Tryz.prog GG [0, 2, 4] Tryz.f103 [.int .i64 p0] (g103 p0) (fun r => .str r) := by unfold FnD; kernel_rfl
noncomputable def s103 (p0 : Int) : EV.Spec Tryz.prog GG (ByteArray) := .ofFn 103 mixed Tryz.func103 (k103 p0)
noncomputable def g97 (p0 : Int) (p1 : Int) : TT (ByteArray) :=
 .br 0 (p1 == 10)
 (.cnd 2 [17]
  (.br 2004 (decide ((0 : Int) ≤ p0))
   (.done (decide (p0 < 100)))
   (.done false))
  (fun (c90 : Bool) => [.bool c90]) fun c90 =>
  .br 0 c90
  (.call 3002 (s103 p0) [] [] fun r91 =>
   .done r91)
  (.bind 0
   (.br 0 (decide (p0 < 0))
    (.done (wu64 (0 - (wu64 p0))))
    (.done (wu64 p0)))
   (fun (e92 : Int) => Ext.lit .normal [(0, .int .i64 p0), (1, .int .i64 p1), (4, .str ByteArray.empty), (5, .ptr 5 0 0), (6, .int .u64 e92)] [(5, ⟨24, true, [[.int .u8 0, .int .u8 0, .int .u8 0, .int .u8 0, .int .u8 0, .int .u8 0, .int .u8 0, .int .u8 0, .int .u8 0, .int .u8 0, .int .u8 0, .int .u8 0, .int .u8 0, .int .u8 0, .int .u8 0, .int .u8 0, .int .u8 0, .int .u8 0, .int .u8 0, .int .u8 0, .int .u8 0, .int .u8 0, .int .u8 0, .int .u8 0]]⟩)])
   (fun _ =>
    .fail)))
 (.fail)
theorem k97 (p0 : Int) (p1 : Int) : FnD Tryz.prog GG [0, 1, 4, 5, 6, 7, 9, 11, 17, 23, 34] Tryz.f97 [.int .i64 p0, .int .i64 p1] (g97 p0 p1) (fun r => .str r) := by unfold FnD; kernel_rfl
noncomputable def s97 (p0 : Int) (p1 : Int) : EV.Spec Tryz.prog GG (ByteArray) := .ofFn 97 mixed Tryz.func97 (k97 p0 p1)
noncomputable def g86 (p0 : Int) : TT (ByteArray) :=
 .call 1002 (s97 p0 10) [] [] fun r93 =>
 .done r93
theorem k86 (p0 : Int) : FnD Tryz.prog GG [0, 2] Tryz.f86 [.int .i64 p0] (g86 p0) (fun r => .str r) := by unfold FnD; kernel_rfl
noncomputable def s86 (p0 : Int) : EV.Spec Tryz.prog GG (ByteArray) := .ofFn 86 mixed Tryz.func86 (k86 p0)
noncomputable def g80 (p0 : Int) : TT (ByteArray) :=
 .call 1002 (s86 p0) [] [] fun r94 =>
 .done r94
theorem k80 (p0 : Int) : FnD Tryz.prog GG [0, 2] Tryz.f80 [.int .i64 p0] (g80 p0) (fun r => .str r) := by unfold FnD; kernel_rfl
noncomputable def s80 (p0 : Int) : EV.Spec Tryz.prog GG (ByteArray) := .ofFn 80 mixed Tryz.func80 (k80 p0)
noncomputable def g81 (p0 : ByteArray) : TT (ByteArray) :=
 .opr 1004 (Rule.makeD (ty := ty_u8) (t := 65) (e := 5) (zv := .int .u8 0) (zc := .int .u8 0) (0 : Int) (.const (.int .i64 0)) (.tmp 7) 8 0 (wi64 ((2 : Int) * (p0.size : Int))) 1 (by kernel_rfl) (by kernel_rfl) (by kernel_rfl) rfl ⟨rfl, rfl, rfl⟩ (fun _ _ => by constructor)) fun _ =>
 .gh 1 (.ren 8 600004) (.bind 0
 (.lp (fun (l96 : (List Int) × Int) => Ext.of .normal [(0, .str p0), (2, .str ByteArray.empty), (3, .ref 600004 0 l96.1.length), (4, .int .i64 l96.2)] [] [BT.of 600004 ty_u8 1 l96.1 true] (by rfl))
  (fun l96 =>
   .br 0 (decide (l96.2 < (p0.size : Int)))
   (.chk 5004 (decide (0 ≤ l96.2 ∧ l96.2 < (p0.size : Int))) (.chk 5006 (decide (0 ≤ (wu8 (Int.tdiv (bAt p0 l96.2) 16)) ∧ (wu8 (Int.tdiv (bAt p0 l96.2) 16)) < ((bs [48, 49, 50, 51, 52, 53, 54, 55, 56, 57, 97, 98, 99, 100, 101, 102]).size : Int))) (.chk 5009 (decide (0 ≤ l96.2 ∧ l96.2 < (p0.size : Int))) (.chk 5011 (decide (0 ≤ (Int.tmod (bAt p0 l96.2) 16) ∧ (Int.tmod (bAt p0 l96.2) 16) < ((bs [48, 49, 50, 51, 52, 53, 54, 55, 56, 57, 97, 98, 99, 100, 101, 102]).size : Int))) (.app 5013 ty_u8 l96.1 [(bAt (bs [48, 49, 50, 51, 52, 53, 54, 55, 56, 57, 97, 98, 99, 100, 101, 102]) (wu8 (Int.tdiv (bAt p0 l96.2) 16))), (bAt (bs [48, 49, 50, 51, 52, 53, 54, 55, 56, 57, 97, 98, 99, 100, 101, 102]) (Int.tmod (bAt p0 l96.2) 16))] 1 false (by intro h; cases h) (.gh 0 (.drop [600004]) (.gh 0 (.ren 27 600004) (.done (.inl ((l96.1 ++ [(bAt (bs [48, 49, 50, 51, 52, 53, 54, 55, 56, 57, 97, 98, 99, 100, 101, 102]) (wu8 (Int.tdiv (bAt p0 l96.2) 16))), (bAt (bs [48, 49, 50, 51, 52, 53, 54, 55, 56, 57, 97, 98, 99, 100, 101, 102]) (Int.tmod (bAt p0 l96.2) 16))]), (wi64 (l96.2 + 1))))))))))))
   (.done (.inr l96.1)))
  ([], 0))
 (fun (e97 : (List Int)) => Ext.of (.exit 0) [(2, .str ByteArray.empty), (3, .ref 600004 0 e97.length)] [] [BT.of 600004 ty_u8 1 e97 true] (by rfl))
 (fun e97 =>
  .opr 6002 (Rule.textOf (ty := ty_u8) (s := 65) (t := 9) (e := 5) (.tmp 28) 29 600004 e97 e97.length (by kernel_rfl) (by kernel_rfl) (by kernel_rfl) (by simp) (fun _ => rfl)) fun _ =>
  .done (strOfNums e97)))
theorem k81 (p0 : ByteArray) : FnD Tryz.prog GG [0, 2, 3, 4, 12] Tryz.f81 [.str p0] (g81 p0) (fun r => .str r) := by unfold FnD; kernel_rfl
noncomputable def s81 (p0 : ByteArray) : EV.Spec Tryz.prog GG (ByteArray) := .ofFn 81 mixed Tryz.func81 (k81 p0)
noncomputable def g73 (p0 : Int) (p1 : Int) (p2 : Int) : TT (Int × Int) :=
 .cnd 1 [30]
 (.br 1004 (decide (p0 < 1))
  (.done true)
  (.br 1008 (decide ((4 : Int) < p0))
   (.done true)
   (.br 1012 (decide (p1 < 0))
    (.done true)
    (.br 1016 (decide ((65535 : Int) < p1))
     (.done true)
     (.br 1020 (decide (p2 < 1))
      (.done true)
      (.done (decide ((256 : Int) < p2))))))))
 (fun (c98 : Bool) => [.bool c98]) fun c98 =>
 .br 0 c98
 (.done (0, 2))
 (.ceq 3003 p0 [0, 1, 2, 3, 4] (fun v => bif v == 0 then .br 0 ((wi64 ((wi64 ((wi64 ((0 : Int) + (wi64 ((256 : Int) * p1)))) + 256)) - p2)) == 0)
   (.done (0, 2))
   (.done ((wi64 ((wi64 ((wi64 ((0 : Int) + (wi64 ((256 : Int) * p1)))) + 256)) - p2)), 0)) else bif v == 1 then .br 0 ((wi64 ((wi64 ((wi64 ((2113929216 : Int) + (wi64 ((256 : Int) * p1)))) + 256)) - p2)) == 0)
   (.done (0, 2))
   (.done ((wi64 ((wi64 ((wi64 ((2113929216 : Int) + (wi64 ((256 : Int) * p1)))) + 256)) - p2)), 0)) else bif v == 2 then .br 0 ((wi64 ((wi64 ((wi64 ((1845493760 : Int) + (wi64 ((256 : Int) * p1)))) + 256)) - p2)) == 0)
   (.done (0, 2))
   (.done ((wi64 ((wi64 ((wi64 ((1845493760 : Int) + (wi64 ((256 : Int) * p1)))) + 256)) - p2)), 0)) else bif v == 3 then .br 0 ((wi64 ((wi64 ((wi64 ((1677721600 : Int) + (wi64 ((256 : Int) * p1)))) + 256)) - p2)) == 0)
   (.done (0, 2))
   (.done ((wi64 ((wi64 ((wi64 ((1677721600 : Int) + (wi64 ((256 : Int) * p1)))) + 256)) - p2)), 0)) else bif v == 4 then .br 0 ((wi64 ((wi64 ((wi64 ((0 : Int) + (wi64 ((256 : Int) * p1)))) + 256)) - p2)) == 0)
   (.done (0, 2))
   (.done ((wi64 ((wi64 ((wi64 ((0 : Int) + (wi64 ((256 : Int) * p1)))) + 256)) - p2)), 0)) else .fail))
theorem k73 (p0 : Int) (p1 : Int) (p2 : Int) : FnD Tryz.prog GG [0, 1, 2, 6, 7, 8, 30, 42] Tryz.f73 [.int .i64 p0, .int .i64 p1, .int .i64 p2] (g73 p0 p1 p2) (fun r => .tup [.int .i64 r.1, .int .i64 r.2]) := by unfold FnD; kernel_rfl
noncomputable def s73 (p0 : Int) (p1 : Int) (p2 : Int) : EV.Spec Tryz.prog GG (Int × Int) := .ofFn 73 mixed Tryz.func73 (k73 p0 p1 p2)
noncomputable def g72 (p0 : Int) (p1 : SAddr) (p2 : SAddr) : TT (ByteArray × Int) :=
 .cnd 1 [28]
 (.br 1004 (decide (p0 < 1))
  (.done true)
  (.br 1008 (decide ((4 : Int) < p0))
   (.done true)
   (.call 1009 (s78 p1) [] [] fun r99 =>
    .br 1013 (!r99)
    (.done true)
    (.br 1017 (!((decide (p2.fHost = ByteArray.empty)) && ((p2.fPort == 0) && true)))
     (.call 1018 (s78 p2) [] [] fun r100 =>
      .done (!r100))
     (.done false)))))
 (fun (c101 : Bool) => [.bool c101]) fun c101 =>
 .br 0 c101
 (.done (ByteArray.empty, 2))
 (.call 3002 (s80 p0) [] [] fun r102 =>
  .chk 3003 (decide (r102.size + (bs [45]).size ≤ 9223372036854775807)) (.call 3006 (s81 p1.fHost) [] [] fun r103 =>
  .chk 3007 (decide ((r102 ++ (bs [45])).size + r103.size ≤ 9223372036854775807)) (.chk 3008 (decide (((r102 ++ (bs [45])) ++ r103).size + (bs [45]).size ≤ 9223372036854775807)) (.call 3011 (s81 p2.fHost) [] [] fun r104 =>
  .chk 3012 (decide ((((r102 ++ (bs [45])) ++ r103) ++ (bs [45])).size + r104.size ≤ 9223372036854775807)) (.done (((((r102 ++ (bs [45])) ++ r103) ++ (bs [45])) ++ r104), 0))))))
theorem k72 (p0 : Int) (p1 : SAddr) (p2 : SAddr) : FnD Tryz.prog GG [0, 1, 2, 4, 5, 6, 7, 28] Tryz.f72 [.int .i64 p0, .agg [.str p1.fHost, .int .i64 p1.fPort], .agg [.str p2.fHost, .int .i64 p2.fPort]] (g72 p0 p1 p2) (fun r => .tup [.str r.1, .int .i64 r.2]) := by unfold FnD; kernel_rfl
noncomputable def s72 (p0 : Int) (p1 : SAddr) (p2 : SAddr) : EV.Spec Tryz.prog GG (ByteArray × Int) := .ofFn 72 mixed Tryz.func72 (k72 p0 p1 p2)
noncomputable def g67 (p0 : SCandidate) : TT (Bool) :=
 .cnd 1 [44]
 (.br 1005 (decide (p0.fKind < 1))
  (.done true)
  (.br 1010 (decide ((4 : Int) < p0.fKind))
   (.done true)
   (.br 1015 (decide (p0.fComponent < 1))
    (.done true)
    (.br 1020 (decide ((256 : Int) < p0.fComponent))
     (.done true)
     (.br 1025 (decide (p0.fPriority < 1))
      (.done true)
      (.br 1030 (decide ((2147483647 : Int) < p0.fPriority))
       (.done true)
       (.br 1036 (decide ((p0.fFoundation.size : Int) < 1))
        (.done true)
        (.done (decide ((80 : Int) < (p0.fFoundation.size : Int)))))))))))
 (fun (c107 : Bool) => [.bool c107]) fun c107 =>
 .br 0 c107
 (.done false)
 (.bind2 1
  (.lp (fun (l110 : Int) => Ext.lit .normal [(1, .ptr 1 0 0), (2, .bool false), (3, .int .i64 l110)] [(1, ⟨8, true, [[.int .i64 p0.fKind, .int .i64 p0.fComponent, .int .i64 p0.fPriority, .str p0.fFoundation, .str p0.fAddr.fHost, .int .i64 p0.fAddr.fPort, .str p0.fBase.fHost, .int .i64 p0.fBase.fPort]]⟩)])
   (fun l110 =>
    .br 0 (decide (l110 < (p0.fFoundation.size : Int)))
    (.chk 6004 (decide (0 ≤ l110 ∧ l110 < (p0.fFoundation.size : Int))) (.cnd 7 [75]
     (.br 7004 (decide ((48 : Int) ≤ (bAt p0.fFoundation l110)))
      (.br 7009 (!(decide ((bAt p0.fFoundation l110) ≤ 57)))
       (.br 7012 (decide ((97 : Int) ≤ (bAt p0.fFoundation l110)))
        (.br 7018 (!(decide ((bAt p0.fFoundation l110) ≤ 102)))
         (.done ((bAt p0.fFoundation l110) != 45))
         (.done false))
        (.done ((bAt p0.fFoundation l110) != 45)))
       (.done false))
      (.br 7012 (decide ((97 : Int) ≤ (bAt p0.fFoundation l110)))
       (.br 7018 (!(decide ((bAt p0.fFoundation l110) ≤ 102)))
        (.done ((bAt p0.fFoundation l110) != 45))
        (.done false))
       (.done ((bAt p0.fFoundation l110) != 45))))
     (fun (c111 : Bool) => [.bool c111]) fun c111 =>
     .br 0 c111
     (.done (.inr (.inl ())))
     (.done (.inl (wi64 (l110 + 1))))))
    (.done (.inr (.inr ()))))
   0)
  (fun (_ : Unit) => Ext.lit .ret [(1, .ptr 1 0 0), (2, .bool false)] [(1, ⟨8, true, [[.int .i64 p0.fKind, .int .i64 p0.fComponent, .int .i64 p0.fPriority, .str p0.fFoundation, .str p0.fAddr.fHost, .int .i64 p0.fAddr.fPort, .str p0.fBase.fHost, .int .i64 p0.fBase.fPort]]⟩)])
  (fun (_ : Unit) => Ext.lit (.exit 0) [(1, .ptr 1 0 0), (2, .bool false)] [(1, ⟨8, true, [[.int .i64 p0.fKind, .int .i64 p0.fComponent, .int .i64 p0.fPriority, .str p0.fFoundation, .str p0.fAddr.fHost, .int .i64 p0.fAddr.fPort, .str p0.fBase.fHost, .int .i64 p0.fBase.fPort]]⟩)])
  (fun _ =>
   .done false)
  (fun _ =>
   .cnd 9 [96]
   (.call 9003 (s78 p0.fAddr) [] [] fun r114 =>
    .br 9006 (!r114)
    (.done true)
    (.call 9008 (s78 p0.fBase) [] [] fun r115 =>
     .br 9012 (!r115)
     (.done true)
     (.done ((p0.fAddr.fHost.size : Int) != (p0.fBase.fHost.size : Int)))))
   (fun (c116 : Bool) => [.bool c116]) fun c116 =>
   .br 0 c116
   (.done false)
   (.cnd 11 [2]
    (.br 11007 ((decide (p0.fAddr.fHost = p0.fBase.fHost)) && ((p0.fAddr.fPort == p0.fBase.fPort) && true))
     (.done true)
     (.br 11011 (p0.fKind != 1)
      (.done (p0.fKind != 4))
      (.done false)))
    (fun (c117 : Bool) => [.bool c117]) fun c117 =>
    .done c117)))
theorem k67 (p0 : SCandidate) : FnD Tryz.prog GG [0, 1, 2, 3, 4, 44, 49, 75, 96] Tryz.f67 [.agg [.int .i64 p0.fKind, .int .i64 p0.fComponent, .int .i64 p0.fPriority, .str p0.fFoundation, .str p0.fAddr.fHost, .int .i64 p0.fAddr.fPort, .str p0.fBase.fHost, .int .i64 p0.fBase.fPort]] (g67 p0) (fun r => .bool r) := by unfold FnD; kernel_rfl
noncomputable def s67 (p0 : SCandidate) : EV.Spec Tryz.prog GG (Bool) := .ofFn 67 mixed Tryz.func67 (k67 p0)
noncomputable def g60 (p0 : Int) (p1 : SAddr) (p2 : SAddr) (p3 : SAddr) (p4 : Int) (p5 : Int) : TT (SCandidate × Int) :=
 .call 1004 (s72 p0 p2 p3) [] [] fun r105 =>
 .br 0 (r105.2 != 0)
 (.done ((SCandidate.mk 0 0 0 ByteArray.empty (SAddr.mk ByteArray.empty 0) (SAddr.mk ByteArray.empty 0)), r105.2))
 (.call 4004 (s73 p0 p4 p5) [] [] fun r106 =>
  .br 0 (r106.2 != 0)
  (.done ((SCandidate.mk 0 0 0 ByteArray.empty (SAddr.mk ByteArray.empty 0) (SAddr.mk ByteArray.empty 0)), r106.2))
  (.call 8002 (s67 (SCandidate.mk p0 p5 r106.1 r105.1 p1 p2)) [] [] fun r118 =>
   .br 0 (!r118)
   (.done ((SCandidate.mk 0 0 0 ByteArray.empty (SAddr.mk ByteArray.empty 0) (SAddr.mk ByteArray.empty 0)), 90))
   (.done ((SCandidate.mk p0 p5 r106.1 r105.1 p1 p2), 0))))
theorem k60 (p0 : Int) (p1 : SAddr) (p2 : SAddr) (p3 : SAddr) (p4 : Int) (p5 : Int) : FnD Tryz.prog GG [0, 1, 2, 3, 4, 5, 7, 8, 9, 12, 13, 14, 15, 16, 17, 26, 37, 49] Tryz.f60 [.int .i64 p0, .agg [.str p1.fHost, .int .i64 p1.fPort], .agg [.str p2.fHost, .int .i64 p2.fPort], .agg [.str p3.fHost, .int .i64 p3.fPort], .int .i64 p4, .int .i64 p5] (g60 p0 p1 p2 p3 p4 p5) (fun r => .tup [.agg [.int .i64 r.1.fKind, .int .i64 r.1.fComponent, .int .i64 r.1.fPriority, .str r.1.fFoundation, .str r.1.fAddr.fHost, .int .i64 r.1.fAddr.fPort, .str r.1.fBase.fHost, .int .i64 r.1.fBase.fPort], .int .i64 r.2]) := by unfold FnD; kernel_rfl
noncomputable def s60 (p0 : Int) (p1 : SAddr) (p2 : SAddr) (p3 : SAddr) (p4 : Int) (p5 : Int) : EV.Spec Tryz.prog GG (SCandidate × Int) := .ofFn 60 mixed Tryz.func60 (k60 p0 p1 p2 p3 p4 p5)
noncomputable def g29 (p0 : SDraft) : TT (SCandidate) :=
 .call 2003 (s59 p0.fAddr) [] [] fun r119 =>
 .call 2006 (s59 p0.fBase) [] [] fun r120 =>
 .cnd 3 [35]
 (.br 3004 ((wi64 ((1 : Int) + (wi64 (Int.tmod p0.fKind 4)))) == 1)
  (.done true)
  (.br 3008 ((wi64 ((1 : Int) + (wi64 (Int.tmod p0.fKind 4)))) == 4)
   (.done true)
   (.done ((r120.fHost.size : Int) != (r119.fHost.size : Int)))))
 (fun (c121 : Bool) => [.bool c121]) fun c121 =>
 .bind 0
 (.br 0 c121
  (.done (r119.fHost, r119.fPort))
  (.done (r120.fHost, r120.fPort)))
 (fun (e122 : ByteArray × Int) => Ext.lit .normal [(1, .ptr 1 0 0), (2, .ptr 2 0 0), (3, .int .i64 (wi64 ((1 : Int) + (wi64 (Int.tmod p0.fKind 4))))), (4, .ptr 4 0 0), (5, .ptr 5 0 0), (6, .ptr 6 0 0)] [(1, ⟨6, true, [[.int .u8 p0.fKind, .int .u8 p0.fComponent, .int .u8 p0.fAddr, .int .u8 p0.fBase, .int .u8 p0.fServer, .int .u16 p0.fPreference]]⟩), (2, ⟨8, true, [[.int .i64 0, .int .i64 0, .int .i64 0, .str ByteArray.empty, .str ByteArray.empty, .int .i64 0, .str ByteArray.empty, .int .i64 0]]⟩), (4, ⟨2, true, [[.str r119.fHost, .int .i64 r119.fPort]]⟩), (5, ⟨2, true, [[.str e122.1, .int .i64 e122.2]]⟩), (6, ⟨2, true, [[.str ByteArray.empty, .int .i64 0]]⟩)])
 (fun e122 =>
  .cnd 5 [42]
  (.br 5004 ((wi64 ((1 : Int) + (wi64 (Int.tmod p0.fKind 4)))) == 3)
   (.done true)
   (.done ((wi64 ((1 : Int) + (wi64 (Int.tmod p0.fKind 4)))) == 4)))
  (fun (c123 : Bool) => [.bool c123]) fun c123 =>
  .bind 0
  (.br 0 c123
   (.call 6003 (s59 p0.fServer) [] [] fun r124 =>
    .done (r124.fHost, r124.fPort))
   (.done (ByteArray.empty, 0)))
  (fun (e125 : ByteArray × Int) => Ext.lit .normal [(1, .ptr 1 0 0), (2, .ptr 2 0 0), (3, .int .i64 (wi64 ((1 : Int) + (wi64 (Int.tmod p0.fKind 4))))), (4, .ptr 4 0 0), (5, .ptr 5 0 0), (6, .ptr 6 0 0)] [(1, ⟨6, true, [[.int .u8 p0.fKind, .int .u8 p0.fComponent, .int .u8 p0.fAddr, .int .u8 p0.fBase, .int .u8 p0.fServer, .int .u16 p0.fPreference]]⟩), (2, ⟨8, true, [[.int .i64 0, .int .i64 0, .int .i64 0, .str ByteArray.empty, .str ByteArray.empty, .int .i64 0, .str ByteArray.empty, .int .i64 0]]⟩), (4, ⟨2, true, [[.str r119.fHost, .int .i64 r119.fPort]]⟩), (5, ⟨2, true, [[.str e122.1, .int .i64 e122.2]]⟩), (6, ⟨2, true, [[.str e125.1, .int .i64 e125.2]]⟩)])
  (fun e125 =>
   .call 7015 (s60 (wi64 ((1 : Int) + (wi64 (Int.tmod p0.fKind 4)))) r119 (SAddr.mk e122.1 e122.2) (SAddr.mk e125.1 e125.2) (wi64 ((1 : Int) + (Int.tmod (wi64 p0.fPreference) 65535))) (wi64 ((1 : Int) + (wi64 (Int.tmod p0.fComponent 2))))) [] [] fun r126 =>
   .done r126.1))
theorem k29 (p0 : SDraft) : FnD Tryz.prog GG [0, 1, 2, 3, 4, 5, 6, 7, 35, 42] Tryz.f29 [.agg [.int .u8 p0.fKind, .int .u8 p0.fComponent, .int .u8 p0.fAddr, .int .u8 p0.fBase, .int .u8 p0.fServer, .int .u16 p0.fPreference]] (g29 p0) (fun r => .agg [.int .i64 r.fKind, .int .i64 r.fComponent, .int .i64 r.fPriority, .str r.fFoundation, .str r.fAddr.fHost, .int .i64 r.fAddr.fPort, .str r.fBase.fHost, .int .i64 r.fBase.fPort]) := by unfold FnD; kernel_rfl
noncomputable def s29 (p0 : SDraft) : EV.Spec Tryz.prog GG (SCandidate) := .ofFn 29 mixed Tryz.func29 (k29 p0)
noncomputable def g58 (p0 : Int) (p1 : Int) (p2 : Int) : TT (SCandidate) :=
 .call 2005 (s60 1 (SAddr.mk (strOfNums [10, 0, 0, p0]) p1) (SAddr.mk (strOfNums [10, 0, 0, p0]) p1) (SAddr.mk ByteArray.empty 0) p2 1) [] [] fun r127 =>
 .done r127.1
theorem k58 (p0 : Int) (p1 : Int) (p2 : Int) : FnD Tryz.prog GG [0, 1, 2, 6, 7, 8] Tryz.f58 [.int .u8 p0, .int .i64 p1, .int .i64 p2] (g58 p0 p1 p2) (fun r => .agg [.int .i64 r.fKind, .int .i64 r.fComponent, .int .i64 r.fPriority, .str r.fFoundation, .str r.fAddr.fHost, .int .i64 r.fAddr.fPort, .str r.fBase.fHost, .int .i64 r.fBase.fPort]) := by unfold FnD; kernel_rfl
noncomputable def s58 (p0 : Int) (p1 : Int) (p2 : Int) : EV.Spec Tryz.prog GG (SCandidate) := .ofFn 58 mixed Tryz.func58 (k58 p0 p1 p2)
noncomputable def g9 (p0 : SBend) (p1 : SCandidate) : TT (SCandidate) :=
 .br 0 ((Int.tmod p0.fWhat 6) == 0)
 (.done (SCandidate.mk p0.fN p1.fComponent p1.fPriority p1.fFoundation p1.fAddr p1.fBase))
 (.br 0 ((Int.tmod p0.fWhat 6) == 1)
  (.done (SCandidate.mk p1.fKind p0.fN p1.fPriority p1.fFoundation p1.fAddr p1.fBase))
  (.br 0 ((Int.tmod p0.fWhat 6) == 2)
   (.done (SCandidate.mk p1.fKind p1.fComponent p0.fN p1.fFoundation p1.fAddr p1.fBase))
   (.br 0 ((Int.tmod p0.fWhat 6) == 3)
    (.done (SCandidate.mk p1.fKind p1.fComponent p1.fPriority p0.fS p1.fAddr p1.fBase))
    (.br 0 ((Int.tmod p0.fWhat 6) == 4)
     (.done (SCandidate.mk p1.fKind p1.fComponent p1.fPriority p1.fFoundation p0.fA p1.fBase))
     (.done (SCandidate.mk p1.fKind p1.fComponent p1.fPriority p1.fFoundation p1.fAddr p0.fA))))))
theorem k9 (p0 : SBend) (p1 : SCandidate) : FnD Tryz.prog GG [0, 1, 2, 3, 4, 7, 11, 16, 21, 26, 31] Tryz.f9 [.agg [.int .u8 p0.fWhat, .int .i64 p0.fN, .str p0.fS, .str p0.fA.fHost, .int .i64 p0.fA.fPort], .agg [.int .i64 p1.fKind, .int .i64 p1.fComponent, .int .i64 p1.fPriority, .str p1.fFoundation, .str p1.fAddr.fHost, .int .i64 p1.fAddr.fPort, .str p1.fBase.fHost, .int .i64 p1.fBase.fPort]] (g9 p0 p1) (fun r => .agg [.int .i64 r.fKind, .int .i64 r.fComponent, .int .i64 r.fPriority, .str r.fFoundation, .str r.fAddr.fHost, .int .i64 r.fAddr.fPort, .str r.fBase.fHost, .int .i64 r.fBase.fPort]) := by unfold FnD; kernel_rfl
noncomputable def s9 (p0 : SBend) (p1 : SCandidate) : EV.Spec Tryz.prog GG (SCandidate) := .ofFn 9 mixed Tryz.func9 (k9 p0 p1)
noncomputable def g39 (p0 : (List SCandidate)) : TT (Bool) :=
 .bind2 1
 (.lp (fun (l131 : Int) => Ext.lit .normal [(0, .sl false 8 (List.map tySCandidate.c p0)), (2, .bool false), (3, .int .i64 l131)] [])
  (fun l131 =>
   .br 0 (decide (l131 < (mlen tySCandidate p0)))
   (.row 4003 tySCandidate p0 l131.toNat (decide (0 ≤ l131)) fun x132 =>
    .call 4005 (s67 x132) [] [] fun r133 =>
    .br 0 (!r133)
    (.done (.inr (.inl ())))
    (.done (.inl (wi64 (l131 + 1)))))
   (.done (.inr (.inr ()))))
  0)
 (fun (_ : Unit) => Ext.lit .ret [(2, .bool false)] [])
 (fun (_ : Unit) => Ext.lit (.exit 0) [(2, .bool false)] [])
 (fun _ =>
  .done false)
 (fun _ =>
  .done true)
theorem k39 (p0 : (List SCandidate)) : FnD Tryz.prog GG [0, 2, 3, 7, 15] Tryz.f39 [.sl false 8 (List.map tySCandidate.c p0)] (g39 p0) (fun r => .bool r) := by unfold FnD; kernel_rfl
noncomputable def s39 (p0 : (List SCandidate)) : EV.Spec Tryz.prog GG (Bool) := .ofFn 39 mixed Tryz.func39 (k39 p0)
end Go.Proofs.YtioobnkmohikjaaGreatDoor
namespace Go.Proofs.YtioobnkmohikjaaGreatDoor
open Go Go.EV
set_option maxRecDepth 100000
end Go.Proofs.YtioobnkmohikjaaGreatDoor
namespace Go.Proofs.YtioobnkmohikjaaGreatDoor
open Go Go.EV
set_option maxRecDepth 100000
structure SEnt86 where
 fk : SLike
 fv : Bool
structure SEnt104 where
 fk : S2String
 fv : Bool
def tySEnt86 : Ty SEnt86 := ⟨fun x => [.str x.fk.fbase.fHost, .int .i64 x.fk.fbase.fPort, .str x.fk.faddr.fHost, .int .i64 x.fk.faddr.fPort, .int .i64 x.fk.fcomponent, .bool x.fv], fun x => [.str x.fk.fbase.fHost, .int .i64 x.fk.fbase.fPort, .str x.fk.faddr.fHost, .int .i64 x.fk.faddr.fPort, .int .i64 x.fk.fcomponent, .bool x.fv], fun _ => rfl, fun _ => rfl, fun _ _ => rfl, fun _ => rfl⟩
def tySEnt104 : Ty SEnt104 := ⟨fun x => [.str x.fk.a0, .str x.fk.a1, .bool x.fv], fun x => [.str x.fk.a0, .str x.fk.a1, .bool x.fv], fun _ => rfl, fun _ => rfl, fun _ _ => rfl, fun _ => rfl⟩
noncomputable def g62 (p0 : SCandidate) : TT (Bool) :=
 .call 1002 (s63 p0) [] [] fun r160 =>
 .done (r160 != 0)
theorem k62 (p0 : SCandidate) : FnD Tryz.prog GG [0, 1, 2] Tryz.f62 [.agg [.int .i64 p0.fKind, .int .i64 p0.fComponent, .int .i64 p0.fPriority, .str p0.fFoundation, .str p0.fAddr.fHost, .int .i64 p0.fAddr.fPort, .str p0.fBase.fHost, .int .i64 p0.fBase.fPort]] (g62 p0) (fun r => .bool r) := by unfold FnD; kernel_rfl
noncomputable def s62 (p0 : SCandidate) : EV.Spec Tryz.prog GG (Bool) := .ofFn 62 mixed Tryz.func62 (k62 p0)
noncomputable def g74 (p0 : (List SCandidate)) : TT (Int) :=
 .bind2 1
 (.lp (fun (l161 : Int) => Ext.lit .normal [(0, .sl false 8 (List.map tySCandidate.c p0)), (1, .fn 62 [] []), (4, .int .i64 0), (7, .int .i64 (mlen tySCandidate p0)), (8, .int .i64 l161)] [])
  (fun l161 =>
   .br 0 (decide (l161 < (mlen tySCandidate p0)))
   (.row 4004 tySCandidate p0 l161.toNat (decide (0 ≤ l161)) fun x162 =>
    .call 4006 (s62 x162) [] [] fun r163 =>
    .br 0 r163
    (.done (.inr (.inl l161)))
    (.done (.inl (wi64 (l161 + 1)))))
   (.done (.inr (.inr ()))))
  0)
 (fun (e164 : Int) => Ext.lit .ret [(4, .int .i64 e164)] [])
 (fun (_ : Unit) => Ext.lit (.exit 0) [(4, .int .i64 0)] [])
 (fun e164 =>
  .done e164)
 (fun _ =>
  .done (-1))
theorem k74 (p0 : (List SCandidate)) : FnD Tryz.prog GG [0, 1, 4, 5, 7, 8, 9, 16] Tryz.f74 [.sl false 8 (List.map tySCandidate.c p0), .fn 62 [] []] (g74 p0) (fun r => .int .i64 r) := by unfold FnD; kernel_rfl
noncomputable def s74 (p0 : (List SCandidate)) : EV.Spec Tryz.prog GG (Int) := .ofFn 74 mixed Tryz.func74 (k74 p0)
noncomputable def g61 (p0 : (List SCandidate)) : TT (Bool) :=
 .call 1003 (s74 p0) [] [] fun r166 =>
 .done (decide ((0 : Int) ≤ r166))
theorem k61 (p0 : (List SCandidate)) : FnD Tryz.prog GG [0, 1, 4] Tryz.f61 [.sl false 8 (List.map tySCandidate.c p0), .fn 62 [] []] (g61 p0) (fun r => .bool r) := by unfold FnD; kernel_rfl
noncomputable def s61 (p0 : (List SCandidate)) : EV.Spec Tryz.prog GG (Bool) := .ofFn 61 mixed Tryz.func61 (k61 p0)
noncomputable def g30 (p0 : (List SCandidate)) : TT (Bool) :=
 .call 1002 (s61 p0) [] [] fun r167 =>
 .done (!r167)
theorem k30 (p0 : (List SCandidate)) : FnD Tryz.prog GG [0, 2] Tryz.f30 [.sl false 8 (List.map tySCandidate.c p0)] (g30 p0) (fun r => .bool r) := by unfold FnD; kernel_rfl
noncomputable def s30 (p0 : (List SCandidate)) : EV.Spec Tryz.prog GG (Bool) := .ofFn 30 mixed Tryz.func30 (k30 p0)
noncomputable def g50 (p0 : SPair) : TT (Int) :=
 .done p0.fPriority
theorem k50 (p0 : SPair) : FnD Tryz.prog GG [0, 1, 2] Tryz.f50 [.agg [.int .i64 p0.fLocal, .int .i64 p0.fRemote, .int .i64 p0.fPriority, .int .i64 p0.fState]] (g50 p0) (fun r => .int .i64 r) := by unfold FnD; kernel_rfl
noncomputable def s50 (p0 : SPair) : EV.Spec Tryz.prog GG (Int) := .ofFn 50 mixed Tryz.func50 (k50 p0)
noncomputable def g52 (p0 : SPair) : TT (Bool) :=
 .done (p0.fState == 1)
theorem k52 (p0 : SPair) : FnD Tryz.prog GG [0, 1, 2] Tryz.f52 [.agg [.int .i64 p0.fLocal, .int .i64 p0.fRemote, .int .i64 p0.fPriority, .int .i64 p0.fState]] (g52 p0) (fun r => .bool r) := by unfold FnD; kernel_rfl
noncomputable def s52 (p0 : SPair) : EV.Spec Tryz.prog GG (Bool) := .ofFn 52 mixed Tryz.func52 (k52 p0)
noncomputable def g54 (p0 : SPair) : TT (Bool) :=
 .done (decide (p0.fState < 3))
theorem k54 (p0 : SPair) : FnD Tryz.prog GG [0, 1, 2] Tryz.f54 [.agg [.int .i64 p0.fLocal, .int .i64 p0.fRemote, .int .i64 p0.fPriority, .int .i64 p0.fState]] (g54 p0) (fun r => .bool r) := by unfold FnD; kernel_rfl
noncomputable def s54 (p0 : SPair) : EV.Spec Tryz.prog GG (Bool) := .ofFn 54 mixed Tryz.func54 (k54 p0)
noncomputable def g48 (p0 : SPlanner) : TT (Bool) :=
 .cnd 1 [48]
 (.br 1009 (decide ((12 : Int) < (mlen tySCandidate p0.fList.fLocals)))
  (.done true)
  (.br 1018 (decide ((12 : Int) < (mlen tySCandidate p0.fList.fRemotes)))
   (.done true)
   (.br 1027 (decide ((36 : Int) < (mlen tySPair p0.fList.fPairs)))
    (.done true)
    (.call 1032 (s30 p0.fList.fLocals) [] [] fun r170 =>
     .br 1036 (!r170)
     (.done true)
     (.call 1041 (s30 p0.fList.fRemotes) [] [] fun r171 =>
      .done (!r171))))))
 (fun (c172 : Bool) => [.bool c172]) fun c172 =>
 .br 0 c172
 (.done false)
 (.opr 3001 (Rule.makeMap 86 49 1114373 (by decide)) fun _ =>
  .bind2 1
  (.lp (fun (l183 : (List SEnt86) × Int) => Ext.of .normal [(0, .snap [.bool p0.fList.fControlling, .sl false 8 (List.map tySCandidate.c p0.fList.fLocals), .sl false 8 (List.map tySCandidate.c p0.fList.fRemotes), .sl false 4 (List.map tySPair.c p0.fList.fPairs)]), (2, .bool false), (3, .mp 49), (54, .sl false 4 (List.map tySPair.c p0.fList.fPairs)), (55, .int .i64 (mlen tySPair p0.fList.fPairs)), (56, .int .i64 l183.2)] [] [BT.of 49 tySEnt86 1114373 l183.1 true] (by rfl))
   (fun l183 =>
    .br 0 (decide (l183.2 < (mlen tySPair p0.fList.fPairs)))
    (.row 6001 tySPair p0.fList.fPairs l183.2.toNat (decide (0 ≤ l183.2)) fun x184 =>
     .cnd 7 [99]
     (.br 7005 (decide (x184.fLocal < 0))
      (.done true)
      (.br 7016 (decide ((mlen tySCandidate p0.fList.fLocals) ≤ x184.fLocal))
       (.done true)
       (.br 7021 (decide (x184.fRemote < 0))
        (.done true)
        (.br 7032 (decide ((mlen tySCandidate p0.fList.fRemotes) ≤ x184.fRemote))
         (.done true)
         (.br 7037 (decide (x184.fState < 0))
          (.done true)
          (.done (decide ((4 : Int) < x184.fState))))))))
     (fun (c185 : Bool) => [.bool c185]) fun c185 =>
     .br 0 c185
     (.done (.inr (.inl ())))
     (.cnd 9 [134]
      (.row 9008 tySCandidate p0.fList.fLocals x184.fLocal.toNat (decide (0 ≤ x184.fLocal)) fun x186 =>
       .row 9017 tySCandidate p0.fList.fRemotes x184.fRemote.toNat (decide (0 ≤ x184.fRemote)) fun x187 =>
       .call 9019 (s64 x186 x187) [] [] fun r188 =>
       .br 9022 (!r188)
       (.done true)
       (.call 9026 (s56 p0 x184) [] [] fun r189 =>
        .br 9030 (x184.fPriority != r189)
        (.done true)
        (.call 9033 (s36 p0 x184) [] [] fun r190 =>
         .opr 9034 (Rule.look (mt := 86) (kt := 88) (et := 4) (z := 1114373) (ty := tySEnt86) (p := (fun x => ((decide (r190.fbase.fHost = x.fk.fbase.fHost)) && ((r190.fbase.fPort == x.fk.fbase.fPort) && ((decide (r190.faddr.fHost = x.fk.faddr.fHost)) && ((r190.faddr.fPort == x.fk.faddr.fPort) && ((r190.fcomponent == x.fk.fcomponent) && true))))))) (kc := [.str r190.fbase.fHost, .int .i64 r190.fbase.fPort, .str r190.faddr.fHost, .int .i64 r190.faddr.fPort, .int .i64 r190.fcomponent]) (.tmp 129) (.tmp 132) 133 49 true l183.1 (.bool false) (.bool (mlook l183.1 (fun x => ((decide (r190.fbase.fHost = x.fk.fbase.fHost)) && ((r190.fbase.fPort == x.fk.fbase.fPort) && ((decide (r190.faddr.fHost = x.fk.faddr.fHost)) && ((r190.faddr.fPort == x.fk.faddr.fPort) && ((r190.fcomponent == x.fk.fcomponent) && true)))))) (fun x => x.fv) false)) ⟨by kernel_rfl, by kernel_rfl, by kernel_rfl, fun _ => by kernel_rfl⟩ (by kernel_rfl) (mlook_map _ _ (fun x : SEnt86 => x.fv) false V.bool)) fun _ =>
         .done (mlook l183.1 (fun x => ((decide (r190.fbase.fHost = x.fk.fbase.fHost)) && ((r190.fbase.fPort == x.fk.fbase.fPort) && ((decide (r190.faddr.fHost = x.fk.faddr.fHost)) && ((r190.faddr.fPort == x.fk.faddr.fPort) && ((r190.fcomponent == x.fk.fcomponent) && true)))))) (fun x => x.fv) false))))
      (fun (c191 : Bool) => [.bool c191]) fun c191 =>
      .br 0 c191
      (.done (.inr (.inl ())))
      (.call 11004 (s36 p0 x184) [] [] fun r192 =>
       .opr 11005 (Rule.put (mt := 86) (kt := 88) (et := 4) (z := 1114373) (ty := tySEnt86) (p := (fun x => ((decide (r192.fbase.fHost = x.fk.fbase.fHost)) && ((r192.fbase.fPort == x.fk.fbase.fPort) && ((decide (r192.faddr.fHost = x.fk.faddr.fHost)) && ((r192.faddr.fPort == x.fk.faddr.fPort) && ((r192.fcomponent == x.fk.fcomponent) && true))))))) (kc := [.str r192.fbase.fHost, .int .i64 r192.fbase.fPort, .str r192.faddr.fHost, .int .i64 r192.faddr.fPort, .int .i64 r192.fcomponent]) (.tmp 135) (.tmp 138) (.const (.bool true)) 49 l183.1 (SEnt86.mk r192 true) [.bool true] ⟨by kernel_rfl, by kernel_rfl, by kernel_rfl, fun _ => by kernel_rfl⟩ (by rfl) (by kernel_rfl) (by kernel_rfl) (by decide) (by decide)) fun _ =>
       .done (.inl ((mput l183.1 (fun x => ((decide (r192.fbase.fHost = x.fk.fbase.fHost)) && ((r192.fbase.fPort == x.fk.fbase.fPort) && ((decide (r192.faddr.fHost = x.fk.faddr.fHost)) && ((r192.faddr.fPort == x.fk.faddr.fPort) && ((r192.fcomponent == x.fk.fcomponent) && true)))))) (SEnt86.mk r192 true)), (wi64 (l183.2 + 1)))))))
    (.done (.inr (.inr ()))))
   ([], 0))
  (fun (e193 : Unit) => Ext.lit .ret [(2, .bool false)] [])
  (fun (e194 : Unit) => Ext.lit (.exit 0) [(2, .bool false)] [])
  (fun e193 =>
   .done false)
  (fun e194 =>
   .done true))
theorem k48 (p0 : SPlanner) : FnD Tryz.prog GG [0, 2, 3, 5, 48, 54, 55, 56, 57, 99, 134] Tryz.f48 [.snap [.bool p0.fList.fControlling, .sl false 8 (List.map tySCandidate.c p0.fList.fLocals), .sl false 8 (List.map tySCandidate.c p0.fList.fRemotes), .sl false 4 (List.map tySPair.c p0.fList.fPairs)]] (g48 p0) (fun r => .bool r) := by unfold FnD; kernel_rfl
noncomputable def s48 (p0 : SPlanner) : EV.Spec Tryz.prog GG (Bool) := .ofFn 48 mixed Tryz.func48 (k48 p0)
noncomputable def g69 (p0 : (List SPair)) : TT Unit := .app 3003 tySPair [] p0 32 true (by intros; rfl) (.done ())
theorem k69y : Piece Tryz.prog GG [2] 8 (cloneYes Tryz.f69.body) (Ext.lit .normal [(2, .nilsl)] []) (.done () : TT Unit) (fun _ => Ext.lit .ret [(2, .nilsl)] []) := by unfold Piece; kernel_rfl
theorem k69r (p0 : (List SPair)) : Piece Tryz.prog GG [0, 2, 5, 6, 7] 8 (cloneRest Tryz.f69.body) (Ext.lit .normal [(0, .sl false 4 (List.map tySPair.c p0)), (2, .nilsl)] []) (g69 p0) (fun _ => Ext.of .ret [(2, .ref 7 0 ([] ++ p0).length)] [] [BT.of 7 tySPair 4 ([] ++ p0)] (by rfl)) := by unfold Piece; kernel_rfl
theorem k69 (p0 : (List SPair)) {r : Unit} (h : (g69 p0).run = some r) : CallC Tryz.prog GG 69 [.sl false 4 (List.map tySPair.c p0)] (ofL []) (.ref 7 0 p0.length) (ofL [(7, ⟨4, true, List.map tySPair.c p0⟩)]) :=
 clone_ok (ty := tySPair) (ops0 := cloneOps0 Tryz.f69.body) (ops1 := cloneOps1 Tryz.f69.body) (yes := cloneYes Tryz.f69.body) (rest := cloneRest Tryz.f69.body) (t := 39) mixed (by decide) Tryz.func69 (by kernel_rfl) (by kernel_rfl) (by kernel_rfl) (by kernel_rfl) (by kernel_rfl) (by kernel_rfl) (by kernel_rfl) (by kernel_rfl) (by kernel_rfl) k69y (k69r p0) (by rfl) h
noncomputable def s69 (p0 : (List SPair)) : EV.Spec Tryz.prog GG Unit := ⟨69, [.sl false 4 (List.map tySPair.c p0)], [], (g69 p0).run, fun _ => .ref 7 0 p0.length, fun _ => [(7, ⟨4, true, List.map tySPair.c p0⟩)], [7], fun _ p hp _ => by
 rw [List.mem_singleton.1 hp]; exact tySPair.data _, fun _ h => k69 p0 h⟩
noncomputable def g49 (p0 : SList) : TT ((Unit) ⊕ (Unit)) :=
 .view 2002 (s48 (SPlanner.mk p0)) [] fun r195 =>
 .br 0 (!r195)
 (.done (.inl ()))
 (.call 4004 (s69 p0.fPairs) [] [(7, 500009)] fun _ =>
  .done (.inr ()))
theorem k49 (p0 : SList) : FnB Tryz.prog GG [0, 1, 2, 3, 4, 10] Tryz.f49 [.agg [.bool p0.fControlling, .sl false 8 (List.map tySCandidate.c p0.fLocals), .sl false 8 (List.map tySCandidate.c p0.fRemotes), .sl false 4 (List.map tySPair.c p0.fPairs)]] (Ext.of .normal (argTs [.agg [.bool p0.fControlling, .sl false 8 (List.map tySCandidate.c p0.fLocals), .sl false 8 (List.map tySCandidate.c p0.fRemotes), .sl false 4 (List.map tySPair.c p0.fPairs)]]) [] [] (by rfl)) (g49 p0) (Sum.elim (fun (_ : Unit) => .tup [.nilp, .int .i64 100]) (fun (_ : Unit) => .tup [.ptr 7 0 0, .int .i64 0])) (Sum.elim (fun (_ : Unit) => Ext.of .normal [] [] [] (by rfl)) (fun (_ : Unit) => Ext.of .normal [] [(7, ⟨4, true, [[.bool p0.fControlling, .sl false 8 (List.map tySCandidate.c p0.fLocals), .sl false 8 (List.map tySCandidate.c p0.fRemotes), .ref 500009 0 p0.fPairs.length]]⟩)] [BT.of 500009 tySPair 4 p0.fPairs true] (by rfl))) := by unfold FnB; kernel_rfl
noncomputable def s49 (p0 : SList) : EV.Spec Tryz.prog GG ((Unit) ⊕ (Unit)) := .ofFnB 49 [500009] mixed Tryz.func49 rfl (fun r => by cases r <;> rfl) (k49 p0)
noncomputable def g16 (p0 : SList) : TT (Int) :=
 .view 2002 (s48 (SPlanner.mk p0)) [] fun r224 =>
 .br 0 (!r224)
 (.done 100)
 (.done 0)
theorem k16 (p0 : SList) : FnD Tryz.prog GG [0, 1, 2, 3, 9] Tryz.f16 [.agg [.bool p0.fControlling, .sl false 8 (List.map tySCandidate.c p0.fLocals), .sl false 8 (List.map tySCandidate.c p0.fRemotes), .sl false 4 (List.map tySPair.c p0.fPairs)]] (g16 p0) (fun r => .int .i64 r) := by unfold FnD; kernel_rfl
noncomputable def s16 (p0 : SList) : EV.Spec Tryz.prog GG (Int) := .ofFn 16 mixed Tryz.func16 (k16 p0)
noncomputable def g51 (p0 : (List SPair)) : TT (Int) :=
 .bind 1
 (.lp (fun (l231 : Int × Int) => Ext.lit .normal [(0, .sl false 4 (List.map tySPair.c p0)), (1, .fn 52 [] []), (2, .fn 50 [] []), (6, .int .i64 0), (7, .int .i64 l231.1), (10, .sl false 4 (List.map tySPair.c p0)), (11, .int .i64 (mlen tySPair p0)), (12, .int .i64 l231.2)] [])
  (fun l231 =>
   .br 0 (decide (l231.2 < (mlen tySPair p0)))
   (.row 4002 tySPair p0 l231.2.toNat (decide (0 ≤ l231.2)) fun x232 =>
    .cnd 5 [35]
    (.call 5003 (s52 x232) [] [] fun r233 =>
     .br 5005 r233
     (.br 5008 (decide (l231.1 < 0))
      (.done true)
      (.call 5010 (s50 x232) [] [] fun r234 =>
       .row 5014 tySPair p0 l231.1.toNat (decide (0 ≤ l231.1)) fun x235 =>
       .call 5016 (s50 x235) [] [] fun r236 =>
       .done (decide (r236 < r234))))
     (.done false))
    (fun (c237 : Bool) => [.bool c237]) fun c237 =>
    .br 0 c237
    (.done (.inl (l231.2, (wi64 (l231.2 + 1)))))
    (.done (.inl (l231.1, (wi64 (l231.2 + 1))))))
   (.done (.inr l231.1)))
  ((-1), 0))
 (fun (e238 : Int) => Ext.lit (.exit 0) [(6, .int .i64 0), (7, .int .i64 e238)] [])
 (fun e238 =>
  .done e238)
theorem k51 (p0 : (List SPair)) : FnD Tryz.prog GG [0, 1, 2, 6, 7, 8, 9, 10, 11, 12, 13, 35] Tryz.f51 [.sl false 4 (List.map tySPair.c p0), .fn 52 [] [], .fn 50 [] []] (g51 p0) (fun r => .int .i64 r) := by unfold FnD; kernel_rfl
noncomputable def s51 (p0 : (List SPair)) : EV.Spec Tryz.prog GG (Int) := .ofFn 51 mixed Tryz.func51 (k51 p0)
noncomputable def g53 (p0 : SPair) (p1 : (List SEnt104)) (p2 : Bool) (p3 : (List SCandidate)) (p4 : (List SCandidate)) (p5 : (List SPair)) : TT (Bool) :=
 .cnd 1 [4]
 (.br 1005 (p0.fState == 0)
  (.view 1008 (s37 (SPlanner.mk (SList.mk p2 p3 p4 p5)) p0) [(VwW.of 1000004 tySPair p5)] fun r249 =>
   .opr 1009 (Rule.look (mt := 104) (kt := 91) (et := 4) (z := 1114370) (ty := tySEnt104) (p := (fun x => ((decide (r249.a0 = x.fk.a0)) && ((decide (r249.a1 = x.fk.a1)) && true)))) (kc := [.str r249.a0, .str r249.a1]) (.tmp 9) (.tmp 12) 13 1000002 true p1 (.bool false) (.bool (mlook p1 (fun x => ((decide (r249.a0 = x.fk.a0)) && ((decide (r249.a1 = x.fk.a1)) && true))) (fun x => x.fv) false)) ⟨by kernel_rfl, by kernel_rfl, by kernel_rfl, fun _ => by kernel_rfl⟩ (by kernel_rfl) (mlook_map _ _ (fun x : SEnt104 => x.fv) false V.bool)) fun _ =>
   .done (!(mlook p1 (fun x => ((decide (r249.a0 = x.fk.a0)) && ((decide (r249.a1 = x.fk.a1)) && true))) (fun x => x.fv) false)))
  (.done false))
 (fun (c250 : Bool) => [.bool c250]) fun c250 =>
 .done c250
theorem k53 (p0 : SPair) (p1 : (List SEnt104)) (p2 : Bool) (p3 : (List SCandidate)) (p4 : (List SCandidate)) (p5 : (List SPair)) : FnB Tryz.prog GG [0, 1, 2, 3, 4] Tryz.f53 [.agg [.int .i64 p0.fLocal, .int .i64 p0.fRemote, .int .i64 p0.fPriority, .int .i64 p0.fState], .ptr 1000000 0 0, .ptr 1000001 0 0] (Ext.of .normal (argTs [.agg [.int .i64 p0.fLocal, .int .i64 p0.fRemote, .int .i64 p0.fPriority, .int .i64 p0.fState], .ptr 1000000 0 0, .ptr 1000001 0 0]) [(1000000, ⟨1, true, [[.mp 1000002]]⟩), (1000001, ⟨1, true, [[.ptr 1000003 0 0]]⟩), (1000003, ⟨4, true, [[.bool p2, .sl false 8 (List.map tySCandidate.c p3), .sl false 8 (List.map tySCandidate.c p4), .ref 1000004 0 p5.length]]⟩)] [BT.of 1000002 tySEnt104 1114370 p1 true, BT.of 1000004 tySPair 4 p5 true] (by rfl)) (g53 p0 p1 p2 p3 p4 p5) (fun (r : Bool) => .bool r) (fun (_ : Bool) => Ext.of .normal [] [(1000000, ⟨1, true, [[.mp 1000002]]⟩), (1000001, ⟨1, true, [[.ptr 1000003 0 0]]⟩), (1000003, ⟨4, true, [[.bool p2, .sl false 8 (List.map tySCandidate.c p3), .sl false 8 (List.map tySCandidate.c p4), .ref 1000004 0 p5.length]]⟩)] [BT.of 1000002 tySEnt104 1114370 p1 true, BT.of 1000004 tySPair 4 p5 true] (by rfl)) := by unfold FnB; kernel_rfl
noncomputable def s53 (p0 : SPair) (p1 : (List SEnt104)) (p2 : Bool) (p3 : (List SCandidate)) (p4 : (List SCandidate)) (p5 : (List SPair)) : EV.Spec Tryz.prog GG (Bool) := .ofFnB 53 [1000002, 1000004] mixed Tryz.func53 rfl (fun _ => rfl) (k53 p0 p1 p2 p3 p4 p5)
noncomputable def g51_1 (p0 : (List SPair)) (p1 : (List SEnt104)) (p2 : Bool) (p3 : (List SCandidate)) (p4 : (List SCandidate)) : TT (Int) :=
 .bind 1
 (.lp (fun (l251 : Int × Int) => Ext.of .normal [(0, .ref 1000000 0 p0.length), (1, .fn 53 [] [.ptr 1000001 0 0, .ptr 1000002 0 0]), (2, .fn 50 [] []), (6, .int .i64 0), (7, .int .i64 l251.1), (10, .ref 1000000 0 p0.length), (11, .int .i64 (p0.length : Int)), (12, .int .i64 l251.2)] [(1000001, ⟨1, true, [[.mp 1000003]]⟩), (1000002, ⟨1, true, [[.ptr 1000004 0 0]]⟩), (1000004, ⟨4, true, [[.bool p2, .sl false 8 (List.map tySCandidate.c p3), .sl false 8 (List.map tySCandidate.c p4), .ref 1000000 0 p0.length]]⟩)] [BT.of 1000000 tySPair 4 p0 true, BT.of 1000003 tySEnt104 1114370 p1 true] (by rfl))
  (fun l251 =>
   .br 0 (decide (l251.2 < (p0.length : Int)))
   (.chk 4002 (decide (0 ≤ l251.2) && decide (l251.2 < (p0.length : Int))) (.row 4003 tySPair p0 (0 + l251.2.toNat) true fun x252 =>
    .cnd 5 [35]
    (.opr 5003 (Rule.callRead (s53 x252 p1 p2 p3 p4 p0) (.tmp 17) #[.tmp 18] #[68] 19 [] [.agg [.int .i64 x252.fLocal, .int .i64 x252.fRemote, .int .i64 x252.fPriority, .int .i64 x252.fState]] [.ptr 1000001 0 0, .ptr 1000002 0 0] [(1000000, 1000001, ⟨1, true, [[.mp 1000003]]⟩), (1000001, 1000002, ⟨1, true, [[.ptr 1000004 0 0]]⟩), (1000003, 1000004, ⟨4, true, [[.bool p2, .sl false 8 (List.map tySCandidate.c p3), .sl false 8 (List.map tySCandidate.c p4), .ref 1000000 0 p0.length]]⟩)] [(1000002, BT.of 1000003 tySEnt104 1114370 p1 true), (1000004, BT.of 1000000 tySPair 4 p0 true)] [(1000000, 1000001), (1000001, 1000002), (1000003, 1000004), (1000002, 1000003), (1000004, 1000000)] (by kernel_rfl) (by kernel_rfl) (by kernel_rfl) (by kernel_rfl) (by kernel_rfl) (by kernel_rfl) (by kernel_rfl) (by kernel_rfl) (by kernel_rfl) (by kernel_rfl) (fun _ => by kernel_rfl) (fun _ => ⟨by kernel_rfl, by kernel_rfl⟩)) fun r253 =>
     .br 5005 r253
     (.br 5008 (decide (l251.1 < 0))
      (.done true)
      (.call 5010 (s50 x252) [] [] fun r254 =>
       .chk 5014 (decide (0 ≤ l251.1) && decide (l251.1 < (p0.length : Int))) (.row 5015 tySPair p0 (0 + l251.1.toNat) true fun x255 =>
       .call 5016 (s50 x255) [] [] fun r256 =>
       .done (decide (r256 < r254)))))
     (.done false))
    (fun (c257 : Bool) => [.bool c257]) fun c257 =>
    .br 0 c257
    (.done (.inl (l251.2, (wi64 (l251.2 + 1)))))
    (.done (.inl (l251.1, (wi64 (l251.2 + 1)))))))
   (.done (.inr l251.1)))
  ((-1), 0))
 (fun (e258 : Int) => Ext.lit (.exit 0) [(6, .int .i64 0), (7, .int .i64 e258)] [])
 (fun e258 =>
  .done e258)
theorem k51_1 (p0 : (List SPair)) (p1 : (List SEnt104)) (p2 : Bool) (p3 : (List SCandidate)) (p4 : (List SCandidate)) : FnB Tryz.prog GG [0, 1, 2, 6, 7, 8, 9, 10, 11, 12, 13, 35] Tryz.f51 [.ref 1000000 0 p0.length, .fn 53 [] [.ptr 1000001 0 0, .ptr 1000002 0 0], .fn 50 [] []] (Ext.of .normal (argTs [.ref 1000000 0 p0.length, .fn 53 [] [.ptr 1000001 0 0, .ptr 1000002 0 0], .fn 50 [] []]) [(1000001, ⟨1, true, [[.mp 1000003]]⟩), (1000002, ⟨1, true, [[.ptr 1000004 0 0]]⟩), (1000004, ⟨4, true, [[.bool p2, .sl false 8 (List.map tySCandidate.c p3), .sl false 8 (List.map tySCandidate.c p4), .ref 1000000 0 p0.length]]⟩)] [BT.of 1000000 tySPair 4 p0 true, BT.of 1000003 tySEnt104 1114370 p1 true] (by rfl)) (g51_1 p0 p1 p2 p3 p4) (fun (r : Int) => .int .i64 r) (fun (_ : Int) => Ext.of .normal [] [] [] (by rfl)) := by unfold FnB; kernel_rfl
noncomputable def s51_1 (p0 : (List SPair)) (p1 : (List SEnt104)) (p2 : Bool) (p3 : (List SCandidate)) (p4 : (List SCandidate)) : EV.Spec Tryz.prog GG (Int) := .ofFnB 51 [] mixed Tryz.func51 rfl (fun _ => rfl) (k51_1 p0 p1 p2 p3 p4)
noncomputable def g17 (p0 : SList) : TT (Int × Int) :=
 .call2 1002 (s49 p0) [] [(7, 500010), (500009, 500011)] (fun r225 =>
  .tt (.done (0, 100)))
 (fun r226 =>
  .ff (.view 5007 (s51 p0.fPairs) [(VwW.of 500011 tySPair p0.fPairs)] fun r239 =>
  .bind 0
  (.br 0 (decide (r239 < 0))
   (.opr 7001 (Rule.makeMap 104 28 1114370 (by decide)) fun _ =>
    .opr 7002 (Rule.allocAny 104 8 (by kernel_rfl)) fun _ =>
    .bind 1
    (.lp (fun (l243 : (List SEnt104) × Int) => Ext.of .normal [(2, .int .i64 0), (3, .int .i64 0), (4, .ptr 4 0 0), (6, .fn 50 [] []), (7, .int .i64 r239), (8, .ptr 8 0 0), (33, .ref 500011 0 p0.fPairs.length), (34, .int .i64 (p0.fPairs.length : Int)), (35, .int .i64 l243.2)] [(4, ⟨1, true, [[.ptr 500010 0 0]]⟩), (8, ⟨1, true, [[.mp 28]]⟩), (500010, ⟨4, true, [[.bool p0.fControlling, .sl false 8 (List.map tySCandidate.c p0.fLocals), .sl false 8 (List.map tySCandidate.c p0.fRemotes), .ref 500011 0 p0.fPairs.length]]⟩)] [BT.of 28 tySEnt104 1114370 l243.1 true, BT.of 500011 tySPair 4 p0.fPairs true] (by rfl))
     (fun l243 =>
      .br 0 (decide (l243.2 < (p0.fPairs.length : Int)))
      (.chk 10001 (decide (0 ≤ l243.2) && decide (l243.2 < (p0.fPairs.length : Int))) (.row 10002 tySPair p0.fPairs (0 + l243.2.toNat) true fun x244 =>
       .br 0 (x244.fState == 2)
       (.view 12004 (s37 (SPlanner.mk p0) x244) [(VwW.of 500011 tySPair p0.fPairs)] fun r245 =>
        .opr 12005 (Rule.put (mt := 104) (kt := 91) (et := 4) (z := 1114370) (ty := tySEnt104) (p := (fun x => ((decide (r245.a0 = x.fk.a0)) && ((decide (r245.a1 = x.fk.a1)) && true)))) (kc := [.str r245.a0, .str r245.a1]) (.tmp 42) (.tmp 45) (.const (.bool true)) 28 l243.1 (SEnt104.mk r245 true) [.bool true] ⟨by kernel_rfl, by kernel_rfl, by kernel_rfl, fun _ => by kernel_rfl⟩ (by rfl) (by kernel_rfl) (by kernel_rfl) (by decide) (by decide)) fun _ =>
        .done (.inl ((mput l243.1 (fun x => ((decide (r245.a0 = x.fk.a0)) && ((decide (r245.a1 = x.fk.a1)) && true))) (SEnt104.mk r245 true)), (wi64 (l243.2 + 1)))))
       (.done (.inl (l243.1, (wi64 (l243.2 + 1)))))))
      (.done (.inr (l243.1, r239))))
     ([], 0))
    (fun (e246 : (List SEnt104) × Int) => Ext.of (.exit 0) [(2, .int .i64 0), (3, .int .i64 0), (4, .ptr 4 0 0), (6, .fn 50 [] []), (7, .int .i64 e246.2), (8, .ptr 8 0 0)] [(4, ⟨1, true, [[.ptr 500010 0 0]]⟩), (8, ⟨1, true, [[.mp 28]]⟩), (500010, ⟨4, true, [[.bool p0.fControlling, .sl false 8 (List.map tySCandidate.c p0.fLocals), .sl false 8 (List.map tySCandidate.c p0.fRemotes), .ref 500011 0 p0.fPairs.length]]⟩)] [BT.of 28 tySEnt104 1114370 e246.1 true, BT.of 500011 tySPair 4 p0.fPairs true] (by rfl))
    (fun e246 =>
     .call 14008 (s51_1 p0.fPairs e246.1 p0.fControlling p0.fLocals p0.fRemotes) [(1000001, 8), (1000002, 4), (1000004, 500010), (1000000, 500011), (1000003, 28)] [] fun r259 =>
     .done r259))
   (.done r239))
  (fun (e260 : Int) => Ext.lit .normal [(2, .int .i64 0), (3, .int .i64 0), (7, .int .i64 e260)] [])
  (fun e260 =>
   .br 0 (decide (e260 < 0))
   (.done (0, 4))
   (.done (e260, 0)))))
theorem k17 (p0 : SList) : FnD Tryz.prog GG [0, 1, 2, 3, 4, 5, 6, 7, 8, 10, 17, 27, 33, 34, 35, 36, 41, 56] Tryz.f17 [.agg [.bool p0.fControlling, .sl false 8 (List.map tySCandidate.c p0.fLocals), .sl false 8 (List.map tySCandidate.c p0.fRemotes), .sl false 4 (List.map tySPair.c p0.fPairs)]] (g17 p0) (fun r => .tup [.int .i64 r.1, .int .i64 r.2]) := by unfold FnD; kernel_rfl
noncomputable def s17 (p0 : SList) : EV.Spec Tryz.prog GG (Int × Int) := .ofFn 17 mixed Tryz.func17 (k17 p0)
noncomputable def g70 (p0 : (List SPair)) : TT (Int) :=
 .bind2 1
 (.lp (fun (l317 : Int) => Ext.lit .normal [(0, .sl false 4 (List.map tySPair.c p0)), (1, .fn 54 [] []), (4, .int .i64 0), (7, .int .i64 (mlen tySPair p0)), (8, .int .i64 l317)] [])
  (fun l317 =>
   .br 0 (decide (l317 < (mlen tySPair p0)))
   (.row 4004 tySPair p0 l317.toNat (decide (0 ≤ l317)) fun x318 =>
    .call 4006 (s54 x318) [] [] fun r319 =>
    .br 0 r319
    (.done (.inr (.inl l317)))
    (.done (.inl (wi64 (l317 + 1)))))
   (.done (.inr (.inr ()))))
  0)
 (fun (e320 : Int) => Ext.lit .ret [(4, .int .i64 e320)] [])
 (fun (_ : Unit) => Ext.lit (.exit 0) [(4, .int .i64 0)] [])
 (fun e320 =>
  .done e320)
 (fun _ =>
  .done (-1))
theorem k70 (p0 : (List SPair)) : FnD Tryz.prog GG [0, 1, 4, 5, 7, 8, 9, 16] Tryz.f70 [.sl false 4 (List.map tySPair.c p0), .fn 54 [] []] (g70 p0) (fun r => .int .i64 r) := by unfold FnD; kernel_rfl
noncomputable def s70 (p0 : (List SPair)) : EV.Spec Tryz.prog GG (Int) := .ofFn 70 mixed Tryz.func70 (k70 p0)
noncomputable def g55 (p0 : (List SPair)) : TT (Bool) :=
 .call 1003 (s70 p0) [] [] fun r322 =>
 .done (decide ((0 : Int) ≤ r322))
theorem k55 (p0 : (List SPair)) : FnD Tryz.prog GG [0, 1, 4] Tryz.f55 [.sl false 4 (List.map tySPair.c p0), .fn 54 [] []] (g55 p0) (fun r => .bool r) := by unfold FnD; kernel_rfl
noncomputable def s55 (p0 : (List SPair)) : EV.Spec Tryz.prog GG (Bool) := .ofFn 55 mixed Tryz.func55 (k55 p0)
noncomputable def g19 (p0 : SList) : TT (Bool × Int) :=
 .call2 1002 (s49 p0) [] [(7, 500012), (500009, 500013)] (fun _ =>
  .tt (.done (false, 100)))
 (fun _ =>
  .ff (.view 5007 (s55 p0.fPairs) [(VwW.of 500013 tySPair p0.fPairs)] fun r323 =>
  .done ((!r323), 0)))
theorem k19 (p0 : SList) : FnD Tryz.prog GG [0, 1, 2, 3, 4, 5, 6, 13] Tryz.f19 [.agg [.bool p0.fControlling, .sl false 8 (List.map tySCandidate.c p0.fLocals), .sl false 8 (List.map tySCandidate.c p0.fRemotes), .sl false 4 (List.map tySPair.c p0.fPairs)]] (g19 p0) (fun r => .tup [.bool r.1, .int .i64 r.2]) := by unfold FnD; kernel_rfl
noncomputable def s19 (p0 : SList) : EV.Spec Tryz.prog GG (Bool × Int) := .ofFn 19 mixed Tryz.func19 (k19 p0)
noncomputable def g21 (p0 : SList) : TT (SList × Int) :=
 .call2 1002 (s49 p0) [] [(7, 500014), (500009, 500015)] (fun r335 =>
  .tt (.done ((SList.mk false [] [] []), 100)))
 (fun r336 =>
  .ff (.bind 1
  (.lp (fun (l341 : (List SPair) × Int) => Ext.of .normal [(2, .ptr 2 0 0), (3, .int .i64 0), (4, .ptr 500014 0 0), (31, .ref 500015 0 l341.1.length), (32, .int .i64 (p0.fPairs.length : Int)), (33, .int .i64 l341.2)] [(2, ⟨4, true, [[.bool false, .nilsl, .nilsl, .nilsl]]⟩), (500014, ⟨4, true, [[.bool (!p0.fControlling), .sl false 8 (List.map tySCandidate.c p0.fLocals), .sl false 8 (List.map tySCandidate.c p0.fRemotes), .ref 500015 0 l341.1.length]]⟩)] [BT.of 500015 tySPair 4 l341.1 true] (by rfl))
   (fun l341 =>
    .br 0 (decide (l341.2 < (p0.fPairs.length : Int)))
    (.chk 7002 (decide (0 ≤ l341.2) && decide (l341.2 < (l341.1.length : Int))) (.row 7003 tySPair l341.1 (0 + l341.2.toNat) true fun x342 =>
     .view 8009 (s56 (SPlanner.mk (SList.mk (!p0.fControlling) p0.fLocals p0.fRemotes l341.1)) x342) [(VwW.of 500015 tySPair l341.1)] fun r343 =>
     .chk 8010 (decide (0 ≤ l341.2) && decide (l341.2 < (l341.1.length : Int))) (.row 8012 tySPair l341.1 (0 + l341.2.toNat) true fun x344 =>
     .re 8012 (ReW.put 500015 4 tySPair l341.1 (0 + l341.2.toNat) (SPair.mk x344.fLocal x344.fRemote r343 x344.fState)) (.gh 11 (.len 500015 ((l341.1.set (0 + l341.2.toNat) (SPair.mk x344.fLocal x344.fRemote r343 x344.fState)).length) [l341.1.length, l341.1.length] (by simp)) (.done (.inl ((l341.1.set (0 + l341.2.toNat) (SPair.mk x344.fLocal x344.fRemote r343 x344.fState)), (wi64 (l341.2 + 1)))))))))
    (.done (.inr l341.1)))
   (p0.fPairs, 0))
  (fun (e345 : (List SPair)) => Ext.of (.exit 0) [(2, .ptr 2 0 0), (3, .int .i64 0), (4, .ptr 500014 0 0)] [(2, ⟨4, true, [[.bool false, .nilsl, .nilsl, .nilsl]]⟩), (500014, ⟨4, true, [[.bool (!p0.fControlling), .sl false 8 (List.map tySCandidate.c p0.fLocals), .sl false 8 (List.map tySCandidate.c p0.fRemotes), .ref 500015 0 e345.length]]⟩)] [BT.of 500015 tySPair 4 e345 true] (by rfl))
  (fun e345 =>
   .gh 0 (.share (VwW.of 500015 tySPair e345) 1) (.done ((SList.mk (!p0.fControlling) p0.fLocals p0.fRemotes e345), 0)))))
theorem k21 (p0 : SList) : FnD Tryz.prog GG [0, 1, 2, 3, 4, 5, 6, 7, 14, 31, 32, 33, 34] Tryz.f21 [.agg [.bool p0.fControlling, .sl false 8 (List.map tySCandidate.c p0.fLocals), .sl false 8 (List.map tySCandidate.c p0.fRemotes), .sl false 4 (List.map tySPair.c p0.fPairs)]] (g21 p0) (fun r => .tup [.agg [.bool r.1.fControlling, .sl false 8 (List.map tySCandidate.c r.1.fLocals), .sl false 8 (List.map tySCandidate.c r.1.fRemotes), .sl false 4 (List.map tySPair.c r.1.fPairs)], .int .i64 r.2]) := by unfold FnD; kernel_rfl
noncomputable def s21 (p0 : SList) : EV.Spec Tryz.prog GG (SList × Int) := .ofFn 21 mixed Tryz.func21 (k21 p0)
noncomputable def g23 (p0 : SList) (p1 : Int) (p2 : Int) : TT (SList × Int) :=
 .call2 1002 (s49 p0) [] [(7, 500017), (500009, 500018)] (fun r357 =>
  .tt (.done ((SList.mk false [] [] []), 100)))
 (fun r358 =>
  .ff (.cnd 4 [40]
  (.br 4004 (decide (p1 < 0))
   (.done true)
   (.br 4014 (decide ((p0.fPairs.length : Int) ≤ p1))
    (.done true)
    (.br 4018 (decide (p2 < 0))
     (.done true)
     (.done (decide ((4 : Int) < p2))))))
  (fun (c359 : Bool) => [.bool c359]) fun c359 =>
  .br 0 c359
  (.done ((SList.mk false [] [] []), 2))
  (.chk 6008 (decide (0 ≤ p1) && decide (p1 < (p0.fPairs.length : Int))) (.row 6010 tySPair p0.fPairs (0 + p1.toNat) true fun x360 =>
   .re 6010 (ReW.put 500018 4 tySPair p0.fPairs (0 + p1.toNat) (SPair.mk x360.fLocal x360.fRemote x360.fPriority p2)) (.gh 9 (.len 500018 ((p0.fPairs.set (0 + p1.toNat) (SPair.mk x360.fLocal x360.fRemote x360.fPriority p2)).length) [p0.fPairs.length] (by simp)) (.bind 1
   (.lp (fun (l368 : (List SPair) × Int) => Ext.of .normal [(1, .int .i64 p1), (2, .int .i64 p2), (6, .ptr 6 0 0), (7, .int .i64 0), (8, .ptr 500017 0 0), (55, .ref 500018 0 l368.1.length), (56, .int .i64 ((p0.fPairs.set (0 + p1.toNat) (SPair.mk x360.fLocal x360.fRemote x360.fPriority p2)).length : Int)), (57, .int .i64 l368.2)] [(6, ⟨4, true, [[.bool false, .nilsl, .nilsl, .nilsl]]⟩), (500017, ⟨4, true, [[.bool p0.fControlling, .sl false 8 (List.map tySCandidate.c p0.fLocals), .sl false 8 (List.map tySCandidate.c p0.fRemotes), .ref 500018 0 l368.1.length]]⟩)] [BT.of 500018 tySPair 4 l368.1 true] (by rfl))
    (fun l368 =>
     .br 0 (decide (l368.2 < ((p0.fPairs.set (0 + p1.toNat) (SPair.mk x360.fLocal x360.fRemote x360.fPriority p2)).length : Int)))
     (.chk 9002 (decide (0 ≤ l368.2) && decide (l368.2 < (l368.1.length : Int))) (.row 9003 tySPair l368.1 (0 + l368.2.toNat) true fun x369 =>
      .cnd 10 [84]
      (.br 10004 (p2 == 3)
       (.br 10009 (x369.fState == 0)
        (.view 10011 (s37 (SPlanner.mk (SList.mk p0.fControlling p0.fLocals p0.fRemotes l368.1)) x369) [(VwW.of 500018 tySPair l368.1)] fun r370 =>
         .chk 10019 (decide (0 ≤ p1) && decide (p1 < (l368.1.length : Int))) (.row 10020 tySPair l368.1 (0 + p1.toNat) true fun x371 =>
         .view 10021 (s37 (SPlanner.mk (SList.mk p0.fControlling p0.fLocals p0.fRemotes l368.1)) x371) [(VwW.of 500018 tySPair l368.1)] fun r372 =>
         .done ((decide (r370.a0 = r372.a0)) && ((decide (r370.a1 = r372.a1)) && true))))
        (.done false))
       (.done false))
      (fun (c373 : Bool) => [.bool c373]) fun c373 =>
      .br 0 c373
      (.chk 11007 (decide (0 ≤ l368.2) && decide (l368.2 < (l368.1.length : Int))) (.row 11009 tySPair l368.1 (0 + l368.2.toNat) true fun x374 =>
       .re 11009 (ReW.put 500018 4 tySPair l368.1 (0 + l368.2.toNat) (SPair.mk x374.fLocal x374.fRemote x374.fPriority 1)) (.gh 14 (.len 500018 ((l368.1.set (0 + l368.2.toNat) (SPair.mk x374.fLocal x374.fRemote x374.fPriority 1)).length) [l368.1.length, l368.1.length] (by simp)) (.done (.inl ((l368.1.set (0 + l368.2.toNat) (SPair.mk x374.fLocal x374.fRemote x374.fPriority 1)), (wi64 (l368.2 + 1))))))))
      (.done (.inl (l368.1, (wi64 (l368.2 + 1)))))))
     (.done (.inr l368.1)))
    ((p0.fPairs.set (0 + p1.toNat) (SPair.mk x360.fLocal x360.fRemote x360.fPriority p2)), 0))
   (fun (e375 : (List SPair)) => Ext.of (.exit 0) [(6, .ptr 6 0 0), (7, .int .i64 0), (8, .ptr 500017 0 0)] [(6, ⟨4, true, [[.bool false, .nilsl, .nilsl, .nilsl]]⟩), (500017, ⟨4, true, [[.bool p0.fControlling, .sl false 8 (List.map tySCandidate.c p0.fLocals), .sl false 8 (List.map tySCandidate.c p0.fRemotes), .ref 500018 0 e375.length]]⟩)] [BT.of 500018 tySPair 4 e375 true] (by rfl))
   (fun e375 =>
    .gh 0 (.share (VwW.of 500018 tySPair e375) 1) (.done ((SList.mk p0.fControlling p0.fLocals p0.fRemotes e375), 0)))))))))
theorem k23 (p0 : SList) (p1 : Int) (p2 : Int) : FnD Tryz.prog GG [0, 1, 2, 3, 6, 7, 8, 9, 10, 11, 18, 40, 55, 56, 57, 58, 84] Tryz.f23 [.agg [.bool p0.fControlling, .sl false 8 (List.map tySCandidate.c p0.fLocals), .sl false 8 (List.map tySCandidate.c p0.fRemotes), .sl false 4 (List.map tySPair.c p0.fPairs)], .int .i64 p1, .int .i64 p2] (g23 p0 p1 p2) (fun r => .tup [.agg [.bool r.1.fControlling, .sl false 8 (List.map tySCandidate.c r.1.fLocals), .sl false 8 (List.map tySCandidate.c r.1.fRemotes), .sl false 4 (List.map tySPair.c r.1.fPairs)], .int .i64 r.2]) := by unfold FnD; kernel_rfl
noncomputable def s23 (p0 : SList) (p1 : Int) (p2 : Int) : EV.Spec Tryz.prog GG (SList × Int) := .ofFn 23 mixed Tryz.func23 (k23 p0 p1 p2)
end Go.Proofs.YtioobnkmohikjaaGreatDoor
namespace Go.Proofs.YtioobnkmohikjaaGreatDoor
open Go Go.EV
set_option maxRecDepth 100000
theorem eA_iff {a b : SAddr} : (decide (a.fHost = b.fHost) && ((a.fPort == b.fPort) && true)) = true ↔ a = b := by
 cases a; cases b; simp
def UsableA (a : SAddr) : Prop := ((a.fHost.size : Int) = 4 ∨ (a.fHost.size : Int) = 16) ∧ 1 ≤ a.fPort ∧ a.fPort ≤ 65535
theorem okAREAD (h : ByteArray) : SOk (s102 h) (fun r => (r.2 = 0 ↔ ((h.size : Int) = 4 ∨ (h.size : Int) = 16))) := by
 show Ok (g102 h) _
 unfold g102
 refine Ok.cnd (R := fun c => (c = true ↔ ¬ ((h.size : Int) = 4 ∨ (h.size : Int) = 16))) ?_ fun c hc => ?_
 ·refine Ok.br (fun h1 => Ok.done ?_) (fun h1 => Ok.done ?_)
  ·simp at h1 ⊢; omega
  ·simp at h1 ⊢; omega
 ·refine Ok.br (fun h1 => Ok.done ?_) (fun h1 => Ok.done ?_)
  ·simp [hc.1 h1]
  ·subst h1; simp at hc ⊢; omega
theorem okACHECK (a : SAddr) : SOk (s94 a) (fun r => (r = 0 ↔ ((a.fHost.size : Int) = 4 ∨ (a.fHost.size : Int) = 16) ∧ 0 ≤ a.fPort ∧ a.fPort ≤ 65535)) := by
 show Ok (g94 a) _
 unfold g94
 refine Ok.call (okAREAD _) fun r hr => ?_
 refine Ok.cnd (R := fun c => (c = true ↔ ¬ (((a.fHost.size : Int) = 4 ∨ (a.fHost.size : Int) = 16) ∧ 0 ≤ a.fPort ∧ a.fPort ≤ 65535))) ?_ fun c hc => ?_
 ·refine Ok.br (fun h1 => Ok.done ?_) (fun h1 => Ok.br (fun h2 => Ok.done ?_) (fun h2 => Ok.done ?_))
  ·simp at h1 ⊢; rw [hr] at h1; omega
  ·simp at h2 ⊢; omega
  ·simp at h1 h2 ⊢; rw [hr] at h1; omega
 ·refine Ok.br (fun h1 => Ok.done ?_) (fun h1 => Ok.done ?_)
  ·simp; have := hc.1 h1; omega
  ·subst h1; simp at hc ⊢; omega
theorem okCUSABLE (a : SAddr) : SOk (s83 a) (fun b => (b = true ↔ UsableA a)) := by
 show Ok (g83 a) _
 unfold g83
 refine Ok.cnd (R := fun c => (c = true ↔ UsableA a)) ?_ fun c hc => Ok.done hc
 refine Ok.call (okACHECK _) fun x hx => ?_
 unfold UsableA
 refine Ok.br (fun h1 => Ok.done ?_) (fun h1 => Ok.done ?_)
 ·simp at h1 ⊢; rw [hx] at h1; omega
 ·simp at h1 ⊢; rw [hx] at h1; omega
theorem okRUSABLE (a : SAddr) : SOk (s78 a) (fun b => (b = true ↔ UsableA a)) := by
 show Ok (g78 a) _
 unfold g78
 refine Ok.cnd (R := fun c => (c = true ↔ UsableA a)) ?_ fun c hc => Ok.done hc
 refine Ok.call (R := fun c => (c = true ↔ ((a.fHost.size : Int) = 4 ∨ (a.fHost.size : Int) = 16) ∧ 0 ≤ a.fPort ∧ a.fPort ≤ 65535)) ?_ fun c hc => ?_
 ·show Ok (g85 a) _
  unfold g85
  refine Ok.cnd (R := fun c => (c = true ↔ ((a.fHost.size : Int) = 4 ∨ (a.fHost.size : Int) = 16) ∧ 0 ≤ a.fPort ∧ a.fPort ≤ 65535)) ?_ fun c hc => Ok.done hc
  refine Ok.call (R := fun c => (c = true ↔ ((a.fHost.size : Int) = 4 ∨ (a.fHost.size : Int) = 16))) ?_ fun c hc => ?_
  ·show Ok (g96 a.fHost) _
   unfold g96
   refine Ok.cnd (R := fun c => (c = true ↔ ((a.fHost.size : Int) = 4 ∨ (a.fHost.size : Int) = 16))) ?_ fun c hc => Ok.done hc
   refine Ok.br (fun h1 => Ok.done ?_) (fun h1 => Ok.done ?_)
   ·simp at h1 ⊢; exact .inl h1
   ·simp at h1 ⊢; omega
  ·refine Ok.br (fun h1 => Ok.br (fun h2 => Ok.done ?_) (fun h2 => Ok.done ?_)) (fun h1 => Ok.done ?_)
   ·rw [hc] at h1; simp at h2 ⊢; omega
   ·simp at h2 ⊢; omega
   ·subst h1; simp at hc ⊢; omega
 ·unfold UsableA
  refine Ok.br (fun h1 => Ok.done ?_) (fun h1 => Ok.done ?_)
  ·rw [hc] at h1; simp; omega
  ·subst h1; simp at hc ⊢; omega
theorem okWITHIN (n a b : Int) : SOk (s79 n a b) (fun c => (c = true ↔ a ≤ n ∧ n ≤ b)) := by
 show Ok (g79 n a b) _
 unfold g79
 refine Ok.cnd (R := fun c => (c = true ↔ a ≤ n ∧ n ≤ b)) ?_ fun c hc => Ok.done hc
 refine Ok.br (fun h1 => Ok.done ?_) (fun h1 => Ok.done ?_)
 ·simp at h1 ⊢; omega
 ·simp at h1 ⊢; omega
def HexD (x : Int) : Prop := (48 ≤ x ∧ x ≤ 57) ∨ (97 ≤ x ∧ x ≤ 102) ∨ x = 45
theorem bAt_lt (s : ByteArray) (i : Int) : 0 ≤ bAt s i ∧ bAt s i < 256 := by
 unfold bAt
 refine ⟨by omega, ?_⟩
 have := UInt8.toNat_lt (s.data.getD i.toNat 0)
 omega
theorem okCONT (x : Int) (h : 0 ≤ x ∧ x < 256) : SOk (s98 x) (fun c => (c = true ↔ HexD x)) := by
 show Ok (g98 x) _
 unfold g98
 obtain ⟨n, rfl⟩ := Int.eq_ofNat_of_zero_le h.1
 have hn : n < 256 := by omega
 refine Ok.ceq ?_ ?_
 ·have : ∀ n : Fin 256, ([0, 1, 2, 3, 4, 5, 6, 7, 8, 9, 10, 11, 12, 13, 14, 15, 16, 17, 18, 19, 20, 21, 22, 23, 24, 25, 26, 27, 28, 29, 30, 31, 32, 33, 34, 35, 36, 37, 38, 39, 40, 41, 42, 43, 44, 45, 46, 47, 48, 49, 50, 51, 52, 53, 54, 55, 56, 57, 58, 59, 60, 61, 62, 63, 64, 65, 66, 67, 68, 69, 70, 71, 72, 73, 74, 75, 76, 77, 78, 79, 80, 81, 82, 83, 84, 85, 86, 87, 88, 89, 90, 91, 92, 93, 94, 95, 96, 97, 98, 99, 100, 101, 102, 103, 104, 105, 106, 107, 108, 109, 110, 111, 112, 113, 114, 115, 116, 117, 118, 119, 120, 121, 122, 123, 124, 125, 126, 127, 128, 129, 130, 131, 132, 133, 134, 135, 136, 137, 138, 139, 140, 141, 142, 143, 144, 145, 146, 147, 148, 149, 150, 151, 152, 153, 154, 155, 156, 157, 158, 159, 160, 161, 162, 163, 164, 165, 166, 167, 168, 169, 170, 171, 172, 173, 174, 175, 176, 177, 178, 179, 180, 181, 182, 183, 184, 185, 186, 187, 188, 189, 190, 191, 192, 193, 194, 195, 196, 197, 198, 199, 200, 201, 202, 203, 204, 205, 206, 207, 208, 209, 210, 211, 212, 213, 214, 215, 216, 217, 218, 219, 220, 221, 222, 223, 224, 225, 226, 227, 228, 229, 230, 231, 232, 233, 234, 235, 236, 237, 238, 239, 240, 241, 242, 243, 244, 245, 246, 247, 248, 249, 250, 251, 252, 253, 254, 255] : List Int).contains ((n.val : Nat) : Int) = true := by decide
  exact this ⟨n, hn⟩
 ·cases hb : ([45, 48, 49, 50, 51, 52, 53, 54, 55, 56, 57, 97, 98, 99, 100, 101, 102] : List Int).contains (n : Int) with
  | true =>
   refine Ok.done ⟨fun _ => ?_, fun _ => rfl⟩
   rw [List.contains_iff_mem] at hb
   simp only [List.mem_cons, List.not_mem_nil, or_false] at hb
   unfold HexD; omega
  | false =>
   refine Ok.done ⟨fun h => by simp at h, fun h => ?_⟩
   have : ¬ (n : Int) ∈ ([45, 48, 49, 50, 51, 52, 53, 54, 55, 56, 57, 97, 98, 99, 100, 101, 102] : List Int) := fun hm => by
    rw [← List.contains_iff_mem] at hm; rw [hm] at hb; simp at hb
   simp only [List.mem_cons, List.not_mem_nil, or_false] at this
   unfold HexD at h; omega
def AllHex (s : ByteArray) : Prop := ∀ i : Nat, i < s.size → HexD (bAt s i)
theorem bAt_extract (s : ByteArray) (a b : Nat) (i : Nat) (hb : b ≤ s.size) (hi : a + i < b) : bAt (s.extract a b) (i : Int) = bAt s ((a + i : Nat) : Int) := by
 unfold bAt
 simp only [Int.toNat_natCast]
 have : (s.extract a b).data[i]? = s.data[a + i]? := by
  rw [ByteArray.data_extract, Array.getElem?_extract, if_pos (by have : s.data.size = s.size := rfl; omega)]
 rw [Array.getD_eq_getD_getElem?, Array.getD_eq_getD_getElem?, this]
theorem size_extract (s : ByteArray) (a b : Nat) (hb : b ≤ s.size) : (s.extract a b).size = b - a := by
 rw [ByteArray.size_extract]; omega
theorem empty_iff (s : ByteArray) : s = ByteArray.empty ↔ s.size = 0 := by
 constructor
 ·rintro rfl; rfl
 ·intro h
  exact ByteArray.ext (Array.eq_empty_of_size_eq_zero h)
theorem okTRIMR (s : ByteArray) (hs : s.size ≤ 1000000) : SOk (s91 s) (fun r => ∃ n, n ≤ s.size ∧ r = s.extract 0 n ∧ (∀ i, n ≤ i → i < s.size → HexD (bAt s i)) ∧ (0 < n → ¬ HexD (bAt s ((n - 1 : Nat) : Int)))) := by
 show Ok (g91 s) _
 unfold g91
 refine Ok.bind (R := fun r => ∃ n, n ≤ s.size ∧ r = s.extract 0 n ∧ (∀ i, n ≤ i → i < s.size → HexD (bAt s i)) ∧ (0 < n → ¬ HexD (bAt s ((n - 1 : Nat) : Int)))) ?_ fun e he => Ok.done he
 refine Ok.lp (fun y => ∃ n, n ≤ s.size ∧ y = s.extract 0 n ∧ ∀ i, n ≤ i → i < s.size → HexD (bAt s i)) (fun y => y.size) ⟨s.size, Nat.le_refl _, by rw [ByteArray.extract_zero_size], fun i h1 h2 => by omega⟩ (fuel (by omega)) fun y hy => ?_
 obtain ⟨n, hn, rfl, hd⟩ := hy
 have hsz : (s.extract 0 n).size = n := by rw [size_extract s 0 n hn]; omega
 rw [hsz]
 refine Ok.br (fun hc => ?_) (fun hc => Ok.done ?_)
 ·simp only [decide_eq_true_eq] at hc
  have e : wi64 ((n : Int) - 1) = ((n - 1 : Nat) : Int) := by rw [wi64_id (by omega) (by omega)]; omega
  rw [e]
  refine Ok.chk (by simp; omega) ?_
  have eb : bAt (s.extract 0 n) ((n - 1 : Nat) : Int) = bAt s ((n - 1 : Nat) : Int) := by
   have := bAt_extract s 0 n (n - 1) hn (by omega)
   rw [this]; simp
  rw [eb]
  refine Ok.call (okCONT _ (bAt_lt _ _)) fun c hcc => ?_
  refine Ok.br (fun h1 => Ok.done ?_) (fun h1 => ?_)
  ·exact ⟨n, hn, rfl, hd, fun _ h => by rw [hcc.2 h] at h1; simp at h1⟩
  ·refine Ok.chk (by simp) (Ok.done ?_)
   have hcx : HexD (bAt s ((n - 1 : Nat) : Int)) := hcc.1 (by simpa using h1)
   refine ⟨⟨n - 1, by omega, ?_, fun i h2 h3 => ?_⟩, ?_⟩
   ·rw [Int.toNat_natCast, ByteArray.extract_extract]
    congr 1
    omega
   ·by_cases h4 : i = n - 1
    ·rw [h4]; exact hcx
    ·exact hd i (by omega) h3
   ·show ((s.extract 0 n).extract 0 ((n - 1 : Nat) : Int).toNat).size < n
    rw [Int.toNat_natCast, size_extract _ _ _ (by rw [hsz]; omega)]; omega
 ·simp only [decide_eq_false_iff_not] at hc
  exact ⟨n, hn, rfl, hd, fun h => by omega⟩
theorem okTRIML (s : ByteArray) (hs : s.size ≤ 1000000) : SOk (s90 s) (fun r => (r.size = 0 ↔ AllHex s)) := by
 show Ok (g90 s) _
 unfold g90
 refine Ok.bind (R := fun r => (r.size = 0 ↔ AllHex s)) ?_ fun e he => Ok.done he
 refine Ok.lp (fun y => ∃ n, n ≤ s.size ∧ y = s.extract n s.size ∧ ∀ i, i < n → HexD (bAt s i)) (fun y => y.size) ⟨0, Nat.zero_le _, by rw [ByteArray.extract_zero_size], fun i h => by omega⟩ (fuel (by omega)) fun y hy => ?_
 obtain ⟨n, hn, rfl, hd⟩ := hy
 have hsz : (s.extract n s.size).size = s.size - n := size_extract s n s.size (Nat.le_refl _)
 rw [hsz]
 refine Ok.br (fun hc => ?_) (fun hc => Ok.done ?_)
 ·simp only [decide_eq_true_eq] at hc
  refine Ok.chk (by simp; omega) ?_
  have eb : bAt (s.extract n s.size) 0 = bAt s (n : Int) := by
   have := bAt_extract s n s.size 0 (Nat.le_refl _) (by omega)
   simpa using this
  rw [eb]
  refine Ok.call (okCONT _ (bAt_lt _ _)) fun c hcc => ?_
  refine Ok.br (fun h1 => Ok.done ?_) (fun h1 => ?_)
  ·show _ ↔ _
   rw [hsz]
   refine ⟨fun h => by omega, fun h => ?_⟩
   have := hcc.2 (h n (by omega))
   rw [this] at h1; simp at h1
  ·refine Ok.chk (by simp; omega) (Ok.done ?_)
   refine ⟨⟨n + 1, by omega, ?_, fun i hi => ?_⟩, ?_⟩
   ·rw [ByteArray.extract_extract]
    congr 1 <;> omega
   ·by_cases h4 : i = n
    ·rw [h4]; exact hcc.1 (by simpa using h1)
    ·exact hd i (by omega)
   ·show ((s.extract n s.size).extract 1 (s.size - n)).size < s.size - n
    rw [size_extract _ _ _ (by rw [hsz]; omega)]; omega
 ·simp only [decide_eq_false_iff_not] at hc
  show _ ↔ _
  rw [hsz]
  exact ⟨fun _ i hi => hd i (by omega), fun _ => by omega⟩
theorem okTRIM (s : ByteArray) (hs : s.size ≤ 1000000) : SOk (s82 s) (fun r => (r = ByteArray.empty ↔ AllHex s)) := by
 show Ok (g82 s) _
 unfold g82
 refine Ok.cnd (R := fun c => c = decide (s = ByteArray.empty)) (Ok.br (fun h => Ok.done h.symm) (fun h => Ok.done h.symm)) fun c hc => ?_
 refine Ok.br (fun h1 => Ok.done ?_) (fun h1 => ?_)
 ·rw [hc, decide_eq_true_eq] at h1
  exact ⟨fun _ i hi => by rw [h1] at hi; exact absurd hi (by simp [ByteArray.size_empty]), fun _ => h1⟩
 ·refine Ok.ff (Ok.call (R := fun _ => True) ⟨(), by kernel_rfl, trivial⟩ fun _ _ => Ok.tt (Ok.view (okTRIMR s hs) fun r hr => ?_))
  obtain ⟨n, hn, rfl, hd, hl⟩ := hr
  have hsz : (s.extract 0 n).size = n := by rw [size_extract s 0 n hn]; omega
  refine Ok.view (okTRIML _ (by omega)) fun q hq => Ok.done ?_
  rw [empty_iff, hq]
  have eb : ∀ i, i < n → bAt (s.extract 0 n) (i : Int) = bAt s (i : Int) := fun i hi => by
   have := bAt_extract s 0 n i hn (by omega)
   rw [this]; simp
  constructor
  ·intro h i hi
   by_cases hin : i < n
   ·rw [← eb i hin]; exact h i (by omega)
   ·exact hd i (by omega) hi
  ·intro h i hi
   rw [hsz] at hi
   rw [eb i hi]; exact h i (by omega)
def CandOk (c : SCandidate) : Prop :=
 (1 ≤ c.fKind ∧ c.fKind ≤ 4) ∧ (1 ≤ c.fComponent ∧ c.fComponent ≤ 256) ∧ (1 ≤ c.fPriority ∧ c.fPriority ≤ 2147483647) ∧ (1 ≤ (c.fFoundation.size : Int) ∧ (c.fFoundation.size : Int) ≤ 80) ∧
 AllHex c.fFoundation ∧ UsableA c.fAddr ∧ UsableA c.fBase ∧ (c.fAddr.fHost.size : Int) = (c.fBase.fHost.size : Int) ∧ (c.fAddr = c.fBase ∨ c.fKind = 2 ∨ c.fKind = 3)
theorem okCVALID (c : SCandidate) : SOk (s75 c) (fun b => (b = true ↔ CandOk c)) := by
 show Ok (g75 c) _
 unfold g75 CandOk
 refine Ok.cnd (R := fun b => (b = true ↔ ¬ ((1 ≤ c.fKind ∧ c.fKind ≤ 4) ∧ (1 ≤ c.fComponent ∧ c.fComponent ≤ 256) ∧ (1 ≤ c.fPriority ∧ c.fPriority ≤ 2147483647) ∧ (1 ≤ (c.fFoundation.size : Int) ∧ (c.fFoundation.size : Int) ≤ 80)))) ?_ fun b hb => ?_
 ·refine Ok.call (okWITHIN _ _ _) fun r1 h1 => Ok.br (fun k1 => Ok.done ?_) (fun k1 => Ok.call (okWITHIN _ _ _) fun r2 h2 => Ok.br (fun k2 => Ok.done ?_) (fun k2 => Ok.call (okWITHIN _ _ _) fun r3 h3 => Ok.br (fun k3 => Ok.done ?_) (fun k3 => Ok.call (okWITHIN _ _ _) fun r4 h4 => Ok.done ?_)))
  ·simp only [Bool.not_eq_true'] at k1; subst k1; simp at h1 ⊢; omega
  ·simp only [Bool.not_eq_true'] at k2; subst k2; simp at h2 ⊢; omega
  ·simp only [Bool.not_eq_true'] at k3; subst k3; simp at h3 ⊢; omega
  ·simp only [Bool.not_eq_false'] at k1 k2 k3
   rw [k1] at h1; rw [k2] at h2; rw [k3] at h3
   simp only [true_iff] at h1 h2 h3
   cases r4 <;> simp at h4 ⊢ <;> omega
 ·refine Ok.br (fun h1 => Ok.done ?_) (fun h1 => ?_)
  ·have := hb.1 h1
   exact ⟨fun h => by simp at h, fun h => absurd ⟨h.1, h.2.1, h.2.2.1, h.2.2.2.1⟩ this⟩
  ·have hb' : (1 ≤ c.fKind ∧ c.fKind ≤ 4) ∧ (1 ≤ c.fComponent ∧ c.fComponent ≤ 256) ∧ (1 ≤ c.fPriority ∧ c.fPriority ≤ 2147483647) ∧ (1 ≤ (c.fFoundation.size : Int) ∧ (c.fFoundation.size : Int) ≤ 80) :=
    Classical.byContradiction fun hn => by rw [hb.2 hn] at h1; simp at h1
   refine Ok.cnd (R := fun b => (b = true ↔ ¬ (AllHex c.fFoundation ∧ UsableA c.fAddr ∧ UsableA c.fBase ∧ (c.fAddr.fHost.size : Int) = (c.fBase.fHost.size : Int)))) ?_ fun b2 hb2 => ?_
   ·refine Ok.call (okTRIM _ (by omega)) fun r hr => Ok.br (fun k1 => Ok.done ?_) (fun k1 => Ok.call (okCUSABLE _) fun r2 h2 => Ok.br (fun k2 => Ok.done ?_) (fun k2 => Ok.call (okCUSABLE _) fun r3 h3 => Ok.br (fun k3 => Ok.done ?_) (fun k3 => Ok.done ?_)))
    ·simp only [Bool.not_eq_true', decide_eq_false_iff_not] at k1
     exact ⟨fun _ h => k1 (hr.2 h.1), fun _ => rfl⟩
    ·simp only [Bool.not_eq_true'] at k2; subst k2
     exact ⟨fun _ h => by have := h2.2 h.2.1; simp at this, fun _ => rfl⟩
    ·simp only [Bool.not_eq_true'] at k3; subst k3
     exact ⟨fun _ h => by have := h3.2 h.2.2.1; simp at this, fun _ => rfl⟩
    ·simp only [Bool.not_eq_false', decide_eq_true_eq] at k1 k2 k3
     have e1 := hr.1 k1; have e2 := h2.1 k2; have e3 := h3.1 k3
     simp only [bne_iff_ne]
     exact ⟨fun h h' => h h'.2.2.2, fun h h' => h ⟨e1, e2, e3, h'⟩⟩
   ·refine Ok.br (fun h2 => Ok.done ?_) (fun h2 => ?_)
    ·have := hb2.1 h2
     exact ⟨fun h => by simp at h, fun h => absurd ⟨h.2.2.2.2.1, h.2.2.2.2.2.1, h.2.2.2.2.2.2.1, h.2.2.2.2.2.2.2.1⟩ this⟩
    ·have hb3 : AllHex c.fFoundation ∧ UsableA c.fAddr ∧ UsableA c.fBase ∧ (c.fAddr.fHost.size : Int) = (c.fBase.fHost.size : Int) :=
      Classical.byContradiction fun hn => by rw [hb2.2 hn] at h2; simp at h2
     refine Ok.cnd (R := fun b => (b = true ↔ (c.fAddr = c.fBase ∨ c.fKind = 2 ∨ c.fKind = 3))) ?_ fun b4 hb4 => Ok.done ?_
     ·refine Ok.br (fun k1 => Ok.done ?_) (fun k1 => Ok.br (fun k2 => Ok.done ?_) (fun k2 => Ok.done ?_))
      ·exact ⟨fun _ => .inl (eA_iff.1 k1), fun _ => rfl⟩
      ·simp only [beq_iff_eq] at k2; exact ⟨fun _ => .inr (.inl k2), fun _ => rfl⟩
      ·simp only [beq_eq_false_iff_ne, beq_iff_eq] at k2 ⊢
       have hne : c.fAddr ≠ c.fBase := fun e => by rw [eA_iff.2 e] at k1; simp at k1
       exact ⟨fun h => .inr (.inr h), fun h => by rcases h with h | h | h; exact absurd h hne; exact absurd h k2; exact h⟩
     ·rw [hb4]
      exact ⟨fun h => ⟨hb'.1, hb'.2.1, hb'.2.2.1, hb'.2.2.2, hb3.1, hb3.2.1, hb3.2.2.1, hb3.2.2.2, h⟩, fun h => h.2.2.2.2.2.2.2.2⟩
theorem okCCHECK (c : SCandidate) : SOk (s63 c) (fun r => (r = 0 ↔ CandOk c)) := by
 show Ok (g63 c) _
 unfold g63
 refine Ok.call (okCVALID c) fun r hr => Ok.br (fun k1 => Ok.done ?_) (fun k1 => Ok.done ?_)
 ·simp only [Bool.not_eq_true'] at k1; subst k1; simp at hr ⊢; exact hr
 ·simp only [Bool.not_eq_false'] at k1; subst k1; simp at hr ⊢; exact hr
theorem okRCAND (c : SCandidate) : SOk (s67 c) (fun b => (b = true ↔ CandOk c)) := by
 show Ok (g67 c) _
 unfold g67 CandOk
 refine Ok.cnd (R := fun b => (b = true ↔ ¬ ((1 ≤ c.fKind ∧ c.fKind ≤ 4) ∧ (1 ≤ c.fComponent ∧ c.fComponent ≤ 256) ∧ (1 ≤ c.fPriority ∧ c.fPriority ≤ 2147483647) ∧ (1 ≤ (c.fFoundation.size : Int) ∧ (c.fFoundation.size : Int) ≤ 80)))) ?_ fun b hb => ?_
 ·refine Ok.br (fun h1 => Ok.done ?_) (fun h1 => Ok.br (fun h2 => Ok.done ?_) (fun h2 => Ok.br (fun h3 => Ok.done ?_) (fun h3 => Ok.br (fun h4 => Ok.done ?_) (fun h4 => Ok.br (fun h5 => Ok.done ?_) (fun h5 => Ok.br (fun h6 => Ok.done ?_) (fun h6 => Ok.br (fun h7 => Ok.done ?_) (fun h7 => Ok.done ?_)))))))
  all_goals (simp at *; omega)
 ·refine Ok.br (fun h1 => Ok.done ?_) (fun h1 => ?_)
  ·have := hb.1 h1
   exact ⟨fun h => by simp at h, fun h => absurd ⟨h.1, h.2.1, h.2.2.1, h.2.2.2.1⟩ this⟩
  ·have hb' : (1 ≤ c.fKind ∧ c.fKind ≤ 4) ∧ (1 ≤ c.fComponent ∧ c.fComponent ≤ 256) ∧ (1 ≤ c.fPriority ∧ c.fPriority ≤ 2147483647) ∧ (1 ≤ (c.fFoundation.size : Int) ∧ (c.fFoundation.size : Int) ≤ 80) :=
    Classical.byContradiction fun hn => by rw [hb.2 hn] at h1; simp at h1
   refine Ok.bind2 (R := fun e => match e with | .inl _ => ¬ AllHex c.fFoundation | .inr _ => AllHex c.fFoundation) ?_ (fun e he => Ok.done ?_) (fun e he => ?_)
   ·refine Ok.scan c.fFoundation.size (by omega) (fun k y => y = (k : Int) ∧ ∀ i : Nat, i < k → HexD (bAt c.fFoundation i)) ⟨rfl, fun i h => by omega⟩ (fun k y hy hk => ?_) (fun y hy => ?_)
    ·obtain ⟨rfl, hd⟩ := hy
     refine Ok.br (fun hc => ?_) (fun hc => by simp at hc; omega)
     refine Ok.chk (by simp; omega) ?_
     generalize hx : bAt c.fFoundation (k : Int) = x
     refine Ok.cnd (R := fun b => (b = true ↔ ¬ HexD x)) ?_ fun b2 hb2 => ?_
     ·unfold HexD
      refine Ok.br (fun p1 => Ok.br (fun p2 => Ok.br (fun p3 => Ok.br (fun p4 => Ok.done ?_) (fun p4 => Ok.done ?_)) (fun p3 => Ok.done ?_)) (fun p2 => Ok.done ?_)) (fun p1 => Ok.br (fun p3 => Ok.br (fun p4 => Ok.done ?_) (fun p4 => Ok.done ?_)) (fun p3 => Ok.done ?_))
      all_goals (simp at *; omega)
     ·refine Ok.br (fun p1 => Ok.done ?_) (fun p1 => Ok.done ?_)
      ·show ¬ AllHex _
       intro h
       exact hb2.1 p1 (by rw [← hx]; exact h k hk)
      ·refine ⟨wi64_nat hk (by omega), fun i hi => ?_⟩
       by_cases h4 : i = k
       ·rw [h4, hx]; exact Classical.byContradiction fun hn => by rw [hb2.2 hn] at p1; simp at p1
       ·exact hd i (by omega)
    ·obtain ⟨rfl, hd⟩ := hy
     refine Ok.br (fun hc => by simp at hc) (fun hc => Ok.done ?_)
     exact fun i hi => hd i hi
   ·exact ⟨fun h => by simp at h, fun h => absurd h.2.2.2.2.1 he⟩
   ·have he : AllHex c.fFoundation := he
    refine Ok.cnd (R := fun b => (b = true ↔ ¬ (UsableA c.fAddr ∧ UsableA c.fBase ∧ (c.fAddr.fHost.size : Int) = (c.fBase.fHost.size : Int)))) ?_ fun b2 hb2 => ?_
    ·refine Ok.call (okRUSABLE _) fun r2 h2 => Ok.br (fun k2 => Ok.done ?_) (fun k2 => Ok.call (okRUSABLE _) fun r3 h3 => Ok.br (fun k3 => Ok.done ?_) (fun k3 => Ok.done ?_))
     ·simp only [Bool.not_eq_true'] at k2; subst k2
      exact ⟨fun _ h => by have := h2.2 h.1; simp at this, fun _ => rfl⟩
     ·simp only [Bool.not_eq_true'] at k3; subst k3
      exact ⟨fun _ h => by have := h3.2 h.2.1; simp at this, fun _ => rfl⟩
     ·simp only [Bool.not_eq_false'] at k2 k3
      have e2 := h2.1 k2; have e3 := h3.1 k3
      simp only [bne_iff_ne]
      exact ⟨fun h h' => h h'.2.2, fun h h' => h ⟨e2, e3, h'⟩⟩
    ·refine Ok.br (fun h2 => Ok.done ?_) (fun h2 => ?_)
     ·have := hb2.1 h2
      exact ⟨fun h => by simp at h, fun h => absurd ⟨h.2.2.2.2.2.1, h.2.2.2.2.2.2.1, h.2.2.2.2.2.2.2.1⟩ this⟩
     ·have hb3 : UsableA c.fAddr ∧ UsableA c.fBase ∧ (c.fAddr.fHost.size : Int) = (c.fBase.fHost.size : Int) :=
       Classical.byContradiction fun hn => by rw [hb2.2 hn] at h2; simp at h2
      refine Ok.cnd (R := fun b => (b = true ↔ (c.fAddr = c.fBase ∨ c.fKind = 2 ∨ c.fKind = 3))) ?_ fun b4 hb4 => Ok.done ?_
      ·have hk := hb'.1
       refine Ok.br (fun k1 => Ok.done ?_) (fun k1 => Ok.br (fun k2 => Ok.done ?_) (fun k2 => Ok.done ?_))
       ·exact ⟨fun _ => .inl (eA_iff.1 k1), fun _ => rfl⟩
       ·have hne : c.fAddr ≠ c.fBase := fun e => by rw [eA_iff.2 e] at k1; simp at k1
        simp only [bne_iff_ne] at k2 ⊢
        exact ⟨fun h => .inr (by omega), fun h => by rcases h with h | h; exact absurd h hne; omega⟩
       ·have hne : c.fAddr ≠ c.fBase := fun e => by rw [eA_iff.2 e] at k1; simp at k1
        simp only [bne_eq_false_iff_eq] at k2
        exact ⟨fun h => by simp at h, fun h => by rcases h with h | h; exact absurd h hne; omega⟩
      ·rw [hb4]
       exact ⟨fun h => ⟨hb'.1, hb'.2.1, hb'.2.2.1, hb'.2.2.2, he, hb3.1, hb3.2.1, hb3.2.2, h⟩, fun h => h.2.2.2.2.2.2.2.2⟩
def CandsOk (l : List SCandidate) : Prop := ∀ c, c ∈ l → CandOk c
theorem okCANDS (l : List SCandidate) (hl : l.length ≤ 1000000) : SOk (s30 l) (fun b => (b = true ↔ CandsOk l)) := by
 show Ok (g30 l) _
 unfold g30
 refine Ok.call (R := fun b => (b = true ↔ ¬ CandsOk l)) ?_ fun b hb => Ok.done ?_
 ·show Ok (g61 l) _
  unfold g61
  refine Ok.call (R := fun i => (0 ≤ i ↔ ¬ CandsOk l)) ?_ fun i hi => Ok.done (by simpa using hi)
  show Ok (g74 l) _
  unfold g74
  refine Ok.bind2 (R := fun e => match e with | .inl i => 0 ≤ i ∧ ¬ CandsOk l | .inr _ => CandsOk l) ?_ (fun e he => Ok.done ⟨fun _ => he.2, fun _ => he.1⟩) (fun e he => Ok.done ⟨fun h => by simp at h, fun h => absurd he h⟩)
  refine Ok.scan l.length hl (fun k y => y = (k : Int) ∧ ∀ j c, j < k → l[j]? = some c → CandOk c) ⟨rfl, fun j c h => by omega⟩ (fun k y hy hk => ?_) (fun y hy => ?_)
  ·obtain ⟨rfl, hd⟩ := hy
   rw [mlen_eq]
   refine Ok.br (fun hc => ?_) (fun hc => by simp at hc; omega)
   obtain ⟨x, hx1, hx2⟩ := get_lt hk
   refine Ok.row (by simp) hx1 ?_
   refine Ok.call (R := fun b => (b = true ↔ ¬ CandOk x)) ?_ fun b hb => ?_
   ·show Ok (g62 x) _
    unfold g62
    exact Ok.call (okCCHECK x) fun r hr => Ok.done (by rw [bne_iff_ne]; exact not_congr hr)
   ·refine Ok.br (fun p1 => Ok.done ?_) (fun p1 => Ok.done ?_)
    ·exact ⟨by omega, fun h => hb.1 p1 (h x (List.mem_of_getElem? hx2))⟩
    ·exact ⟨wi64_nat hk hl, upto2 (p := CandOk) hd hx2 (Classical.byContradiction fun hn => by rw [hb.2 hn] at p1; simp at p1)⟩
  ·obtain ⟨rfl, hd⟩ := hy
   rw [mlen_eq]
   refine Ok.br (fun hc => by simp at hc) (fun hc => Ok.done ?_)
   intro c hc
   obtain ⟨j, hj⟩ := List.mem_iff_getElem?.1 hc
   exact hd j c (List.getElem?_eq_some_iff.1 hj).1 hj
 ·cases b <;> simp at hb ⊢ <;> exact hb
theorem okALL (l : List SCandidate) (hl : l.length ≤ 1000000) : SOk (s39 l) (fun b => (b = true ↔ CandsOk l)) := by
 show Ok (g39 l) _
 unfold g39
 refine Ok.bind2 (R := fun e => match e with | .inl _ => ¬ CandsOk l | .inr _ => CandsOk l) ?_ (fun e he => Ok.done ⟨fun h => by simp at h, fun h => absurd h he⟩) (fun e he => Ok.done ⟨fun _ => he, fun _ => rfl⟩)
 refine Ok.scan l.length hl (fun k y => y = (k : Int) ∧ ∀ j c, j < k → l[j]? = some c → CandOk c) ⟨rfl, fun j c h => by omega⟩ (fun k y hy hk => ?_) (fun y hy => ?_)
 ·obtain ⟨rfl, hd⟩ := hy
  rw [mlen_eq]
  refine Ok.br (fun hc => ?_) (fun hc => by simp at hc; omega)
  obtain ⟨x, hx1, hx2⟩ := get_lt hk
  refine Ok.row (by simp) hx1 (Ok.call (okRCAND x) fun b hb => ?_)
  refine Ok.br (fun p1 => Ok.done ?_) (fun p1 => Ok.done ?_)
  ·simp only [Bool.not_eq_true'] at p1; subst p1
   exact fun h => by have := hb.2 (h x (List.mem_of_getElem? hx2)); simp at this
  ·simp only [Bool.not_eq_false'] at p1
   exact ⟨wi64_nat hk hl, upto2 (p := CandOk) hd hx2 (hb.1 p1)⟩
 ·obtain ⟨rfl, hd⟩ := hy
  rw [mlen_eq]
  refine Ok.br (fun hc => by simp at hc) (fun hc => Ok.done ?_)
  intro c hc
  obtain ⟨j, hj⟩ := List.mem_iff_getElem?.1 hc
  exact hd j c (List.getElem?_eq_some_iff.1 hj).1 hj
end Go.Proofs.YtioobnkmohikjaaGreatDoor
