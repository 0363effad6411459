/- symMerge, whole: by induction on how deep it goes.
   The stable sort: the list, sorted.
   The pairs that fit, in order of place: what the range over pairs gathers.
   Maps from keys to values, told by their entries: what is looked up, what a put changes.
   All that a map names is set, whatever the order.
   What Make makes: the fitting pairs sorted, alike ones but once, at most 36, the first of each two foundations waiting. Definitions and their plain laws.
   The reference's Make: it makes what Make makes.
   Make: what it makes.
   Guides and contracts, printed by a program.
   Guides and contracts, printed by a program.
   ChecklistMakes: what Make makes is what the reference makes, for all lists of candidates.
   The listed variables: laid in the witness; no function of the laws reads them. What a call may change: nothing of what was there.
   Arguments opened: what comes in reads as typed data. Conditions: none but that it reads at all.
   Readers of the laws' parameters, printed by a program.
   What is read of a bend. -/
import Derived.Test.YtioobnkmohikjaaGreatDoorM10
import Derived.Test.YtioobnkmohikjaaGreatDoorM9
import Derived.Test.YtioobnkmohikjaaGreatDoorM8
import Derived.Test.YtioobnkmohikjaaGreatDoorM6
import Derived.Test.YtioobnkmohikjaaGreatDoorM7
import Derived.Test.YtioobnkmohikjaaGreatDoorRows
import Derived.ChangeSame
import Derived.ChangeVars
import Derived.JoinedOf
import Derived.RowKit
import Derived.ProofKit
import Derived.LaidMore
import Derived.Lay
import Derived.OpenShut
import Derived.Carry
import Derived.Stop.Joined
import Derived.ChangeArms
import Derived.DataReads
import Derived.SevenTiedAt
import Derived.KernelRfl
namespace Go.Proofs.YtioobnkmohikjaaGreatDoor
open Go Go.EV
set_option maxRecDepth 100000
theorem okSYM (R : SymR) (N : Nat) (hR : SymP R N) (A X Y B : List SPair) (p : Nat) (hp : p = (A ++ X ++ Y ++ B).length) (hp2 : p ≤ 1000000) (hN : X.length + Y.length ≤ 2 * N) (hX0 : 0 < X.length) (hY0 : 0 < Y.length) (hX : X.Pairwise bef) (hY : Y.Pairwise bef) (hxy : ∀ x, x ∈ X → ∀ y, y ∈ Y → ix x y) :
  SOk (s77 R p (A.length : Int) ((A ++ X).length : Int) ((A ++ X ++ Y).length : Int) (A ++ X ++ Y ++ B)) (fun r => ∃ M, r = A ++ M ++ B ∧ Sorts bef (X ++ Y) M) := by
 by_cases h1 : X.length = 1
 ·obtain ⟨x, rfl⟩ := List.length_eq_one_iff.1 h1
  exact okSYM1 R A Y B x p hp hp2 hY (hxy x (by simp))
 ·by_cases h2 : Y.length = 1
  ·obtain ⟨y, rfl⟩ := List.length_eq_one_iff.1 h2
   exact okSYM2 R A X B y p hp hp2 hX h1 (fun x hx => hxy x hx y (by simp))
  ·exact okSYM3 R N hR A X Y B p hp hp2 hN hX hY (by omega) (by omega) hxy
noncomputable def symN (n : Nat) : SymR := symSh.fix (fun R a => (s77 R a.1 a.2.1 a.2.2.1 a.2.2.2.1 a.2.2.2.2)) (fun R a r h => (s77 R a.1 a.2.1 a.2.2.1 a.2.2.2.1 a.2.2.2.2).ok r h) n
theorem symP : ∀ n : Nat, SymP (symN n) (2 ^ n)
 | 0 => fun A X Y B p hp hp2 hN hX0 hY0 _ _ _ => by simp at hN; omega
 | n + 1 => fun A X Y B p hp hp2 hN hX0 hY0 hX hY hxy => okSYM (symN n) (2 ^ n) (symP n) A X Y B p hp hp2 (by rw [Nat.pow_succ] at hN; omega) hX0 hY0 hX hY hxy
theorem okSYMA (A X Y B : List SPair) (p : Nat) (hp : p = (A ++ X ++ Y ++ B).length) (hp2 : p ≤ 1000000) (hX0 : 0 < X.length) (hY0 : 0 < Y.length) (hX : X.Pairwise bef) (hY : Y.Pairwise bef) (hxy : ∀ x, x ∈ X → ∀ y, y ∈ Y → ix x y) :
  SOk (s77 symAll p (A.length : Int) ((A ++ X).length : Int) ((A ++ X ++ Y).length : Int) (A ++ X ++ Y ++ B)) (fun r => ∃ M, r = A ++ M ++ B ∧ Sorts bef (X ++ Y) M) := by
 refine okSYM symAll (2 ^ 60) (symP 60) A X Y B p hp hp2 ?_ hX0 hY0 hX hY hxy
 have h1 : X.length + Y.length ≤ p := by rw [hp]; simp; omega
 have h2 : (1000000 : Nat) ≤ 2 * 2 ^ 60 := by decide
 omega
end Go.Proofs.YtioobnkmohikjaaGreatDoor
namespace Go.Proofs.YtioobnkmohikjaaGreatDoor
open Go Go.EV
set_option maxRecDepth 100000
inductive BSorted (k : Nat) : List SPair → List SPair → Prop
 | last {S L : List SPair} : S.length ≤ k → Sorts bef S L → BSorted k S L
 | cons {S1 S2 L1 L2 : List SPair} : S1.length = k → Sorts bef S1 L1 → BSorted k S2 L2 → BSorted k (S1 ++ S2) (L1 ++ L2)
theorem BSorted.len {k : Nat} {S L : List SPair} (h : BSorted k S L) : L.length = S.length := by
 induction h with
 | last _ h => exact h.1.length_eq
 | cons _ h _ ih => simp [h.1.length_eq, ih]
theorem BSorted.first {k : Nat} {S L : List SPair} (h : BSorted k S L) (hk : k ≤ S.length) : ∃ S1 S2 L1 L2, S = S1 ++ S2 ∧ L = L1 ++ L2 ∧ S1.length = k ∧ Sorts bef S1 L1 ∧ BSorted k S2 L2 := by
 cases h with
 | last h1 h2 => exact ⟨S, [], L, [], by simp, by simp, by omega, h2, .last (Nat.zero_le _) ⟨.refl _, List.Pairwise.nil⟩⟩
 | cons h1 h2 h3 => exact ⟨_, _, _, _, rfl, rfl, h1, h2, h3⟩
theorem BSorted.whole {k : Nat} {S L : List SPair} (h : BSorted k S L) (hk : S.length ≤ k) : Sorts bef S L := by
 cases h with
 | last h1 h2 => exact h2
 | cons h1 h2 h3 =>
  rename_i S1 S2 L1 L2
  simp only [List.length_append] at hk
  have e : S2 = [] := List.length_eq_zero_iff.1 (by omega)
  subst e
  have e2 : L2 = [] := List.length_eq_zero_iff.1 (by rw [h3.len]; rfl)
  subst e2
  simpa using h2
def Done (k : Nat) (S P : List SPair) (a : Nat) : Prop := P.length = a ∧ a ≤ S.length ∧ ∀ S2 L2, BSorted k S2 L2 → BSorted k (S.take a ++ S2) (P ++ L2)
theorem Done.zero (k : Nat) (S : List SPair) : Done k S [] 0 := ⟨rfl, Nat.zero_le _, fun S2 L2 h => by simpa using h⟩
theorem Done.add {k : Nat} {S P S1 S2 M : List SPair} {a : Nat} (h : Done k S P a) (e : S.drop a = S1 ++ S2) (h1 : S1.length = k) (hs : Sorts bef S1 M) : Done k S (P ++ M) (a + k) ∧ S.drop (a + k) = S2 := by
 have hl : S1.length + S2.length = S.length - a := by rw [← List.length_append, ← e, List.length_drop]
 have ht : S.take (a + k) = S.take a ++ S1 := by rw [List.take_add, e, List.take_left' h1]
 refine ⟨⟨by rw [List.length_append, h.1, hs.1.length_eq, h1], by have := h.2.1; omega, fun S3 L3 h3 => ?_⟩, ?_⟩
 ·rw [ht, List.append_assoc, List.append_assoc]
  exact h.2.2 _ _ (.cons h1 hs h3)
 ·rw [← List.drop_drop, e, List.drop_left' h1]
theorem Done.last {k : Nat} {S P M : List SPair} {a : Nat} (h : Done k S P a) (h1 : (S.drop a).length ≤ k) (hs : Sorts bef (S.drop a) M) : BSorted k S (P ++ M) := by
 have := h.2.2 _ _ (.last h1 hs)
 rwa [List.take_append_drop] at this
theorem sorts_two {S1 S2 X Y M : List SPair} (h1 : Sorts bef S1 X) (h2 : Sorts bef S2 Y) (h : Sorts bef (X ++ Y) M) : Sorts bef (S1 ++ S2) M := ⟨h.1.trans (h1.1.append h2.1), h.2⟩
theorem ix_two {S S0 S1 S2 S3 X Y : List SPair} (hS : S.Pairwise ix) (e : S = S0 ++ (S1 ++ (S2 ++ S3))) (h1 : Sorts bef S1 X) (h2 : Sorts bef S2 Y) : ∀ x, x ∈ X → ∀ y, y ∈ Y → ix x y := fun x hx y hy => by
 subst e
 have a := (List.pairwise_append.1 (List.pairwise_append.1 hS).2.1).2.2
 exact a x (h1.1.mem_iff.1 hx) y (List.mem_append_left _ (h2.1.mem_iff.1 hy))
theorem okSTABLE (S : List SPair) (hS : S.Pairwise ix) (hp2 : S.length ≤ 100000) : SOk (s65 S.length (S.length : Int) S) (fun r => Sorts bef S r) := by
 show Ok (g65 S.length (S.length : Int) S) _
 unfold g65
 refine Ok.bind (R := fun e => ∃ (a : Nat) (P : List SPair), e = (P ++ S.drop a, (a : Int)) ∧ Done 20 S P a ∧ S.length < a + 20) ?_ fun e he => ?_
 ·refine Ok.lp (fun y => ∃ (a : Nat) (P : List SPair), y = (P ++ S.drop a, (a : Int), ((a + 20 : Nat) : Int)) ∧ Done 20 S P a) (fun y => S.length - y.2.1.toNat) ⟨0, [], by simp, Done.zero _ _⟩ (fuel (by dsimp only; omega)) (fun y hy => ?_)
  obtain ⟨a, P, rfl, hD⟩ := hy
  refine Ok.br (fun h => ?_) (fun h => Ok.done ⟨a, P, rfl, hD, by simp only [decide_eq_false_iff_not] at h; omega⟩)
  simp only [decide_eq_true_eq] at h
  have hl : (S.drop a).length = S.length - a := List.length_drop
  have e1 : S.drop a = (S.drop a).take 20 ++ (S.drop a).drop 20 := (List.take_append_drop _ _).symm
  have l1 : ((S.drop a).take 20).length = 20 := by rw [List.length_take]; omega
  have e2 : P ++ S.drop a = P ++ (S.drop a).take 20 ++ (S.drop a).drop 20 := by rw [List.append_assoc, ← e1]
  have key := okINS P ((S.drop a).take 20) ((S.drop a).drop 20) S.length (a : Int) ((a + 20 : Nat) : Int) (by rw [← e2, List.length_append, hD.1, hl]; have := hD.2.1; omega) (by omega) (by rw [hD.1]) (by rw [List.length_append, hD.1, l1]) ((hS.sublist (List.drop_sublist _ _)).sublist (List.take_sublist _ _))
  rw [← e2] at key
  refine Ok.call key fun r hr => Ok.done ?_
  obtain ⟨M, rfl, hM⟩ := hr
  obtain ⟨hD2, e3⟩ := hD.add e1 l1 hM
  refine ⟨⟨a + 20, P ++ M, ?_, hD2⟩, ?_⟩
  ·rw [e3]
   refine Prod.ext rfl (Prod.ext rfl ?_)
   show wi64 (((a + 20 : Nat) : Int) + 20) = _
   rw [wi64_id (by omega) (by omega)]; dsimp only; omega
  ·show S.length - (((a + 20 : Nat) : Int)).toNat < S.length - ((a : Int)).toNat
   omega
 ·obtain ⟨a, P, rfl, hD, hend⟩ := he
  have hl : (S.drop a).length = S.length - a := List.length_drop
  have hal := hD.2.1
  have key := okINS P (S.drop a) [] S.length (a : Int) (S.length : Int) (by rw [List.append_nil, List.length_append, hD.1, hl]; omega) (by omega) (by rw [hD.1]) (by rw [List.length_append, hD.1, hl]; omega) (hS.sublist (List.drop_sublist _ _))
  rw [List.append_nil] at key
  refine Ok.call key fun r hr => ?_
  obtain ⟨M, rfl, hM⟩ := hr
  rw [List.append_nil]
  have hB : BSorted 20 S (P ++ M) := hD.last (by omega) hM
  refine Ok.bind (R := fun r => Sorts bef S r) ?_ fun e he => Ok.done he
  refine Ok.lp (fun y => ∃ (k : Nat) (L : List SPair), y = (L, (k : Int)) ∧ BSorted k S L ∧ 1 ≤ k ∧ k ≤ 200000) (fun y => S.length - y.2.toNat) ⟨20, P ++ M, rfl, hB, by omega, by omega⟩ (fuel (by dsimp only; omega)) (fun y hy => ?_)
  obtain ⟨k, L, rfl, hk, hk1, hk2⟩ := hy
  refine Ok.br (fun h => ?_) (fun h => Ok.done (hk.whole (by simp only [decide_eq_false_iff_not] at h; omega)))
  simp only [decide_eq_true_eq] at h
  have i2 : wi64 ((2 : Int) * (k : Int)) = ((2 * k : Nat) : Int) := by rw [wi64_id (by omega) (by omega)]; omega
  have i3 : wi64 ((k : Int) * 2) = ((2 * k : Nat) : Int) := by rw [wi64_id (by omega) (by omega)]; omega
  simp only [i2, i3]
  have fin : ∀ L', BSorted (2 * k) S L' → Rnd (fun y => ∃ (k : Nat) (L : List SPair), y = (L, (k : Int)) ∧ BSorted k S L ∧ 1 ≤ k ∧ k ≤ 200000) (fun y => S.length - y.2.toNat) (S.length - ((L, (k : Int)) : List SPair × Int).2.toNat) (fun r => Sorts bef S r) (.inl (L', ((2 * k : Nat) : Int))) := fun L' h' => by
   refine ⟨⟨2 * k, L', rfl, h', by omega, by omega⟩, ?_⟩
   show S.length - (((2 * k : Nat) : Int)).toNat < S.length - ((k : Int)).toNat
   omega
  refine Ok.bind (R := fun e => ∃ (a : Nat) (P Q : List SPair), e = (P ++ Q, (a : Int)) ∧ Done (2 * k) S P a ∧ BSorted k (S.drop a) Q ∧ S.length < a + 2 * k) ?_ fun e he => ?_
  ·refine Ok.lp (fun y => ∃ (a : Nat) (P Q : List SPair), y = (P ++ Q, (a : Int), ((a + 2 * k : Nat) : Int)) ∧ Done (2 * k) S P a ∧ BSorted k (S.drop a) Q) (fun y => S.length - y.2.1.toNat) ⟨0, [], L, by simp, Done.zero _ _, hk⟩ (fuel (by dsimp only; omega)) (fun y hy => ?_)
   obtain ⟨a, P, Q, rfl, hD, hQ⟩ := hy
   refine Ok.br (fun h => ?_) (fun h => Ok.done ⟨a, P, Q, rfl, hD, hQ, by simp only [decide_eq_false_iff_not] at h; omega⟩)
   simp only [decide_eq_true_eq] at h
   have hl : (S.drop a).length = S.length - a := List.length_drop
   obtain ⟨S1, S2, X, Q2, e1, rfl, l1, hX, hQ2⟩ := hQ.first (by omega)
   have l2 : S1.length + S2.length = S.length - a := by rw [← List.length_append, ← e1, hl]
   obtain ⟨S3, S4, Y, Q3, rfl, rfl, l3, hY, hQ3⟩ := hQ2.first (by omega)
   simp only [List.length_append] at l2
   have lX := hX.1.length_eq
   have lY := hY.1.length_eq
   have lQ := hQ3.len
   have eS : S = S.take a ++ (S1 ++ (S3 ++ S4)) := by rw [← e1, List.take_append_drop]
   have hlt := hD.2.1
   have key := okSYMA P X Y Q3 S.length (by simp [hD.1]; omega) (by omega) (by omega) (by omega) hX.2 hY.2 (ix_two hS eS hX hY)
   rw [show (P ++ X).length = a + k by simp [hD.1]; omega, show (P ++ X ++ Y).length = a + 2 * k by simp [hD.1]; omega, hD.1, show P ++ X ++ Y ++ Q3 = P ++ (X ++ (Y ++ Q3)) by simp] at key
   have i4 : wi64 ((a : Int) + (k : Int)) = ((a + k : Nat) : Int) := by rw [wi64_id (by omega) (by omega)]; omega
   simp only [i4]
   refine Ok.call key fun r hr => Ok.done ?_
   obtain ⟨M, rfl, hM⟩ := hr
   obtain ⟨hD2, e3⟩ := hD.add (S1 := S1 ++ S3) (S2 := S4) (by rw [e1]; simp) (by simp; omega) (sorts_two hX hY hM)
   refine ⟨⟨a + 2 * k, P ++ M, Q3, ?_, hD2, by rw [e3]; exact hQ3⟩, ?_⟩
   ·refine Prod.ext rfl (Prod.ext rfl ?_)
    show wi64 (((a + 2 * k : Nat) : Int) + ((2 * k : Nat) : Int)) = _
    rw [wi64_id (by omega) (by omega)]; dsimp only; omega
   ·show S.length - (((a + 2 * k : Nat) : Int)).toNat < S.length - ((a : Int)).toNat
    omega
  ·obtain ⟨a, P, Q, rfl, hD, hQ, hend⟩ := he
   have hl : (S.drop a).length = S.length - a := List.length_drop
   have hal := hD.2.1
   have i4 : wi64 ((a : Int) + (k : Int)) = ((a + k : Nat) : Int) := by rw [wi64_id (by omega) (by omega)]; omega
   simp only [i4]
   refine Ok.br (fun h => ?_) (fun h => Ok.done (fin _ (hD.last (by omega) (hQ.whole (by simp only [decide_eq_false_iff_not] at h; omega)))))
   simp only [decide_eq_true_eq] at h
   obtain ⟨S1, S2, X, Y, e1, rfl, l1, hX, hQ2⟩ := hQ.first (by omega)
   have l2 : S1.length + S2.length = S.length - a := by rw [← List.length_append, ← e1, hl]
   have hY := hQ2.whole (by omega)
   have lX := hX.1.length_eq
   have lY := hY.1.length_eq
   have eS : S = S.take a ++ (S1 ++ (S2 ++ [])) := by rw [List.append_nil, ← e1, List.take_append_drop]
   have key := okSYMA P X Y [] S.length (by simp [hD.1]; omega) (by omega) (by omega) (by omega) hX.2 hY.2 (ix_two hS eS hX hY)
   rw [show (P ++ X).length = a + k by simp [hD.1]; omega, show (P ++ X ++ Y).length = S.length by simp [hD.1]; omega, hD.1, show P ++ X ++ Y ++ [] = P ++ (X ++ Y) by simp] at key
   refine Ok.call key fun r hr => Ok.done ?_
   obtain ⟨M, rfl, hM⟩ := hr
   rw [List.append_nil]
   exact fin _ (hD.last (by omega) (by rw [e1]; exact sorts_two hX hY hM))
theorem okSORTF (S : List SPair) (hS : S.Pairwise ix) (hp2 : S.length ≤ 100000) : SOk (s33 S.length S) (fun r => Sorts bef S r) := by
 show Ok (g33 S.length S) _
 unfold g33
 exact Ok.call (okSTABLE S hS hp2) fun r hr => Ok.done hr
end Go.Proofs.YtioobnkmohikjaaGreatDoor
namespace Go.Proofs.YtioobnkmohikjaaGreatDoor
open Go Go.EV
set_option maxRecDepth 100000
open Classical
theorem iter_scan {σ ε : Type} {f : σ → Option (σ ⊕ ε)} (n : Nat) (hn : n ≤ 1000000) (g : Nat → σ) (r : ε) (h : ∀ k, k < n → f (g k) = some (.inl (g (k + 1)))) (hl : f (g n) = some (.inr r)) : iter f FUEL (g 0) = some r := by
 have key : ∀ m k, k ≤ n → n - k < m → iter f m (g k) = some r := by
  intro m
  induction m with
  | zero => intro k _ h; omega
  | succ m ih =>
   intro k hk hm
   have e1 : iter f (m + 1) (g k) = (match f (g k) with | none => none | some (.inl y) => iter f m y | some (.inr e) => some e) := rfl
   rw [e1]
   rcases Nat.lt_or_ge k n with h1 | h1
   ·rw [h k h1]; exact ih (k + 1) (by omega) (by omega)
   ·have : k = n := by omega
    subst this
    rw [hl]
 exact key FUEL 0 (Nat.zero_le _) (fuel (by omega))
theorem okPRIO1 (c : Bool) (ls rs : List SCandidate) (x : SPair) (h : InB ⟨c, ls, rs, []⟩ x) (hl : CandsOk ls) (hr : CandsOk rs) : SOk (s56_1 c ls rs x) (fun r => r = prio ⟨c, ls, rs, []⟩ x) := by
 show Ok (g56_1 c ls rs x) _
 unfold g56_1 prio
 have h1 := (h.locOk hl).2.2.1
 have h2 := (h.remOk hr).2.2.1
 refine Ok.row h.lc h.loc (Ok.row h.rc h.rem ?_)
 cases c with
 | true => exact Ok.bind (R := fun e => e = ((locC ⟨true, ls, rs, []⟩ x).fPriority, (remC ⟨true, ls, rs, []⟩ x).fPriority)) (Ok.brF rfl (Ok.done rfl)) fun e he => by subst he; exact Ok.call (okPP _ _ h1 h2) fun r hr => Ok.done (by rw [hr]; rfl)
 | false => exact Ok.bind (R := fun e => e = ((remC ⟨false, ls, rs, []⟩ x).fPriority, (locC ⟨false, ls, rs, []⟩ x).fPriority)) (Ok.brT rfl (Ok.done rfl)) fun e he => by subst he; exact Ok.call (okPP _ _ h2 h1) fun r hr => Ok.done (by rw [hr]; rfl)
def mkP (Z : SList) (i j : Nat) : SPair := ⟨(i : Int), (j : Int), prio Z ⟨(i : Int), (j : Int), 0, 0⟩, 0⟩
def FitAt (Z : SList) (i j : Nat) : Prop := ∃ x w, Z.fLocals[i]? = some x ∧ Z.fRemotes[j]? = some w ∧ FitP x w
noncomputable def rowL (Z : SList) (i : Nat) : Nat → List SPair
 | 0 => []
 | j + 1 => rowL Z i j ++ (if FitAt Z i j then [mkP Z i j] else [])
noncomputable def fitsL (Z : SList) : Nat → List SPair
 | 0 => []
 | i + 1 => fitsL Z i ++ rowL Z i Z.fRemotes.length
theorem rowL_mem {Z : SList} {i : Nat} : ∀ {n : Nat} {x : SPair}, x ∈ rowL Z i n ↔ ∃ j, j < n ∧ FitAt Z i j ∧ x = mkP Z i j
 | 0, x => by simp [rowL]
 | n + 1, x => by
  simp only [rowL, List.mem_append, rowL_mem (n := n)]
  constructor
  ·rintro (⟨j, h1, h2, h3⟩ | h)
   ·exact ⟨j, by omega, h2, h3⟩
   ·split at h
    ·exact ⟨n, by omega, by assumption, by simpa using h⟩
    ·simp at h
  ·rintro ⟨j, h1, h2, h3⟩
   by_cases e : j < n
   ·exact .inl ⟨j, e, h2, h3⟩
   ·have : j = n := by omega
    subst this
    exact .inr (by rw [if_pos h2]; simp [h3])
theorem fitsL_mem {Z : SList} : ∀ {n : Nat} {x : SPair}, x ∈ fitsL Z n ↔ ∃ i j, i < n ∧ j < Z.fRemotes.length ∧ FitAt Z i j ∧ x = mkP Z i j
 | 0, x => by simp [fitsL]
 | n + 1, x => by
  simp only [fitsL, List.mem_append, fitsL_mem (n := n), rowL_mem]
  constructor
  ·rintro (⟨i, j, h1, h2⟩ | ⟨j, h1, h2⟩)
   ·exact ⟨i, j, by omega, h2⟩
   ·exact ⟨n, j, by omega, h1, h2⟩
  ·rintro ⟨i, j, h1, h2⟩
   by_cases e : i < n
   ·exact .inl ⟨i, j, e, h2⟩
   ·have : i = n := by omega
    subst this
    exact .inr ⟨j, h2⟩
theorem rowL_ix {Z : SList} {i : Nat} : ∀ n, (rowL Z i n).Pairwise ix
 | 0 => List.Pairwise.nil
 | n + 1 => by
  simp only [rowL]
  refine List.pairwise_append.2 ⟨rowL_ix n, by split; exact List.pairwise_singleton _ _; exact List.Pairwise.nil, fun a ha b hb => ?_⟩
  obtain ⟨j, h1, _, rfl⟩ := rowL_mem.1 ha
  split at hb
  ·simp only [List.mem_singleton] at hb; subst hb
   exact .inr ⟨rfl, by show (j : Int) < (n : Int); omega⟩
  ·simp at hb
theorem fitsL_ix {Z : SList} : ∀ n, (fitsL Z n).Pairwise ix
 | 0 => List.Pairwise.nil
 | n + 1 => by
  simp only [fitsL]
  refine List.pairwise_append.2 ⟨fitsL_ix n, rowL_ix _, fun a ha b hb => ?_⟩
  obtain ⟨i, j, h1, _, _, rfl⟩ := fitsL_mem.1 ha
  obtain ⟨k, _, _, rfl⟩ := rowL_mem.1 hb
  exact .inl (by show (i : Int) < (n : Int); omega)
theorem rowL_len {Z : SList} {i : Nat} : ∀ n, (rowL Z i n).length ≤ n
 | 0 => Nat.le_refl _
 | n + 1 => by
  have := rowL_len (Z := Z) (i := i) n
  simp only [rowL, List.length_append]
  split <;> simp <;> omega
theorem fitsL_len {Z : SList} : ∀ n, (fitsL Z n).length ≤ n * Z.fRemotes.length
 | 0 => Nat.zero_le _
 | n + 1 => by
  have := fitsL_len (Z := Z) n
  have := rowL_len (Z := Z) (i := n) Z.fRemotes.length
  simp only [fitsL, List.length_append, Nat.succ_mul]
  omega
theorem inStep_eq (c : Bool) (ls rs : List SCandidate) (hl : CandsOk ls) (hr : CandsOk rs) (h1 : rs.length ≤ 1000) (i k : Nat) (hi : i < ls.length) (hk : k < rs.length) (a : SCandidate) (ha : ls[i]? = some a) (out : List SPair) (ho : out.length ≤ 1000000) :
  inStep c ls rs (i : Int) a ((k : Int), out) = some (.inl (((k + 1 : Nat) : Int), out ++ (if FitAt ⟨c, ls, rs, []⟩ i k then [mkP ⟨c, ls, rs, []⟩ i k] else []))) := by
 obtain ⟨b, hb1, hb2⟩ := get_lt hk
 have hI : InB ⟨c, ls, rs, []⟩ (SPair.mk (i : Int) (k : Int) 0 0) := ⟨⟨by simp, by simp; omega⟩, ⟨by simp, by simp; omega⟩⟩
 have e5 : Ok (gR5 rs (k : Int)) (fun r => r = b) := by
  unfold gR5
  exact Ok.chk (inP hk) (Ok.row rfl (by rw [Nat.zero_add]; exact hb1) (Ok.done rfl))
 have e7 : Ok (gR7 c ls rs (i : Int) (k : Int)) (fun r => r = prio ⟨c, ls, rs, []⟩ (SPair.mk (i : Int) (k : Int) 0 0)) := by
  unfold gR7
  exact Ok.view (okPRIO1 c ls rs _ hI hl hr) fun r hr => Ok.done hr
 have e8 : Ok (gR8 a b) (fun f => (f = true ↔ FitP a b)) := by
  unfold gR8
  exact Ok.call (okFIT a b) fun r hr => Ok.br (fun h => Ok.done ⟨fun _ => hr.1 h, fun _ => rfl⟩) (fun h => Ok.done ⟨fun h2 => by simp at h2, fun h2 => by rw [hr.2 h2] at h; simp at h⟩)
 have e9 : ∀ x, Ok (gRd out x) (fun _ => True) := fun x => by
  unfold gRd
  exact Ok.app (by simp; omega) (Ok.done trivial)
 obtain ⟨b', r5, rfl⟩ := e5
 obtain ⟨p', r7, rfl⟩ := e7
 obtain ⟨f, r8, hf⟩ := e8
 have hfit : FitAt ⟨c, ls, rs, []⟩ i k ↔ FitP a b' := by
  constructor
  ·rintro ⟨x, w, h1, h2, h3⟩
   have h1' : ls[i]? = some x := h1
   have h2' : rs[k]? = some w := h2
   rw [ha] at h1'; rw [hb2] at h2'
   obtain rfl := Option.some.inj h1'
   obtain rfl := Option.some.inj h2'
   exact h3
  ·exact fun h => ⟨a, b', ha, hb2, h⟩
 obtain ⟨_, r9, _⟩ := e9 (SPair.mk (i : Int) (k : Int) (prio ⟨c, ls, rs, []⟩ (SPair.mk (i : Int) (k : Int) 0 0)) 0)
 have e1 : wi64 ((k : Int) + 1) = ((k + 1 : Nat) : Int) := wi64_nat hk (by omega)
 unfold inStep
 simp only [r5, r7, r8, e1]
 rw [show decide ((k : Int) < (rs.length : Int)) = true from by simp; omega, cond_true]
 cases f with
 | true =>
  rw [if_pos (hfit.2 (hf.1 rfl))]
  simp only [cond_true, r9]
  rfl
 | false =>
  rw [if_neg (fun h => by have := hf.2 (hfit.1 h); simp at this)]
  simp
theorem inM_eq (c : Bool) (ls rs : List SCandidate) (hl : CandsOk ls) (hr : CandsOk rs) (h1 : rs.length ≤ 1000) (i : Nat) (hi : i < ls.length) (a : SCandidate) (ha : ls[i]? = some a) (out : List SPair) (ho : out.length ≤ 900000) :
  inM c ls rs (i : Int) a out = some (out ++ rowL ⟨c, ls, rs, []⟩ i rs.length) := by
 unfold inM
 have := iter_scan (f := inStep c ls rs (i : Int) a) rs.length (by omega) (fun k => ((k : Int), out ++ rowL ⟨c, ls, rs, []⟩ i k)) (out ++ rowL ⟨c, ls, rs, []⟩ i rs.length) (fun k hk => ?_) ?_
 ·simpa [rowL] using this
 ·have := rowL_len (Z := ⟨c, ls, rs, []⟩) (i := i) k
  rw [inStep_eq c ls rs hl hr h1 i k hi hk a ha _ (by simp; omega)]
  simp [rowL]
 ·unfold inStep
  simp
theorem pairsM_eq (c : Bool) (ls rs : List SCandidate) (hl : CandsOk ls) (hr : CandsOk rs) (h0 : ls.length ≤ 100) (h1 : rs.length ≤ 100) : pairsM c ls rs = some (fitsL ⟨c, ls, rs, []⟩ ls.length) := by
 unfold pairsM
 refine iter_scan (f := outStep c ls rs) ls.length (by omega) (fun k => ((k : Int), fitsL ⟨c, ls, rs, []⟩ k)) _ (fun k hk => ?_) ?_
 ·obtain ⟨a, ha1, ha2⟩ := get_lt hk
  have e2 : Ok (gR2 ls (k : Int)) (fun r => r = a) := by
   unfold gR2
   exact Ok.chk (inP hk) (Ok.row rfl (by rw [Nat.zero_add]; exact ha1) (Ok.done rfl))
  obtain ⟨a', r2, rfl⟩ := e2
  have hlen := fitsL_len (Z := ⟨c, ls, rs, []⟩) k
  have hle : k * rs.length ≤ 100 * 100 := Nat.mul_le_mul (by omega) h1
  have hlen2 : (fitsL ⟨c, ls, rs, []⟩ k).length ≤ k * rs.length := hlen
  have r3 := inM_eq c ls rs hl hr (by omega) k hk a' ha2 (fitsL ⟨c, ls, rs, []⟩ k) (by omega)
  unfold outStep
  simp only [r2, r3, wi64_nat hk (by omega : ls.length ≤ 1000000)]
  rw [show decide ((k : Int) < (ls.length : Int)) = true from by simp; omega, cond_true]
  rfl
 ·unfold outStep
  simp
end Go.Proofs.YtioobnkmohikjaaGreatDoor
namespace Go.Proofs.YtioobnkmohikjaaGreatDoor
open Go Go.EV
set_option maxRecDepth 100000
structure MapOf {α κ υ : Type} (fk : α → κ) (fv : α → υ) (l : List α) (V : κ → υ → Prop) : Prop where
 nodup : (l.map fk).Nodup
 val : ∀ z v, V z v ↔ ∃ e, e ∈ l ∧ fk e = z ∧ fv e = v
theorem MapOf.nil {α κ υ : Type} (fk : α → κ) (fv : α → υ) : MapOf fk fv [] (fun _ _ => False) := ⟨List.nodup_nil, fun z v => by simp⟩
theorem MapOf.find {α κ υ : Type} {fk : α → κ} {fv : α → υ} {l : List α} {V : κ → υ → Prop} (h : MapOf fk fv l V) {p : α → Bool} {x : κ} (hp : ∀ e, p e = true ↔ x = fk e) (d : υ) :
  ((l.findIdx? p).isSome = true ↔ ∃ v, V x v) ∧ (∀ v, V x v → mlook l p fv d = v) := by
 cases hf : l.findIdx? p with
 | none =>
  rw [List.findIdx?_eq_none_iff] at hf
  have no : ∀ v, ¬ V x v := fun v hv => by
   obtain ⟨e, h1, h2, _⟩ := (h.val x v).1 hv
   have := hf e h1
   rw [(hp e).2 h2.symm] at this
   simp at this
  exact ⟨⟨fun h => by simp at h, fun ⟨v, hv⟩ => absurd hv (no v)⟩, fun v hv => absurd hv (no v)⟩
 | some j =>
  obtain ⟨h1, h2, h3⟩ := List.findIdx?_eq_some_iff_getElem.1 hf
  have hk := (hp _).1 h2
  refine ⟨⟨fun _ => ⟨fv l[j], (h.val x _).2 ⟨l[j], List.getElem_mem h1, hk.symm, rfl⟩⟩, fun _ => rfl⟩, fun v hv => ?_⟩
  obtain ⟨e, e1, e2, e3⟩ := (h.val x v).1 hv
  obtain ⟨i, hi⟩ := List.mem_iff_getElem?.1 e1
  have hil := (List.getElem?_eq_some_iff.1 hi).1
  have hie := (List.getElem?_eq_some_iff.1 hi).2
  have hij : i = j := by
   have hn := h.nodup
   have a1 : (l.map fk)[i]'(by simpa using hil) = x := by rw [List.getElem_map, hie]; exact e2
   have a2 : (l.map fk)[j]'(by simpa using h1) = x := by rw [List.getElem_map]; exact hk.symm
   exact (List.getElem_inj hn).1 (a1.trans a2.symm)
  subst hij
  unfold mlook
  rw [hf]
  simp only [List.getElem?_eq_getElem h1]
  rw [hie]; exact e3
theorem MapOf.put {α κ υ : Type} {fk : α → κ} {fv : α → υ} {l : List α} {V : κ → υ → Prop} (h : MapOf fk fv l V) {p : α → Bool} {x : κ} (hp : ∀ e, p e = true ↔ x = fk e) {y : α} (hy : fk y = x) :
  MapOf fk fv (mput l p y) (fun z v => (z = x ∧ v = fv y) ∨ (z ≠ x ∧ V z v)) := by
 unfold mput
 cases hf : l.findIdx? p with
 | none =>
  rw [List.findIdx?_eq_none_iff] at hf
  have no : ∀ e, e ∈ l → fk e ≠ x := fun e he hx => by
   have := hf e he
   rw [(hp e).2 hx.symm] at this
   simp at this
  refine ⟨?_, fun z v => ?_⟩
  ·show ((l ++ [y]).map fk).Nodup
   rw [List.map_append]
   refine nodup_app.2 ⟨h.nodup, fun hm => ?_⟩
   obtain ⟨e, e1, e2⟩ := List.mem_map.1 hm
   exact no e e1 (by rw [e2, hy])
  ·show _ ↔ ∃ e, e ∈ l ++ [y] ∧ fk e = z ∧ fv e = v
   constructor
   ·rintro (⟨rfl, rfl⟩ | ⟨h1, h2⟩)
    ·exact ⟨y, by simp, hy, rfl⟩
    ·obtain ⟨e, e1, e2⟩ := (h.val z v).1 h2
     exact ⟨e, by simp [e1], e2⟩
   ·rintro ⟨e, e1, e2, e3⟩
    rcases List.mem_append.1 e1 with e1 | e1
    ·exact .inr ⟨fun hz => no e e1 (by rw [e2, hz]), (h.val z v).2 ⟨e, e1, e2, e3⟩⟩
    ·simp only [List.mem_singleton] at e1; subst e1
     exact .inl ⟨by rw [← e2, hy], e3.symm⟩
 | some j =>
  obtain ⟨h1, h2, _⟩ := List.findIdx?_eq_some_iff_getElem.1 hf
  have hk := (hp _).1 h2
  have hmap : (l.set j y).map fk = l.map fk := by
   refine List.ext_getElem? fun i => ?_
   rw [List.getElem?_map, List.getElem?_map]
   by_cases e : j = i
   ·subst e
    rw [List.getElem?_set_self h1, List.getElem?_eq_getElem h1, Option.map_some, Option.map_some, hy, hk]
   ·rw [List.getElem?_set_ne e]
  refine ⟨by show ((l.set j y).map fk).Nodup; rw [hmap]; exact h.nodup, fun z v => ?_⟩
  show _ ↔ ∃ e, e ∈ l.set j y ∧ fk e = z ∧ fv e = v
  constructor
  ·rintro (⟨rfl, rfl⟩ | ⟨q1, q2⟩)
   ·exact ⟨y, List.mem_iff_getElem?.2 ⟨j, List.getElem?_set_self h1⟩, hy, rfl⟩
   ·obtain ⟨e, e1, e2, e3⟩ := (h.val z v).1 q2
    obtain ⟨i, hi⟩ := List.mem_iff_getElem?.1 e1
    refine ⟨e, List.mem_iff_getElem?.2 ⟨i, ?_⟩, e2, e3⟩
    have : j ≠ i := fun hji => by
     subst hji
     rw [List.getElem?_eq_getElem h1] at hi
     obtain rfl := Option.some.inj hi
     exact q1 (e2.symm.trans hk.symm)
    rw [List.getElem?_set_ne this]; exact hi
  ·rintro ⟨e, e1, e2, e3⟩
   obtain ⟨i, hi⟩ := List.mem_iff_getElem?.1 e1
   by_cases hji : j = i
   ·subst hji
    rw [List.getElem?_set_self h1] at hi
    obtain rfl := Option.some.inj hi
    exact .inl ⟨e2.symm.trans hy, e3.symm⟩
   ·rw [List.getElem?_set_ne hji] at hi
    refine .inr ⟨fun hz => hji ?_, (h.val z v).2 ⟨e, List.mem_of_getElem? hi, e2, e3⟩⟩
    have hil := (List.getElem?_eq_some_iff.1 hi).1
    have hie := (List.getElem?_eq_some_iff.1 hi).2
    have a1 : (l.map fk)[i]'(by simpa using hil) = x := by rw [List.getElem_map, hie, e2, hz]
    have a2 : (l.map fk)[j]'(by simpa using h1) = x := by rw [List.getElem_map]; exact hk.symm
    exact ((List.getElem_inj h.nodup).1 (a1.trans a2.symm)).symm
end Go.Proofs.YtioobnkmohikjaaGreatDoor
namespace Go.Proofs.YtioobnkmohikjaaGreatDoor
open Go Go.EV
set_option maxRecDepth 100000
open Classical
theorem wSet_eq {m : Nat} {i : Nat} {s : List SPair} (hs : s.length = m) (hi : i < m) : ∃ x, s[i]? = some x ∧ wSet m (i : Int) s = some (s.set i ⟨x.fLocal, x.fRemote, x.fPriority, 1⟩) := by
 refine ⟨s[i]'(by omega), List.getElem?_eq_getElem (by omega), ?_⟩
 unfold wSet
 rw [show (decide (0 ≤ (i : Int)) && decide ((i : Int) < (m : Int))) = true from by simp; omega, cond_true, Int.toNat_natCast, List.getElem?_eq_getElem (by omega)]
theorem wAll_eq {m : Nat} : ∀ (l : List SEnt90) (s : List SPair), s.length = m → (∀ e, e ∈ l → ∃ i : Nat, e.fv = (i : Int) ∧ i < m) →
  ∃ r, wAll m l s = some r ∧ r.length = m ∧ ∀ (i : Nat) (x : SPair), s[i]? = some x → r[i]? = some (if ∃ e, e ∈ l ∧ e.fv = (i : Int) then ⟨x.fLocal, x.fRemote, x.fPriority, 1⟩ else x)
 | [], s, hs, _ => ⟨s, rfl, hs, fun i x h => by simpa using h⟩
 | e :: l, s, hs, h => by
  obtain ⟨k, e1, e2⟩ := h e (by simp)
  obtain ⟨y, y1, y2⟩ := wSet_eq hs e2
  obtain ⟨r, r1, r2, r3⟩ := wAll_eq l (s.set k ⟨y.fLocal, y.fRemote, y.fPriority, 1⟩) (by rw [List.length_set]; exact hs) (fun e' he => h e' (by simp [he]))
  refine ⟨r, ?_, r2, fun i x hx => ?_⟩
  ·show foldB (fun x s => wSet m x.fv s) (e :: l) s = some r
   unfold foldB
   rw [e1, y2]
   exact r1
  ·by_cases hik : k = i
   ·subst hik
    rw [y1] at hx
    obtain rfl := Option.some.inj hx
    have := r3 k ⟨y.fLocal, y.fRemote, y.fPriority, 1⟩ (List.getElem?_set_self (by omega))
    rw [this, if_pos (⟨e, by simp, e1⟩ : ∃ e', e' ∈ e :: l ∧ e'.fv = (k : Int))]
    split <;> rfl
   ·have := r3 i x (by rw [List.getElem?_set_ne hik]; exact hx)
    rw [this]
    congr 1
    have : (∃ e', e' ∈ l ∧ e'.fv = (i : Int)) ↔ (∃ e', e' ∈ e :: l ∧ e'.fv = (i : Int)) := by
     constructor
     ·rintro ⟨e', q1, q2⟩; exact ⟨e', by simp [q1], q2⟩
     ·rintro ⟨e', q1, q2⟩
      rcases List.mem_cons.1 q1 with rfl | q1
      ·rw [e1] at q2; omega
      ·exact ⟨e', q1, q2⟩
    simp only [this]
end Go.Proofs.YtioobnkmohikjaaGreatDoor
namespace Go.Proofs.YtioobnkmohikjaaGreatDoor
open Go Go.EV
set_option maxRecDepth 100000
open Classical
theorem Ok.sub {P : Program} {G : Nat → Option (List V)} {ρ : Type} {Q : ρ → Prop} {ε : Type} {S : Sub P G ε} {k : ε → T P G ρ} {r : ε} (hr : S.o = some r) (h : Ok (k r) Q) : Ok (.sub S k) Q := by
 obtain ⟨x, e, hq⟩ := h
 exact ⟨x, by simp only [T.run, hr]; exact e, hq⟩
def LikeBefore (Z : SList) (L : List SPair) (k : Nat) (x : SPair) : Prop := ∃ j w, j < k ∧ L[j]? = some w ∧ likeK Z w = likeK Z x
noncomputable def pruneL (Z : SList) (L : List SPair) : Nat → List SPair
 | 0 => []
 | k + 1 => match L[k]? with
  | some x => if LikeBefore Z L k x ∨ 36 ≤ (pruneL Z L k).length then pruneL Z L k else pruneL Z L k ++ [x]
  | none => pruneL Z L k
def compK (Z : SList) (x : SPair) : Int := (locC Z x).fComponent
def FirstW (Z : SList) (M : List SPair) (i : Nat) (x : SPair) : Prop := ∀ j y, M[j]? = some y → foundK Z y = foundK Z x → ¬ (compK Z y < compK Z x ∨ (compK Z y = compK Z x ∧ j < i))
def WokeL (Z : SList) (M ps : List SPair) : Prop := ps.length = M.length ∧ ∀ i x, M[i]? = some x → ps[i]? = some (if FirstW Z M i x then ⟨x.fLocal, x.fRemote, x.fPriority, 1⟩ else x)
def MadeP (Z : SList) (ps : List SPair) : Prop := ∃ S, Sorts bef (fitsL Z Z.fLocals.length) S ∧ WokeL Z (pruneL Z S S.length) ps
def MakeR (l r : List SCandidate) (c : Bool) (e : SList × Int) : Prop :=
 if 12 < l.length ∨ 12 < r.length then e = (⟨false, [], [], []⟩, 3) else if ¬ (CandsOk l ∧ CandsOk r) then e = (⟨false, [], [], []⟩, 90) else ∃ ps, e = (⟨c, l, r, ps⟩, 0) ∧ MadeP ⟨c, l, r, []⟩ ps
theorem WokeL.one {Z : SList} {M p q : List SPair} (h : WokeL Z M p) (k : WokeL Z M q) : p = q := by
 refine List.ext_getElem? fun i => ?_
 cases hi : M[i]? with
 | none =>
  rw [List.getElem?_eq_none_iff] at hi
  rw [List.getElem?_eq_none (by rw [h.1]; exact hi), List.getElem?_eq_none (by rw [k.1]; exact hi)]
 | some x => rw [h.2 i x hi, k.2 i x hi]
theorem MadeP.one {Z : SList} {p q : List SPair} (h : MadeP Z p) (k : MadeP Z q) : p = q := by
 obtain ⟨S, s1, s2⟩ := h
 obtain ⟨S', t1, t2⟩ := k
 have : S = S' := Sorts.one bef_irr bef_trans (s1.1.trans t1.1.symm) s1.2 t1.2
 subst this
 exact s2.one t2
theorem MakeR.one {l r : List SCandidate} {c : Bool} {e f : SList × Int} (h : MakeR l r c e) (k : MakeR l r c f) : e = f := by
 unfold MakeR at h k
 split at h
 ·rename_i h1; rw [if_pos h1] at k; rw [h, k]
 ·rename_i h1; rw [if_neg h1] at k
  split at h
  ·rename_i h2; rw [if_pos h2] at k; rw [h, k]
  ·rename_i h2; rw [if_neg h2] at k
   obtain ⟨p, rfl, hp⟩ := h
   obtain ⟨q, rfl, hq⟩ := k
   rw [hp.one hq]
theorem pruneL_le (Z : SList) (L : List SPair) : ∀ k, (pruneL Z L k).length ≤ 36
 | 0 => Nat.zero_le _
 | k + 1 => by
  have ih := pruneL_le Z L k
  unfold pruneL
  split
  ·split
   ·exact ih
   ·rename_i h; rw [List.length_append]; simp only [List.length_cons, List.length_nil]
    have : ¬ 36 ≤ (pruneL Z L k).length := fun h2 => h (.inr h2)
    omega
  ·exact ih
theorem pruneL_stay {Z : SList} {L : List SPair} {k : Nat} (h : (pruneL Z L k).length = 36) : ∀ n, k ≤ n → pruneL Z L n = pruneL Z L k := by
  intro n hn
  induction n with
  | zero => have : k = 0 := by omega
            rw [this]
  | succ n ih =>
    rcases Nat.lt_or_ge k (n + 1) with h1 | h1
    · have ih' := ih (by omega)
      rw [show pruneL Z L (n + 1) = (match L[n]? with
        | some x => if LikeBefore Z L n x ∨ 36 ≤ (pruneL Z L n).length then pruneL Z L n else pruneL Z L n ++ [x]
        | none => pruneL Z L n) from rfl, ih']
      split
      · rw [if_pos (.inr (by omega))]
      · rfl
    · have : k = n + 1 := by omega
      rw [this]
theorem pruneL_mem {Z : SList} {L : List SPair} : ∀ {k : Nat} {x : SPair}, x ∈ pruneL Z L k → x ∈ L
 | 0, x, h => by simp [pruneL] at h
 | k + 1, x, h => by
  unfold pruneL at h
  split at h
  ·rename_i y hy
   split at h
   ·exact pruneL_mem h
   ·rcases List.mem_append.1 h with h | h
    ·exact pruneL_mem h
    ·simp only [List.mem_singleton] at h; subst h; exact List.mem_of_getElem? hy
  ·exact pruneL_mem h
end Go.Proofs.YtioobnkmohikjaaGreatDoor
namespace Go.Proofs.YtioobnkmohikjaaGreatDoor
open Go Go.EV
set_option maxRecDepth 100000
open Classical
theorem okBEFORE2 (x y : SPair) : SOk (s42 x y) (fun b => (b = true ↔ bef x y)) := by
 show Ok (g42 x y) _
 unfold g42 bef ix
 refine Ok.br (fun h => Ok.done ?_) (fun h => Ok.br (fun h2 => Ok.done ?_) (fun h2 => Ok.done ?_))
 all_goals (simp only [bne_iff_ne, ne_eq, bne_eq_false_iff_eq, decide_eq_true_eq] at *; omega)
theorem drop_pred {α : Type} {l : List α} {n : Nat} {w : α} (h : 0 < n) (hw : l[n - 1]? = some w) : l.drop (n - 1) = w :: l.drop n := by
 obtain ⟨h1, h2⟩ := List.getElem?_eq_some_iff.1 hw
 rw [List.drop_eq_getElem_cons h1, h2, show n - 1 + 1 = n by omega]
theorem take_pred {α : Type} {l : List α} {n : Nat} {w : α} (h : 0 < n) (hw : l[n - 1]? = some w) : l.take n = l.take (n - 1) ++ [w] := by
 have : l.take n = l.take (n - 1 + 1) := by rw [show n - 1 + 1 = n by omega]
 rw [this, List.take_add_one, hw]; rfl
theorem ins_at {P z : List SPair} {x : SPair} {n : Nat} (h : Sorts bef P z) (hix : ∀ w, w ∈ P → ix w x) (hd : ∀ w, w ∈ z.drop n → bef x w) (ht : ∀ w, 0 < n → z[n - 1]? = some w → ¬ bef x w) (hn : n ≤ z.length) : Sorts bef (P ++ [x]) (z.take n ++ x :: z.drop n) := by
 refine ins_sorts (by rw [List.take_append_drop]; exact h) hd fun v hv => ?_
 have h0 : 0 < n := by
  rcases Nat.eq_zero_or_pos n with e | e
  ·subst e; simp at hv
  ·exact e
 have hw : z[n - 1]? = some (z[n - 1]'(by omega)) := List.getElem?_eq_getElem (by omega)
 generalize z[n - 1]'(by omega) = w at hw
 have hb : bef w x := bef_not (fun k => ht w h0 hw (bef_less k)) (hix w (h.1.mem_iff.1 (List.mem_of_getElem? hw)))
 rw [take_pred h0 hw] at hv
 rcases List.mem_append.1 hv with hv | hv
 ·have hp := h.2
  rw [← List.take_append_drop (n - 1) z, drop_pred h0 hw] at hp
  exact bef_trans _ _ _ ((List.pairwise_append.1 hp).2.2 v hv w (by simp)) hb
 ·simp only [List.mem_singleton] at hv; subst hv; exact hb
theorem fits_ix_row {Z : SList} {k j : Nat} : ∀ w, w ∈ fitsL Z k ++ rowL Z k j → ix w (mkP Z k j) := fun w hw => by
 rcases List.mem_append.1 hw with hw | hw
 ·obtain ⟨i, q, h1, _, _, rfl⟩ := fitsL_mem.1 hw
  exact .inl (by show (i : Int) < (k : Int); omega)
 ·obtain ⟨q, h1, _, rfl⟩ := rowL_mem.1 hw
  exact .inr ⟨rfl, by show (q : Int) < (j : Int); omega⟩
theorem okRMAKEm (l r : List SCandidate) (c : Bool) : SOk (s12 l r c) (MakeR l r c) := by
 show Ok (g12 l r c) _
 unfold g12
 simp only [mlen_eq]
 refine Ok.cnd (R := fun b => (b = true ↔ 12 < l.length ∨ 12 < r.length)) ?_ fun b hb => ?_
 ·refine Ok.br (fun h => Ok.done ?_) (fun h => Ok.done ?_)
  ·simp only [decide_eq_true_eq] at h; exact ⟨fun _ => .inl (by omega), fun _ => rfl⟩
  ·simp only [decide_eq_false_iff_not] at h
   rw [decide_eq_true_eq]
   omega
 refine Ok.br (fun h => Ok.done (by unfold MakeR; rw [if_pos (hb.1 h)])) (fun h => ?_)
 have hlen : ¬ (12 < l.length ∨ 12 < r.length) := fun h2 => by rw [hb.2 h2] at h; simp at h
 refine Ok.cnd (R := fun b => (b = true ↔ ¬ (CandsOk l ∧ CandsOk r))) ?_ fun b2 hb2 => ?_
 ·refine Ok.call (okALL l (by omega)) fun a ha => Ok.br (fun h1 => Ok.done ?_) (fun h1 => Ok.call (okALL r (by omega)) fun a2 ha2 => Ok.done ?_)
  ·simp only [Bool.not_eq_true'] at h1
   exact ⟨fun _ h2 => by rw [ha.2 h2.1] at h1; simp at h1, fun _ => rfl⟩
  ·simp only [Bool.not_eq_false'] at h1
   rw [Bool.not_eq_true', Bool.eq_false_iff, ne_eq, ha2]
   exact ⟨fun h2 h3 => h2 h3.2, fun h2 h3 => h2 ⟨ha.1 h1, h3⟩⟩
 refine Ok.br (fun h2 => Ok.done (by unfold MakeR; rw [if_neg hlen, if_pos (hb2.1 h2)])) (fun h2 => ?_)
 have hok : CandsOk l ∧ CandsOk r := Classical.byContradiction fun hn => by rw [hb2.2 hn] at h2; simp at h2
 obtain ⟨cl, cr⟩ := hok
 have hl : l.length ≤ 12 := by omega
 have hr : r.length ≤ 12 := by omega
 have hF : ∀ k, k ≤ l.length → (fitsL ⟨c, l, r, []⟩ k).length ≤ 12 * k := fun k _ => Nat.le_trans (fitsL_len (Z := ⟨c, l, r, []⟩) k) (by rw [Nat.mul_comm]; exact Nat.mul_le_mul_right k hr)
 have hR : ∀ k j, (rowL ⟨c, l, r, []⟩ k j).length ≤ j := fun k j => rowL_len j
 refine Ok.gh (Ok.bind (R := fun L => Sorts bef (fitsL ⟨c, l, r, []⟩ l.length) L) ?_ fun S hS => ?_)
 ·refine Ok.scan l.length (by omega) (fun k y => y.2 = (k : Int) ∧ k ≤ l.length ∧ Sorts bef (fitsL ⟨c, l, r, []⟩ k) y.1) ⟨rfl, Nat.zero_le _, .refl _, List.Pairwise.nil⟩ (fun k y hy hk => ?_) (fun y hy => ?_)
  ·obtain ⟨hi, _, hs⟩ := hy
   obtain ⟨y1, y2⟩ := y
   simp only at hi hs
   subst hi
   refine Ok.br (fun hc => Ok.gh ?_) (fun hc => by simp at hc; omega)
   refine Ok.bind (R := fun L => Sorts bef (fitsL ⟨c, l, r, []⟩ k ++ rowL ⟨c, l, r, []⟩ k r.length) L) ?_ fun L hL => Ok.gh (Ok.done ⟨wi64_nat hk (by omega), by omega, hL⟩)
   refine Ok.scan r.length (by omega) (fun j z => z.2 = (j : Int) ∧ Sorts bef (fitsL ⟨c, l, r, []⟩ k ++ rowL ⟨c, l, r, []⟩ k j) z.1) ⟨rfl, by simpa [rowL] using hs⟩ (fun j z hz hj => ?_) (fun z hz => ?_)
   ·obtain ⟨ji, js⟩ := hz
    obtain ⟨z1, z2⟩ := z
    simp only at ji js
    subst ji
    have hzl : z1.length ≤ 12 * 12 + 12 := by
     rw [js.1.length_eq, List.length_append]
     have := hF k (by omega); have := hR k j; omega
    refine Ok.br (fun hc => ?_) (fun hc => by simp at hc; omega)
    obtain ⟨x, hx1, hx2⟩ := get_lt hk
    obtain ⟨w, hw1, hw2⟩ := get_lt hj
    have hfit : FitAt ⟨c, l, r, []⟩ k j ↔ FitP x w := by
     constructor
     ·rintro ⟨x', w', h1, h2, h3⟩
      have h1' : l[k]? = some x' := h1
      have h2' : r[j]? = some w' := h2
      rw [hx2] at h1'; rw [hw2] at h2'
      obtain rfl := Option.some.inj h1'
      obtain rfl := Option.some.inj h2'
      exact h3
     ·exact fun h => ⟨x, w, hx2, hw2, h⟩
    refine Ok.row (by simp) hx1 (Ok.row (by simp) hw1 (Ok.call (okRFIT x w) fun a ha => Ok.br (fun h3 => ?_) (fun h3 => Ok.done ⟨wi64_nat hj (by omega), ?_⟩)))
    rotate_left
    ·show Sorts bef (_ ++ (_ ++ _)) z1
     rw [if_neg (fun h4 => by rw [ha.2 (hfit.1 h4)] at h3; simp at h3), List.append_nil]
     exact js
    have hfa : FitAt ⟨c, l, r, []⟩ k j := hfit.2 (ha.1 h3)
    have hnew : ∀ p s : Int, InB ⟨c, l, r, []⟩ (SPair.mk (k : Int) (j : Int) p s) := fun p s => ⟨⟨by simp, by simp; omega⟩, ⟨by simp, by simp; omega⟩⟩
    refine Ok.call (okRPRIO ⟨c, l, r, []⟩ _ (hnew 0 0) cl cr) fun p hp => ?_
    subst hp
    refine Ok.bind (R := fun e => e.1 = prio ⟨c, l, r, []⟩ ⟨(k : Int), (j : Int), 0, 0⟩ ∧ ∃ n : Nat, e.2 = (n : Int) ∧ n ≤ z1.length ∧ (∀ w, w ∈ z1.drop n → bef (mkP ⟨c, l, r, []⟩ k j) w) ∧ ∀ w, 0 < n → z1[n - 1]? = some w → ¬ bef (mkP ⟨c, l, r, []⟩ k j) w) ?_ fun e he => ?_
    ·refine Ok.lp (fun a => ∃ n : Nat, a = (n : Int) ∧ n ≤ z1.length ∧ ∀ w, w ∈ z1.drop n → bef (mkP ⟨c, l, r, []⟩ k j) w) (fun a => a.toNat) ⟨z1.length, rfl, Nat.le_refl _, fun w hw => by simp at hw⟩ (fuel (by show ((z1.length : Int)).toNat ≤ _; omega)) (fun a ha => ?_)
     obtain ⟨n, rfl, hn', hd⟩ := ha
     have hn : n ≤ z1.length := hn'
     refine Ok.cnd (R := fun b => (b = true → 0 < n ∧ ∀ w, z1[n - 1]? = some w → bef (mkP ⟨c, l, r, []⟩ k j) w) ∧ (b = false → ∀ w, 0 < n → z1[n - 1]? = some w → ¬ bef (mkP ⟨c, l, r, []⟩ k j) w)) ?_ fun b hb => Ok.br (fun h => ?_) (fun h => Ok.done ⟨rfl, n, rfl, hn, hd, hb.2 h⟩)
     ·refine Ok.br (fun h => ?_) (fun h => Ok.done ⟨fun h => by simp at h, fun _ w h0 => by simp at h; omega⟩)
      have h0 : 0 < n := by simpa using h
      have e1 : wi64 ((n : Int) - 1) = ((n - 1 : Nat) : Int) := by rw [wi64_id (by omega) (by omega)]; omega
      have hq : z1[n - 1]? = some (z1[n - 1]'(by omega)) := List.getElem?_eq_getElem (by omega)
      generalize z1[n - 1]'(by omega) = q at hq
      refine Ok.chk (by rw [e1]; exact inP (show n - 1 < z1.length by omega)) (Ok.row rfl (by rw [e1, Nat.zero_add, Int.toNat_natCast]; exact hq) (Ok.call (okBEFORE2 _ q) fun b hb => Ok.done ⟨fun h4 => ⟨h0, fun w hw => ?_⟩, fun h4 w _ hw => ?_⟩))
      ·rw [hq] at hw; obtain rfl := Option.some.inj hw
       exact hb.1 h4
      ·rw [hq] at hw; obtain rfl := Option.some.inj hw
       exact fun h5 => by rw [hb.2 h5] at h4; simp at h4
     ·obtain ⟨h0, h9⟩ := hb.1 h
      have e1 : wi64 ((n : Int) - 1) = ((n - 1 : Nat) : Int) := by rw [wi64_id (by omega) (by omega)]; omega
      have hq : z1[n - 1]? = some (z1[n - 1]'(by omega)) := List.getElem?_eq_getElem (by omega)
      generalize z1[n - 1]'(by omega) = q at hq
      refine Ok.done ?_
      show Rnd _ _ _ _ (.inl (wi64 ((n : Int) - 1)))
      rw [e1]
      refine ⟨⟨n - 1, rfl, by omega, fun w hw => ?_⟩, by show ((n - 1 : Nat) : Int).toNat < ((n : Int)).toNat; omega⟩
      rw [drop_pred h0 hq] at hw
      rcases List.mem_cons.1 hw with rfl | hw
      ·exact h9 _ hq
      ·exact hd w hw
    ·obtain ⟨hep, n, hn, hnl, hd, ht⟩ := he
     obtain ⟨e1, e2⟩ := e
     simp only at hep hn
     subst hep hn
     have c1 : (decide (0 ≤ (n : Int)) && decide ((n : Int) ≤ (z1.length : Int))) = true := by simp; exact hnl
     refine Ok.chk c1 (Ok.opr (r := ()) (bif_ok ⟨by show 0 + ((n : Int)).toNat ≤ z1.length; omega, by simp; omega⟩) ?_)
     refine Ok.app (by simp; omega) (Ok.chk c1 (Ok.opr (r := ()) (bif_ok ⟨by simp; omega, by simp; omega⟩) (Ok.gh (Ok.gh (Ok.done ⟨wi64_nat hj (by omega), ?_⟩)))))
     show Sorts bef (_ ++ (_ ++ _)) _
     rw [if_pos hfa, ← List.append_assoc]
     have key := ins_at js fits_ix_row hd ht hnl
     have e9 : (z1.drop n).take (z1.length - n) = z1.drop n := List.take_of_length_le (by simp)
     simpa [mkP, e9] using key
   ·obtain ⟨ji, js⟩ := hz
    obtain ⟨z1, z2⟩ := z
    simp only at ji js
    subst ji
    exact Ok.br (fun hc => by simp at hc) (fun hc => Ok.done js)
  ·obtain ⟨hi, _, hs⟩ := hy
   obtain ⟨y1, y2⟩ := y
   simp only at hi hs
   subst hi
   exact Ok.br (fun hc => by simp at hc) (fun hc => Ok.done hs)
 ·have hSl : S.length ≤ 144 := by rw [hS.1.length_eq]; exact Nat.le_trans (hF _ (Nat.le_refl _)) (by omega)
  have hSI : ∀ x, x ∈ S → ∀ L, InB ⟨c, l, r, L⟩ x := fun x hx L => by
   obtain ⟨i, j, i1, i2, _, rfl⟩ := fitsL_mem.1 (hS.1.mem_iff.1 hx)
   have i2' : j < r.length := i2
   exact ⟨⟨by show (0 : Int) ≤ (i : Int); omega, by show (i : Int) < (l.length : Int); omega⟩, ⟨by show (0 : Int) ≤ (j : Int); omega, by show (j : Int) < (r.length : Int); omega⟩⟩
  refine Ok.gh (Ok.bind (R := fun M => M = pruneL ⟨c, l, r, []⟩ S S.length) ?_ fun M hM => ?_)
  ·refine Ok.scan S.length (by omega) (fun k y => y.2 = (k : Int) ∧ y.1 = pruneL ⟨c, l, r, []⟩ S k) ⟨rfl, rfl⟩ (fun k y hy hk => ?_) (fun y hy => ?_)
   ·obtain ⟨hi, hp⟩ := hy
    obtain ⟨y1, y2⟩ := y
    simp only at hi hp
    subst hi hp
    have hle := pruneL_le ⟨c, l, r, []⟩ S k
    refine Ok.br (fun hc => ?_) (fun hc => by simp at hc; omega)
    obtain ⟨x, hx1, hx2⟩ := get_lt hk
    have hxI := hSI x (List.mem_of_getElem? hx2)
    have hx3 : S[0 + ((k : Int)).toNat]? = some x := by rw [Nat.zero_add]; exact hx1
    have hstep : pruneL ⟨c, l, r, []⟩ S (k + 1) = if LikeBefore ⟨c, l, r, []⟩ S k x ∨ 36 ≤ (pruneL ⟨c, l, r, []⟩ S k).length then pruneL ⟨c, l, r, []⟩ S k else pruneL ⟨c, l, r, []⟩ S k ++ [x] := by
     rw [show pruneL ⟨c, l, r, []⟩ S (k + 1) = (match S[k]? with
      | some x => if LikeBefore ⟨c, l, r, []⟩ S k x ∨ 36 ≤ (pruneL ⟨c, l, r, []⟩ S k).length then pruneL ⟨c, l, r, []⟩ S k else pruneL ⟨c, l, r, []⟩ S k ++ [x]
      | none => pruneL ⟨c, l, r, []⟩ S k) from rfl, hx2]
    refine Ok.bind (R := fun e => (e = true ↔ LikeBefore ⟨c, l, r, []⟩ S k x)) ?_ fun e he => ?_
    ·refine Ok.scan k (by omega) (fun j z => z.2 = (j : Int) ∧ (z.1 = true ↔ LikeBefore ⟨c, l, r, []⟩ S j x)) ⟨rfl, fun h => by simp at h, fun ⟨q, w, h, _⟩ => by omega⟩ (fun j z hz hj => ?_) (fun z hz => ?_)
     ·obtain ⟨z1, z2⟩ := z
      obtain ⟨hz, hzs⟩ := hz
      simp only at hz hzs
      subst hz
      refine Ok.br (fun hc => ?_) (fun hc => by simp at hc; omega)
      obtain ⟨w, hw1, hw2⟩ := get_lt (show j < S.length by omega)
      have hwI := hSI w (List.mem_of_getElem? hw2)
      refine Ok.cnd (R := fun b => (b = true ↔ z1 = true ∨ likeK ⟨c, l, r, []⟩ x = likeK ⟨c, l, r, []⟩ w)) (Ok.br (fun h => Ok.done ⟨fun _ => .inl h, fun _ => rfl⟩) (fun hz1 => ?_)) fun b hb => Ok.done ⟨wi64_nat hj (by omega), ?_⟩
      rotate_left
      ·show b = true ↔ _
       rw [hb, hzs]
       constructor
       ·rintro (⟨q, w', h1, h2, h3⟩ | h)
        ·exact ⟨q, w', by omega, h2, h3⟩
        ·exact ⟨j, w, by omega, hw2, h.symm⟩
       ·rintro ⟨q, w', h1, h2, h3⟩
        by_cases hq : q < j
        ·exact .inl ⟨q, w', hq, h2, h3⟩
        ·have : q = j := by omega
         subst this
         rw [hw2] at h2
         obtain rfl := Option.some.inj h2
         exact .inr h3.symm
      refine Ok.chk (by simp; omega) (Ok.row rfl hx3 (Ok.chk (by simp; omega) (Ok.row rfl (by rw [Nat.zero_add]; exact hw1) (Ok.view (okALIKE ⟨c, l, r, pruneL ⟨c, l, r, []⟩ S k⟩ x w (hxI _) (hwI _)) fun a ha => Ok.done ?_))))
      have hz2 : z1 = false := hz1
      rw [ha, hz2]
      exact ⟨fun h => .inr h, fun h => by rcases h with h | h; simp at h; exact h⟩
     ·obtain ⟨z1, z2⟩ := z
      obtain ⟨hz, hzs⟩ := hz
      simp only at hz hzs
      subst hz
      exact Ok.br (fun hc => by simp at hc) (fun hc => Ok.done hzs)
    ·refine Ok.cnd (R := fun b => (b = true ↔ ¬ (LikeBefore ⟨c, l, r, []⟩ S k x ∨ 36 ≤ (pruneL ⟨c, l, r, []⟩ S k).length))) (Ok.br (fun h5 => Ok.done ?_) (fun h5 => Ok.done ?_)) fun b hb => Ok.br (fun h => ?_) (fun h => Ok.done ⟨wi64_nat hk (by omega), ?_⟩)
     ·have h6 : ¬ LikeBefore ⟨c, l, r, []⟩ S k x := fun h7 => by rw [he.2 h7] at h5; simp at h5
      rw [decide_eq_true_eq]
      constructor
      ·intro h7 h8
       have h7' : ((pruneL ⟨c, l, r, []⟩ S k).length : Int) < 36 := h7
       rcases h8 with h8 | h8
       ·exact h6 h8
       ·omega
      ·intro h7
       have : ¬ 36 ≤ (pruneL ⟨c, l, r, []⟩ S k).length := fun h8 => h7 (.inr h8)
       show ((pruneL ⟨c, l, r, []⟩ S k).length : Int) < 36
       omega
     ·have h6 : LikeBefore ⟨c, l, r, []⟩ S k x := he.1 (by simpa using h5)
      exact ⟨fun h => by simp at h, fun h => absurd (.inl h6) h⟩
     ·have h8 := hb.1 h
      refine Ok.chk (by simp; omega) (Ok.row rfl hx3 (Ok.app (by simp; omega) (Ok.gh (Ok.gh (Ok.done ⟨wi64_nat hk (by omega), ?_⟩)))))
      rw [hstep, if_neg h8]
     ·show pruneL _ S k = _
      rw [hstep, if_pos (Classical.byContradiction fun h9 => by rw [hb.2 h9] at h; simp at h)]
   ·obtain ⟨hi, hp⟩ := hy
    obtain ⟨y1, y2⟩ := y
    simp only at hi hp
    subst hi
    exact Ok.br (fun hc => by simp at hc) (fun hc => Ok.done hp)
  ·have mL : M.length ≤ 36 := by rw [hM]; exact pruneL_le _ _ _
   have mI : ∀ x, x ∈ M → ∀ L, InB ⟨c, l, r, L⟩ x := fun x hx => hSI x (pruneL_mem (by rw [← hM]; exact hx))
   have done : ∀ ps, WokeL ⟨c, l, r, []⟩ M ps → MakeR l r c (⟨c, l, r, ps⟩, 0) := fun ps hw => by
    unfold MakeR
    rw [if_neg hlen, if_neg (fun h => h ⟨cl, cr⟩)]
    exact ⟨ps, rfl, S, hS, hM ▸ hw⟩
   clear hM
   refine Ok.bind (R := fun N => WokeL ⟨c, l, r, []⟩ M N) ?_ fun N hN => Ok.gh (Ok.done (done N hN))
   refine Ok.scan M.length (by omega) (fun k y => y.2 = (k : Int) ∧ y.1.length = M.length ∧ ∀ i x, M[i]? = some x → y.1[i]? = some (if i < k ∧ FirstW ⟨c, l, r, []⟩ M i x then ⟨x.fLocal, x.fRemote, x.fPriority, 1⟩ else x)) ⟨rfl, rfl, fun i x h => by rw [if_neg (fun h => by omega)]; exact h⟩ (fun k y hy hk => ?_) (fun y hy => ?_)
   ·obtain ⟨hi, hs, hy⟩ := hy
    obtain ⟨y1, y2⟩ := y
    simp only at hi hs hy
    subst hi
    refine Ok.br (fun hc => ?_) (fun hc => by simp [hs] at hc; omega)
    obtain ⟨x, _, hxM⟩ := get_lt hk
    have hx2 : y1[k]? = some x := by rw [hy k x hxM, if_neg (fun h => by omega)]
    have hxI := mI x (List.mem_of_getElem? hxM)
    have hx3 : y1[0 + ((k : Int)).toNat]? = some x := by rw [Nat.zero_add, Int.toNat_natCast]; exact hx2
    refine Ok.chk (by simp; omega) (Ok.row rfl hx3 (Ok.row (hxI []).lc (hxI []).loc ?_))
    refine Ok.bind (R := fun e => (e = true ↔ FirstW ⟨c, l, r, []⟩ M k x)) ?_ fun e he => Ok.br (fun h3 => ?_) (fun h3 => Ok.done ⟨wi64_nat hk (by omega), hs, fun i z hz => ?_⟩)
    ·refine Ok.scan y1.length (by omega) (fun j z => z.2 = (j : Int) ∧ (z.1 = true ↔ ∀ q w, q < j → M[q]? = some w → foundK ⟨c, l, r, []⟩ w = foundK ⟨c, l, r, []⟩ x → ¬ (compK ⟨c, l, r, []⟩ w < compK ⟨c, l, r, []⟩ x ∨ (compK ⟨c, l, r, []⟩ w = compK ⟨c, l, r, []⟩ x ∧ q < k)))) ⟨rfl, fun _ q w h => by omega, fun _ => rfl⟩ (fun j z hz hj => ?_) (fun z hz => ?_)
     ·obtain ⟨z1, z2⟩ := z
      obtain ⟨hz, hzs⟩ := hz
      simp only at hz hzs
      subst hz
      refine Ok.br (fun hc => ?_) (fun hc => by simp at hc; omega)
      obtain ⟨w, _, hwM⟩ := get_lt (show j < M.length by omega)
      have hwI := mI w (List.mem_of_getElem? hwM)
      obtain ⟨w', hw2, ew1, ew2⟩ : ∃ w', y1[j]? = some w' ∧ w'.fLocal = w.fLocal ∧ w'.fRemote = w.fRemote := ⟨_, hy j w hwM, by split <;> rfl, by split <;> rfl⟩
      have hwI' : ∀ L, InB ⟨c, l, r, L⟩ w' := fun L => by have := hwI L; unfold InB at this ⊢; rw [ew1, ew2]; exact this
      have ef : ∀ L, foundK ⟨c, l, r, L⟩ w' = foundK ⟨c, l, r, []⟩ w := fun L => by unfold foundK locC remC; rw [ew1, ew2]
      have ec : ∀ L, (locC ⟨c, l, r, L⟩ w').fComponent = compK ⟨c, l, r, []⟩ w := fun L => by unfold compK locC; rw [ew1]
      have hw3 : y1[0 + ((j : Int)).toNat]? = some w' := by rw [Nat.zero_add, Int.toNat_natCast]; exact hw2
      refine Ok.chk (by simp; omega) (Ok.row rfl hw3 (Ok.row (hwI' []).lc (hwI' []).loc (Ok.cnd (R := fun b => (b = true ↔ foundK ⟨c, l, r, []⟩ w = foundK ⟨c, l, r, []⟩ x ∧ (compK ⟨c, l, r, []⟩ w < compK ⟨c, l, r, []⟩ x ∨ (compK ⟨c, l, r, []⟩ w = compK ⟨c, l, r, []⟩ x ∧ j < k)))) ?_ fun b hb => Ok.br (fun h4 => Ok.done ⟨wi64_nat hj (by omega), ?_⟩) (fun h4 => Ok.done ⟨wi64_nat hj (by omega), ?_⟩))))
      ·refine Ok.chk (by simp; omega) (Ok.row rfl hx3 (Ok.chk (by simp; omega) (Ok.row rfl hw3 (Ok.view (okRELATED _ x w' (hxI _) (hwI' _)) fun a ha => ?_))))
       rw [ef] at ha
       have ha2 : a = true ↔ foundK ⟨c, l, r, []⟩ w = foundK ⟨c, l, r, []⟩ x := ha.trans ⟨fun h => h.symm, fun h => h.symm⟩
       simp only [ec]
       show Ok _ _
       refine Ok.br (fun h5 => ?_) (fun h5 => Ok.done ⟨fun h => by simp at h, fun h => by rw [ha2.2 h.1] at h5; simp at h5⟩)
       have h6 := ha2.1 h5
       refine Ok.br (fun h7 => Ok.done ?_) (fun h7 => Ok.br (fun h8 => Ok.done ?_) (fun h8 => Ok.done ?_))
       ·simp only [decide_eq_true_eq] at h7
        exact ⟨fun _ => ⟨h6, .inl h7⟩, fun _ => rfl⟩
       ·simp only [decide_eq_false_iff_not] at h7
        rw [beq_iff_eq] at h8
        have h8' : compK ⟨c, l, r, []⟩ w = compK ⟨c, l, r, []⟩ x := h8
        rw [decide_eq_true_eq]
        exact ⟨fun h => ⟨h6, .inr ⟨h8', by omega⟩⟩, fun h => by rcases h.2 with h | h; exact absurd h h7; omega⟩
       ·simp only [decide_eq_false_iff_not] at h7
        rw [beq_eq_false_iff_ne] at h8
        have h8' : ¬ compK ⟨c, l, r, []⟩ w = compK ⟨c, l, r, []⟩ x := h8
        exact ⟨fun h => by simp at h, fun h => by rcases h.2 with h | h; exact absurd h h7; exact absurd h.1 h8'⟩
      ·show false = true ↔ _
       exact ⟨fun h => by simp at h, fun h => absurd (hb.1 h4).2 (h j w (by omega) hwM (hb.1 h4).1)⟩
      ·show z1 = true ↔ _
       rw [hzs]
       constructor
       ·intro h q v hq hv hf
        by_cases hqj : q < j
        ·exact h q v hqj hv hf
        ·have : q = j := by omega
         subst this
         rw [hwM] at hv
         obtain rfl := Option.some.inj hv
         exact fun h5 => by rw [hb.2 ⟨hf, h5⟩] at h4; simp at h4
       ·exact fun h q v hq => h q v (by omega)
     ·obtain ⟨z1, z2⟩ := z
      obtain ⟨hz, hzs⟩ := hz
      simp only at hz hzs
      subst hz
      refine Ok.br (fun hc => by simp at hc) (fun hc => Ok.done ?_)
      show z1 = true ↔ _
      rw [hzs]
      exact ⟨fun h q v hv => h q v (by have := (List.getElem?_eq_some_iff.1 hv).1; omega) hv, fun h q v _ => h q v⟩
    ·have hF := he.1 h3
     refine Ok.chk (by simp; omega) (Ok.row rfl hx3 (Ok.re (Ok.gh (Ok.done ⟨wi64_nat hk (by omega), by simp [hs], fun i z hz => ?_⟩))))
     show (List.set y1 (0 + ((k : Int)).toNat) _)[i]? = _
     rw [Nat.zero_add, Int.toNat_natCast]
     by_cases hik : i = k
     ·subst hik
      rw [hxM] at hz; obtain rfl := Option.some.inj hz
      rw [List.getElem?_set_self (by omega), if_pos ⟨by omega, hF⟩]
     ·rw [List.getElem?_set_ne (Ne.symm hik), hy i z hz]
      congr 1
      have : (i < k ∧ FirstW ⟨c, l, r, []⟩ M i z) ↔ (i < k + 1 ∧ FirstW ⟨c, l, r, []⟩ M i z) := ⟨fun h => ⟨by omega, h.2⟩, fun h => ⟨by omega, h.2⟩⟩
      simp only [this]
    ·show y1[i]? = _
     rw [hy i z hz]
     congr 1
     have : (i < k ∧ FirstW ⟨c, l, r, []⟩ M i z) ↔ (i < k + 1 ∧ FirstW ⟨c, l, r, []⟩ M i z) := by
      constructor
      ·exact fun h => ⟨by omega, h.2⟩
      ·rintro ⟨h4, h5⟩
       refine ⟨?_, h5⟩
       have : i ≠ k := fun e' => by
        subst e'
        rw [hxM] at hz; obtain rfl := Option.some.inj hz
        rw [he.2 h5] at h3; simp at h3
       omega
     simp only [this]
   ·obtain ⟨hi, hs, hy⟩ := hy
    obtain ⟨y1, y2⟩ := y
    simp only at hi hs hy
    subst hi
    refine Ok.br (fun hc => by simp [hs] at hc) (fun hc => Ok.done ⟨hs, fun i x hx => ?_⟩)
    have hil := (List.getElem?_eq_some_iff.1 hx).1
    rw [hy i x hx]
    congr 1
    have : (i < M.length ∧ FirstW ⟨c, l, r, []⟩ M i x) ↔ FirstW ⟨c, l, r, []⟩ M i x := ⟨fun h => h.2, fun h => ⟨hil, h⟩⟩
    simp only [this]
end Go.Proofs.YtioobnkmohikjaaGreatDoor
namespace Go.Proofs.YtioobnkmohikjaaGreatDoor
open Go Go.EV
set_option maxRecDepth 100000
open Classical
theorem okCLONEC (l : List SCandidate) (h : l.length ≤ 100000) : SOk (s31 l) (fun _ => True) := by
 show Ok (g31 l) _
 unfold g31
 exact Ok.app (by simp; omega) (Ok.done trivial)
theorem foundE_iff {a : S2String} {e : SEnt90} : ((decide (a.a0 = e.fk.a0)) && ((decide (a.a1 = e.fk.a1)) && true)) = true ↔ a = e.fk := by
 cases a; cases e with | mk k v => cases k; simp
def VK (Z : SList) (M : List SPair) (k : Nat) (z : S2String) (v : Int) : Prop := ∃ (i : Nat) (x : SPair), i < k ∧ v = (i : Int) ∧ M[i]? = some x ∧ foundK Z x = z ∧ ∀ j y, j < k → M[j]? = some y → foundK Z y = z → ¬ (compK Z y < compK Z x ∨ (compK Z y = compK Z x ∧ j < i))
theorem VK.one {Z : SList} {M : List SPair} {k : Nat} {z : S2String} {v w : Int} (h : VK Z M k z v) (h2 : VK Z M k z w) : v = w := by
 obtain ⟨i, x, a1, rfl, a2, a3, a4⟩ := h
 obtain ⟨j, y, b1, rfl, b2, b3, b4⟩ := h2
 have h1 := a4 j y b1 b2 b3
 have h3 := b4 i x a1 a2 a3
 omega
theorem VK.step_other {Z : SList} {M : List SPair} {k : Nat} {x : SPair} (hx : M[k]? = some x) {z : S2String} (hz : z ≠ foundK Z x) (v : Int) : VK Z M (k + 1) z v ↔ VK Z M k z v := by
 constructor
 ·rintro ⟨i, y, a1, a2, a3, a4, a5⟩
  have : i ≠ k := fun e => by subst e; rw [hx] at a3; obtain rfl := Option.some.inj a3; exact hz a4.symm
  exact ⟨i, y, by omega, a2, a3, a4, fun j w hj => a5 j w (by omega)⟩
 ·rintro ⟨i, y, a1, a2, a3, a4, a5⟩
  refine ⟨i, y, by omega, a2, a3, a4, fun j w hj hw hf => ?_⟩
  by_cases e : j < k
  ·exact a5 j w e hw hf
  ·have : j = k := by omega
   subst this
   rw [hx] at hw; obtain rfl := Option.some.inj hw
   exact absurd hf.symm hz
theorem VK.step_new {Z : SList} {M : List SPair} {k : Nat} {x : SPair} (hx : M[k]? = some x) (hn : ∀ i y, i < k → M[i]? = some y → foundK Z y = foundK Z x → (∀ j w, j < k → M[j]? = some w → foundK Z w = foundK Z x → ¬ (compK Z w < compK Z y ∨ (compK Z w = compK Z y ∧ j < i))) → compK Z x < compK Z y)
  (he : ∀ j w, j < k → M[j]? = some w → foundK Z w = foundK Z x → ∃ v, VK Z M k (foundK Z x) v) (v : Int) : VK Z M (k + 1) (foundK Z x) v ↔ v = (k : Int) := by
 have low : ∀ j w, j < k → M[j]? = some w → foundK Z w = foundK Z x → compK Z x < compK Z w := fun j w hj hw hf => by
  obtain ⟨_, i, y, a1, _, a2, a3, a4⟩ := he j w hj hw hf
  have h1 := hn i y a1 a2 a3 a4
  have h2 := a4 j w hj hw hf
  omega
 have self : VK Z M (k + 1) (foundK Z x) (k : Int) := ⟨k, x, by omega, rfl, hx, rfl, fun j w hj hw hf => by
  by_cases e : j < k
  ·have := low j w e hw hf; omega
  ·have : j = k := by omega
   subst this
   rw [hx] at hw; obtain rfl := Option.some.inj hw
   omega⟩
 exact ⟨fun h => h.one self, fun h => h ▸ self⟩
theorem VK.step_keep {Z : SList} {M : List SPair} {k : Nat} {x : SPair} (hx : M[k]? = some x) {i : Nat} {y : SPair} (hi : i < k) (hy : M[i]? = some y) (hf : foundK Z y = foundK Z x) (hm : ∀ j w, j < k → M[j]? = some w → foundK Z w = foundK Z x → ¬ (compK Z w < compK Z y ∨ (compK Z w = compK Z y ∧ j < i))) (hc : ¬ compK Z x < compK Z y) (v : Int) :
  VK Z M (k + 1) (foundK Z x) v ↔ VK Z M k (foundK Z x) v := by
 have old : VK Z M k (foundK Z x) (i : Int) := ⟨i, y, hi, rfl, hy, hf, hm⟩
 have new : VK Z M (k + 1) (foundK Z x) (i : Int) := ⟨i, y, by omega, rfl, hy, hf, fun j w hj hw hfw => by
  by_cases e : j < k
  ·exact hm j w e hw hfw
  ·have : j = k := by omega
   subst this
   rw [hx] at hw; obtain rfl := Option.some.inj hw
   omega⟩
 exact ⟨fun h => h.one new ▸ old, fun h => h.one old ▸ new⟩
theorem okCOMP (l : SList) (x : SPair) (h : InB l x) : SOk (s38 (SPlanner.mk l) x) (fun r => r = compK l x) := by
 show Ok (g38 (SPlanner.mk l) x) _
 unfold g38
 exact Ok.row h.lc h.loc (Ok.done rfl)
theorem likeE_iff {a : SLike} {e : SEnt86} : ((decide (a.fbase.fHost = e.fk.fbase.fHost)) && ((a.fbase.fPort == e.fk.fbase.fPort) && ((decide (a.faddr.fHost = e.fk.faddr.fHost)) && ((a.faddr.fPort == e.fk.faddr.fPort) && ((a.fcomponent == e.fk.fcomponent) && true))))) = true ↔ a = e.fk := likeP_iff
theorem okMAKE (l r : List SCandidate) (c : Bool) : SOk (s11 l r c) (MakeR l r c) := by
 show Ok (g11 l r c) _
 unfold g11
 simp only [mlen_eq]
 refine Ok.cnd (R := fun b => (b = true ↔ 12 < l.length ∨ 12 < r.length)) ?_ fun b hb => ?_
 ·refine Ok.br (fun h => Ok.done ?_) (fun h => Ok.done ?_)
  ·simp only [decide_eq_true_eq] at h; exact ⟨fun _ => .inl (by omega), fun _ => rfl⟩
  ·simp only [decide_eq_false_iff_not] at h
   rw [decide_eq_true_eq]
   omega
 refine Ok.br (fun h => Ok.done (by unfold MakeR; rw [if_pos (hb.1 h)])) (fun h => ?_)
 have hlen : ¬ (12 < l.length ∨ 12 < r.length) := fun h2 => by rw [hb.2 h2] at h; simp at h
 refine Ok.cnd (R := fun b => (b = true ↔ ¬ (CandsOk l ∧ CandsOk r))) ?_ fun b2 hb2 => ?_
 ·refine Ok.call (okCANDS l (by omega)) fun a ha => Ok.br (fun h1 => Ok.done ?_) (fun h1 => Ok.call (okCANDS r (by omega)) fun a2 ha2 => Ok.done ?_)
  ·simp only [Bool.not_eq_true'] at h1
   exact ⟨fun _ h2 => by rw [ha.2 h2.1] at h1; simp at h1, fun _ => rfl⟩
  ·simp only [Bool.not_eq_false'] at h1
   rw [Bool.not_eq_true', Bool.eq_false_iff, ne_eq, ha2]
   exact ⟨fun h2 h3 => h2 h3.2, fun h2 h3 => h2 ⟨ha.1 h1, h3⟩⟩
 refine Ok.br (fun h2 => Ok.done (by unfold MakeR; rw [if_neg hlen, if_pos (hb2.1 h2)])) (fun h2 => ?_)
 have hok : CandsOk l ∧ CandsOk r := Classical.byContradiction fun hn => by rw [hb2.2 hn] at h2; simp at h2
 have hF : (fitsL ⟨c, l, r, []⟩ l.length).length ≤ l.length * r.length := fitsL_len (Z := ⟨c, l, r, []⟩) l.length
 have hF2 : l.length * r.length ≤ 12 * 12 := Nat.mul_le_mul (by omega) (by omega)
 refine Ok.call (okCLONEC l (by omega)) fun _ _ => Ok.call (okCLONEC r (by omega)) fun _ _ => Ok.gh (Ok.gh (Ok.gh (Ok.gh (Ok.sub (S := subPairs c l r) (pairsM_eq c l r hok.1 hok.2 (by omega) (by omega)) ?_))))
 refine Ok.call (okSORTF _ (fitsL_ix _) (by omega)) fun S hS => Ok.opr rfl (Ok.gh ?_)
 have hSl : S.length = (fitsL ⟨c, l, r, []⟩ l.length).length := hS.1.length_eq
 have hSI : ∀ x, x ∈ S → ∀ L, InB ⟨c, l, r, L⟩ x := fun x hx L => by
  obtain ⟨i, j, i1, i2, _, rfl⟩ := fitsL_mem.1 (hS.1.mem_iff.1 hx)
  have i2' : j < r.length := i2
  exact ⟨⟨by show (0 : Int) ≤ (i : Int); omega, by show (i : Int) < (l.length : Int); omega⟩, ⟨by show (0 : Int) ≤ (j : Int); omega, by show (j : Int) < (r.length : Int); omega⟩⟩
 rw [← hSl]
 refine Ok.bind (R := fun e => e = pruneL ⟨c, l, r, []⟩ S S.length) ?_ fun M hM => ?_
 ·refine Ok.scan S.length (by omega) (fun k y => y.2.2 = (k : Int) ∧ y.2.1 = pruneL ⟨c, l, r, []⟩ S k ∧ ∃ ks, SetOf SEnt86.fk SEnt86.fv y.1 ks ∧ ∀ z, z ∈ ks ↔ ∃ j w, j < k ∧ S[j]? = some w ∧ likeK ⟨c, l, r, []⟩ w = z) ⟨rfl, rfl, [], SetOf.nil _ _, fun z => ⟨fun h => by simp at h, fun ⟨j, w, h, _⟩ => by omega⟩⟩ (fun k y hy hk => ?_) (fun y hy => ?_)
  ·obtain ⟨hi, hp, ks, hs, hz⟩ := hy
   obtain ⟨y1, y2, y3⟩ := y
   simp only at hi hp hs
   subst hi hp
   have hle := pruneL_le ⟨c, l, r, []⟩ S k
   obtain ⟨x, hx1, hx2⟩ := get_lt hk
   have hxI := hSI x (List.mem_of_getElem? hx2)
   have hstep : pruneL ⟨c, l, r, []⟩ S (k + 1) = if LikeBefore ⟨c, l, r, []⟩ S k x ∨ 36 ≤ (pruneL ⟨c, l, r, []⟩ S k).length then pruneL ⟨c, l, r, []⟩ S k else pruneL ⟨c, l, r, []⟩ S k ++ [x] := by
    rw [show pruneL ⟨c, l, r, []⟩ S (k + 1) = (match S[k]? with
     | some x => if LikeBefore ⟨c, l, r, []⟩ S k x ∨ 36 ≤ (pruneL ⟨c, l, r, []⟩ S k).length then pruneL ⟨c, l, r, []⟩ S k else pruneL ⟨c, l, r, []⟩ S k ++ [x]
     | none => pruneL ⟨c, l, r, []⟩ S k) from rfl, hx2]
   have hup : ∀ z, (∃ j w, j < k + 1 ∧ S[j]? = some w ∧ likeK ⟨c, l, r, []⟩ w = z) ↔ (∃ j w, j < k ∧ S[j]? = some w ∧ likeK ⟨c, l, r, []⟩ w = z) ∨ likeK ⟨c, l, r, []⟩ x = z := fun z => by
    constructor
    ·rintro ⟨j, w, h1, h2, h3⟩
     by_cases e : j < k
     ·exact .inl ⟨j, w, e, h2, h3⟩
     ·have : j = k := by omega
      subst this
      rw [hx2] at h2
      obtain rfl := Option.some.inj h2
      exact .inr h3
    ·rintro (⟨j, w, h1, h2, h3⟩ | h)
     ·exact ⟨j, w, by omega, h2, h3⟩
     ·exact ⟨k, x, by omega, hx2, h⟩
   refine Ok.br (fun _ => ?_) (fun hc => by simp at hc; omega)
   refine Ok.chk (inP hk) (Ok.row rfl (by rw [Nat.zero_add]; exact hx1) (Ok.br (fun h3 => Ok.done ?_) (fun h3 => ?_)))
   ·have h36 : (pruneL ⟨c, l, r, []⟩ S k).length = 36 := by
     rw [beq_iff_eq] at h3; have h3' : ((pruneL ⟨c, l, r, []⟩ S k).length : Int) = 36 := h3; omega
    exact (pruneL_stay h36 S.length (by omega)).symm
   ·have h36 : ¬ 36 ≤ (pruneL ⟨c, l, r, []⟩ S k).length := by
     rw [beq_eq_false_iff_ne] at h3; have h3' : ((pruneL ⟨c, l, r, []⟩ S k).length : Int) ≠ 36 := h3; omega
    refine Ok.view (okLIKE _ x (hxI _)) fun q hq => Ok.opr rfl (Ok.br (fun h4 => Ok.done ?_) (fun h4 => ?_))
    ·have hqk : q = likeK ⟨c, l, r, []⟩ x := hq
     have hin := (hs.look (x := q) (fun e => likeE_iff)).1 h4
     rw [hqk] at hin
     refine ⟨wi64_nat hk (by omega), ?_, ks, hs, fun z => ?_⟩
     ·rw [hstep, if_pos (.inl ((hz _).1 hin))]
     ·rw [hup, ← hz]
      exact ⟨.inl, fun h => h.elim id fun e => e ▸ hin⟩
    ·have hqk : q = likeK ⟨c, l, r, []⟩ x := hq
     have hnot : likeK ⟨c, l, r, []⟩ x ∉ ks := fun hin => by
      have := (hs.look (x := q) (fun e => likeE_iff)).2 (by rw [hqk]; exact hin)
      rw [this] at h4; simp at h4
     refine Ok.view (okLIKE _ x (hxI _)) fun q2 hq2 => Ok.opr rfl (Ok.app (by simp; omega) (Ok.gh (Ok.gh (Ok.done ?_))))
     have hq2k : q2 = likeK ⟨c, l, r, []⟩ x := hq2
     refine ⟨wi64_nat hk (by omega), ?_, ks ++ [q2], hs.put (x := q2) (fun e => likeE_iff) rfl rfl, fun z => ?_⟩
     ·show pruneL ⟨c, l, r, []⟩ S k ++ [x] = _
      rw [hstep, if_neg]
      rintro (h5 | h5)
      ·exact hnot ((hz _).2 h5)
      ·exact h36 h5
     ·rw [hup, ← hz, List.mem_append, List.mem_singleton, hq2k]
      exact or_congr Iff.rfl ⟨fun h => h.symm, fun h => h.symm⟩
  ·obtain ⟨hi, hp, ks, hs, hz⟩ := hy
   obtain ⟨y1, y2, y3⟩ := y
   simp only at hi hp hs
   subst hi hp
   exact Ok.br (fun hc => by simp at hc) (fun hc => Ok.done rfl)
 ·subst hM
  have hM36 := pruneL_le ⟨c, l, r, []⟩ S S.length
  have hMI : ∀ x, x ∈ pruneL ⟨c, l, r, []⟩ S S.length → ∀ L, InB ⟨c, l, r, L⟩ x := fun x hx => hSI x (pruneL_mem hx)
  have done : ∀ ps, WokeL ⟨c, l, r, []⟩ (pruneL ⟨c, l, r, []⟩ S S.length) ps → MakeR l r c (⟨c, l, r, ps⟩, 0) := fun ps hw => by
   unfold MakeR
   rw [if_neg hlen, if_neg (fun h => h hok)]
   exact ⟨ps, rfl, S, hS, hw⟩
  generalize pruneL ⟨c, l, r, []⟩ S S.length = M at *
  refine Ok.opr rfl (Ok.bind (R := fun e => MapOf SEnt90.fk SEnt90.fv e (VK ⟨c, l, r, []⟩ M M.length)) ?_ fun e he => ?_)
  ·refine Ok.scan M.length (by omega) (fun k y => y.2 = (k : Int) ∧ MapOf SEnt90.fk SEnt90.fv y.1 (VK ⟨c, l, r, []⟩ M k) ∧ ∀ j w, j < k → M[j]? = some w → ∃ v, VK ⟨c, l, r, []⟩ M k (foundK ⟨c, l, r, []⟩ w) v) ⟨rfl, ?_, fun j w h => by omega⟩ (fun k y hy hk => ?_) (fun y hy => ?_)
   ·have e0 : VK ⟨c, l, r, []⟩ M 0 = fun _ _ => False := by
     funext z v
     exact propext ⟨fun ⟨i, _, h, _⟩ => by omega, fun h => h.elim⟩
    rw [e0]; exact MapOf.nil _ _
   ·obtain ⟨hi, hm, hex⟩ := hy
    obtain ⟨y1, y2⟩ := y
    simp only at hi hm
    subst hi
    obtain ⟨x, hx1, hx2⟩ := get_lt hk
    have hxI := hMI x (List.mem_of_getElem? hx2)
    refine Ok.br (fun _ => ?_) (fun hc => by simp at hc; omega)
    refine Ok.chk (inP hk) (Ok.row rfl (by rw [Nat.zero_add]; exact hx1) (Ok.view (okFOUND _ x (hxI _)) fun q hq => Ok.opr rfl ?_))
    have hqk : q = foundK ⟨c, l, r, []⟩ x := hq
    subst hqk
    have hfind := hm.find (x := foundK ⟨c, l, r, []⟩ x) (fun e => foundE_iff) (0 : Int)
    refine Ok.cnd (R := fun b => (b = true → ∀ v, VK ⟨c, l, r, []⟩ M (k + 1) (foundK ⟨c, l, r, []⟩ x) v ↔ v = (k : Int)) ∧ (b = false → (∃ v, VK ⟨c, l, r, []⟩ M k (foundK ⟨c, l, r, []⟩ x) v) ∧ ∀ v, VK ⟨c, l, r, []⟩ M (k + 1) (foundK ⟨c, l, r, []⟩ x) v ↔ VK ⟨c, l, r, []⟩ M k (foundK ⟨c, l, r, []⟩ x) v)) ?_ fun b hb => ?_
    ·refine Ok.br (fun h3 => Ok.done ⟨fun _ => ?_, fun h => by simp at h⟩) (fun h3 => ?_)
     ·simp only [Bool.not_eq_true'] at h3
      have no : ∀ v, ¬ VK ⟨c, l, r, []⟩ M k (foundK ⟨c, l, r, []⟩ x) v := fun v hv => by
       rw [hfind.1.2 ⟨v, hv⟩] at h3; simp at h3
      exact VK.step_new hx2 (fun i y a1 a2 a3 a4 => absurd ⟨i, y, a1, rfl, a2, a3, a4⟩ (no (i : Int))) (fun j w hj hw hf => hf ▸ hex j w hj hw)
     ·simp only [Bool.not_eq_false'] at h3
      obtain ⟨v0, hv0⟩ := hfind.1.1 h3
      have hl0 := hfind.2 v0 hv0
      obtain ⟨i, y, a1, rfl, a2, a3, a4⟩ := hv0
      rw [hl0]
      refine Ok.view (okCOMP _ x (hxI _)) fun r1 hr1 => Ok.chk (inP (by omega)) (Ok.row rfl (by rw [Nat.zero_add, Int.toNat_natCast]; exact a2) (Ok.view (okCOMP _ y (hMI y (List.mem_of_getElem? a2) _)) fun r2 hr2 => Ok.done ?_))
      have e1 : r1 = compK ⟨c, l, r, []⟩ x := hr1
      have e2 : r2 = compK ⟨c, l, r, []⟩ y := hr2
      rw [e1, e2]
      refine ⟨fun h => VK.step_new hx2 (fun i' y' b1 b2 b3 b4 => ?_) (fun j w hj hw hf => hf ▸ hex j w hj hw), fun h => ⟨⟨(i : Int), i, y, a1, rfl, a2, a3, a4⟩, VK.step_keep hx2 a1 a2 a3 a4 (by simpa using h)⟩⟩
      have h5 : compK ⟨c, l, r, []⟩ x < compK ⟨c, l, r, []⟩ y := by simpa using h
      have := a4 i' y' b1 b2 b3
      omega
    ·have other : ∀ z v, z ≠ foundK ⟨c, l, r, []⟩ x → (VK ⟨c, l, r, []⟩ M (k + 1) z v ↔ VK ⟨c, l, r, []⟩ M k z v) := fun z v hz => VK.step_other hx2 hz v
     have ex2 : (∃ v, VK ⟨c, l, r, []⟩ M (k + 1) (foundK ⟨c, l, r, []⟩ x) v) → ∀ j w, j < k + 1 → M[j]? = some w → ∃ v, VK ⟨c, l, r, []⟩ M (k + 1) (foundK ⟨c, l, r, []⟩ w) v := fun hx j w hj hw => by
      by_cases e : foundK ⟨c, l, r, []⟩ w = foundK ⟨c, l, r, []⟩ x
      ·rw [e]; exact hx
      ·have hjk : j < k := by
        rcases Nat.lt_or_ge j k with h | h
        ·exact h
        ·have : j = k := by omega
         subst this
         rw [hx2] at hw; obtain rfl := Option.some.inj hw
         exact absurd rfl e
       obtain ⟨v, hv⟩ := hex j w hjk hw
       exact ⟨v, (other _ v e).2 hv⟩
     refine Ok.br (fun h3 => Ok.opr rfl (Ok.done ⟨wi64_nat hk (by omega), ?_, ex2 ⟨(k : Int), (hb.1 h3 _).2 rfl⟩⟩)) (fun h3 => Ok.done ⟨wi64_nat hk (by omega), ?_, ?_⟩)
     ·have key := hm.put (x := foundK ⟨c, l, r, []⟩ x) (fun e => foundE_iff) (y := SEnt90.mk (foundK ⟨c, l, r, []⟩ x) (k : Int)) rfl
      have e3 : (fun z v => (z = foundK ⟨c, l, r, []⟩ x ∧ v = (k : Int)) ∨ (z ≠ foundK ⟨c, l, r, []⟩ x ∧ VK ⟨c, l, r, []⟩ M k z v)) = VK ⟨c, l, r, []⟩ M (k + 1) := by
       funext z v
       refine propext ?_
       by_cases e : z = foundK ⟨c, l, r, []⟩ x
       ·subst e
        rw [hb.1 h3]
        exact ⟨fun h => h.elim (fun h => h.2) (fun h => absurd rfl h.1), fun h => .inl ⟨rfl, h⟩⟩
       ·rw [other z v e]
        exact ⟨fun h => h.elim (fun h => absurd h.1 e) (fun h => h.2), fun h => .inr ⟨e, h⟩⟩
      rw [← e3]; exact key
     ·have e3 : VK ⟨c, l, r, []⟩ M (k + 1) = VK ⟨c, l, r, []⟩ M k := by
       funext z v
       refine propext ?_
       by_cases e : z = foundK ⟨c, l, r, []⟩ x
       ·subst e; exact (hb.2 h3).2 v
       ·exact other z v e
      show MapOf _ _ y1 _
      rw [e3]; exact hm
     ·obtain ⟨v, hv⟩ := (hb.2 h3).1
      exact ex2 ⟨v, ((hb.2 h3).2 v).2 hv⟩
   ·obtain ⟨hi, hm, hex⟩ := hy
    obtain ⟨y1, y2⟩ := y
    simp only at hi hm
    subst hi
    exact Ok.br (fun hc => by simp at hc) (fun hc => Ok.done hm)
  ·obtain ⟨ps, p1, p2, p3⟩ := wAll_eq (m := M.length) e M rfl (fun e' he' => by
    obtain ⟨i, _, a1, a2, _⟩ := (he.val (SEnt90.fk e') (SEnt90.fv e')).2 ⟨e', he', rfl, rfl⟩
    exact ⟨i, a2, a1⟩)
   refine Ok.gh (Ok.gh (Ok.sub (S := subWait c l r M.length e M) p1 (Ok.gh (Ok.gh (Ok.gh (Ok.done ?_))))))
   rw [List.take_of_length_le (by omega)]
   refine done ps ⟨p2, fun i x hx => ?_⟩
   rw [p3 i x hx]
   have hil := (List.getElem?_eq_some_iff.1 hx).1
   have key : (∃ e', e' ∈ e ∧ e'.fv = (i : Int)) ↔ FirstW ⟨c, l, r, []⟩ M i x := by
    constructor
    ·rintro ⟨e', h1, h2⟩
     obtain ⟨i', y, a1, a2, a3, a4, a5⟩ := (he.val (SEnt90.fk e') (SEnt90.fv e')).2 ⟨e', h1, rfl, rfl⟩
     have : i' = i := by rw [h2] at a2; omega
     subst this
     rw [hx] at a3; obtain rfl := Option.some.inj a3
     exact fun j w hw hf => a5 j w (List.getElem?_eq_some_iff.1 hw).1 hw (hf.trans a4)
    ·intro hw
     obtain ⟨e', h1, h2, h3⟩ := (he.val (foundK ⟨c, l, r, []⟩ x) (i : Int)).1 ⟨i, x, hil, rfl, hx, rfl, fun j w _ hj hf => hw j w hj hf⟩
     exact ⟨e', h1, h3⟩
   simp only [key]
end Go.Proofs.YtioobnkmohikjaaGreatDoor
namespace Go.Proofs.YtioobnkmohikjaaGreatDoor
open Go Go.EV
set_option maxRecDepth 100000
end Go.Proofs.YtioobnkmohikjaaGreatDoor
namespace Go.Proofs.YtioobnkmohikjaaGreatDoor
open Go Go.EV
set_option maxRecDepth 100000
noncomputable def g8_1 (p0 : (List SDraft)) (p1 : Int) : TT ((List SCandidate)) :=
 .gh 1 (.virt 600083 5 8) (.bind 0
 (.lp (fun (l1090 : (List SCandidate) × Int) => Ext.of .normal [(0, .sl false 6 (List.map tySDraft.c p0)), (1, .int .i64 p1), (4, .nilsl), (5, .ref 600083 0 l1090.1.length), (6, .int .i64 l1090.2)] [] [BT.of 600083 tySCandidate 8 l1090.1 true] (by rfl))
  (fun l1090 =>
   .cnd 3 [15]
   (.br 3006 (decide (l1090.2 < (mlen tySDraft p0)))
    (.done (decide (l1090.2 < p1)))
    (.done false))
   (fun (c1091 : Bool) => [.bool c1091]) fun c1091 =>
   .br 0 c1091
   (.row 5004 tySDraft p0 l1090.2.toNat (decide (0 ≤ l1090.2)) fun x1092 =>
    .call 5006 (s29 x1092) [] [] fun r1093 =>
    .app 5008 tySCandidate l1090.1 [r1093] 88 false (by intro h; cases h) (.gh 0 (.drop [600083]) (.gh 0 (.ren 25 600083) (.done (.inl ((l1090.1 ++ [r1093]), (wi64 (l1090.2 + 1))))))))
   (.done (.inr l1090.1)))
  ([], 0))
 (fun (e1094 : (List SCandidate)) => Ext.of (.exit 0) [(4, .nilsl), (5, .ref 600083 0 e1094.length)] [] [BT.of 600083 tySCandidate 8 e1094 true] (by rfl))
 (fun e1094 =>
  .done e1094))
theorem k8_1 (p0 : (List SDraft)) (p1 : Int) : FnB Tryz.prog GG [0, 1, 4, 5, 6, 15] Tryz.f8 [.sl false 6 (List.map tySDraft.c p0), .int .i64 p1] (Ext.of .normal (argTs [.sl false 6 (List.map tySDraft.c p0), .int .i64 p1]) [] [] (by rfl)) (g8_1 p0 p1) (fun (r : (List SCandidate)) => .ref 600083 0 r.length) (fun (r : (List SCandidate)) => Ext.of .normal [] [] [BT.of 600083 tySCandidate 8 r true] (by rfl)) := by unfold FnB; kernel_rfl
noncomputable def s8_1 (p0 : (List SDraft)) (p1 : Int) : EV.Spec Tryz.prog GG ((List SCandidate)) := .ofFnB 8 [600083] mixed Tryz.func8 rfl (fun _ => rfl) (k8_1 p0 p1)
noncomputable def g3 (p0 : SDraft1) (p1 : SBend) (p2 : Int) : TT (Bool) :=
 .call 1001 s7 [] [] fun r1085 =>
 .br 0 (!r1085)
 (.done false)
 (.call 3003 (s8_1 p0.fLocals 14) [] [(600083, 500084)] fun r1095 =>
  .call 3006 (s8_1 p0.fRemotes 14) [] [(600083, 500085)] fun r1096 =>
  .call 4003 (s8_1 p0.fLocals 14) [] [(600083, 500086)] fun r1097 =>
  .bind 0
  (.br 0 (decide ((0 : Int) < (r1097.length : Int)))
   (.chk 6006 (!((r1097.length : Int) == 0)) (.chk 6013 (!((r1097.length : Int) == 0)) (.chk 6014 (decide (0 ≤ (Int.tmod (wi64 p2) (r1097.length : Int))) && decide ((Int.tmod (wi64 p2) (r1097.length : Int)) < (r1097.length : Int))) (.row 6015 tySCandidate r1097 (0 + (Int.tmod (wi64 p2) (r1097.length : Int)).toNat) true fun x1098 =>
    .call 6016 (s9 p1 x1098) [] [] fun r1099 =>
    .chk 6017 (decide (0 ≤ (Int.tmod (wi64 p2) (r1097.length : Int))) && decide ((Int.tmod (wi64 p2) (r1097.length : Int)) < (r1097.length : Int))) (.row 6018 tySCandidate r1097 (0 + (Int.tmod (wi64 p2) (r1097.length : Int)).toNat) true fun x1100 =>
    .re 6018 (ReW.put 500086 8 tySCandidate r1097 (0 + (Int.tmod (wi64 p2) (r1097.length : Int)).toNat) r1099) (.gh 0 (.len 500086 ((r1097.set (0 + (Int.tmod (wi64 p2) (r1097.length : Int)).toNat) r1099).length) [r1097.length] (by simp)) (.done (r1097.set (0 + (Int.tmod (wi64 p2) (r1097.length : Int)).toNat) r1099))))))))
   (.done r1097))
  (fun (e1101 : (List SCandidate)) => Ext.of .normal [(3, .ptr 3 0 0), (6, .bool false), (7, .ref 500084 0 r1095.length), (8, .ref 500085 0 r1096.length), (9, .ref 500086 0 e1101.length)] [(3, ⟨4, true, [[.sl false 6 (List.map tySDraft.c p0.fLocals), .sl false 6 (List.map tySDraft.c p0.fRemotes), .bool p0.fControlling, .sl false 2 (List.map tyS2Uint8.c p0.fSet)]]⟩)] [BT.of 500084 tySCandidate 8 r1095 true, BT.of 500085 tySCandidate 8 r1096 true, BT.of 500086 tySCandidate 8 e1101 true] (by rfl))
  (fun e1101 =>
   .gh 9 (.share (VwW.of 500086 tySCandidate e1101) 0) (.call 7005 (s10 e1101) [] [] fun r1102 =>
   .call 7010 (s10 e1101) [] [] fun r1103 =>
   .tt (.gh 12 (.share (VwW.of 500084 tySCandidate r1095) 2) (.gh 12 (.share (VwW.of 500085 tySCandidate r1096) 4) (.call 10007 (s11 r1095 r1096 p0.fControlling) [] [] fun r1104 =>
   .call 11007 (s12 r1095 r1096 p0.fControlling) [] [] fun r1105 =>
   .cnd 12 [90]
   (.br 12005 (r1104.2 != r1105.2)
    (.done true)
    (.call 12007 (s13 r1104.1 r1105.1) [] [] fun r1106 =>
     .done (!r1106)))
   (fun (c1107 : Bool) => [.bool c1107]) fun c1107 =>
   .br 0 c1107
   (.done false)
   (.tt (.gh 11 (.drop [11]) (.gh 12 (.drop [12]) (.call 10007 (s11 r1102 r1096 p0.fControlling) [] [] fun r1108 =>
    .gh 13 (.drop [14]) (.call 11007 (s12 r1102 r1096 p0.fControlling) [] [] fun r1109 =>
    .cnd 12 [90]
    (.br 12005 (r1108.2 != r1109.2)
     (.done true)
     (.call 12007 (s13 r1108.1 r1109.1) [] [] fun r1110 =>
      .done (!r1110)))
    (fun (c1111 : Bool) => [.bool c1111]) fun c1111 =>
    .br 0 c1111
    (.done false)
    (.tt (.gh 11 (.drop [11]) (.gh 12 (.drop [12]) (.call 10007 (s11 r1096 r1103 p0.fControlling) [] [] fun r1112 =>
     .gh 13 (.drop [14]) (.call 11007 (s12 r1096 r1103 p0.fControlling) [] [] fun r1113 =>
     .cnd 12 [90]
     (.br 12005 (r1112.2 != r1113.2)
      (.done true)
      (.call 12007 (s13 r1112.1 r1113.1) [] [] fun r1114 =>
       .done (!r1114)))
     (fun (c1115 : Bool) => [.bool c1115]) fun c1115 =>
     .br 0 c1115
     (.done false)
     (.ff (.done true))))))))))))))))))
theorem k3 (p0 : SDraft1) (p1 : SBend) (p2 : Int) : FnD Tryz.prog GG [0, 1, 2, 3, 4, 6, 7, 8, 9, 11, 12, 13, 14, 15, 17, 29, 58, 59, 60, 90] Tryz.f3 [.agg [.sl false 6 (List.map tySDraft.c p0.fLocals), .sl false 6 (List.map tySDraft.c p0.fRemotes), .bool p0.fControlling, .sl false 2 (List.map tyS2Uint8.c p0.fSet)], .agg [.int .u8 p1.fWhat, .int .i64 p1.fN, .str p1.fS, .str p1.fA.fHost, .int .i64 p1.fA.fPort], .int .u8 p2] (g3 p0 p1 p2) (fun r => .bool r) := by unfold FnD; kernel_rfl
noncomputable def s3 (p0 : SDraft1) (p1 : SBend) (p2 : Int) : EV.Spec Tryz.prog GG (Bool) := .ofFn 3 mixed Tryz.func3 (k3 p0 p1 p2)
end Go.Proofs.YtioobnkmohikjaaGreatDoor
namespace Go.Proofs.YtioobnkmohikjaaGreatDoor
open Go Go.EV
set_option maxRecDepth 100000
open Classical
theorem MakeR.few {l r : List SCandidate} {c : Bool} {e : SList × Int} (h : MakeR l r c e) : Few 12 12 36 e.1 := by
 unfold MakeR at h
 split at h
 ·subst h; exact ⟨by simp, by simp, by simp⟩
 ·rename_i h1
  split at h
  ·subst h; exact ⟨by simp, by simp, by simp⟩
  ·obtain ⟨ps, rfl, S, _, hw⟩ := h
   refine ⟨by show l.length ≤ 12; omega, by show r.length ≤ 12; omega, ?_⟩
   show ps.length ≤ 36
   rw [hw.1]; exact pruneL_le _ _ _
theorem segM (l r : List SCandidate) (c : Bool) (p q : SList × Int) (hp : MakeR l r c p) (hq : MakeR l r c q) :
  Ok (.br 12005 (p.2 != q.2) (.done true) (.call 12007 (s13 p.1 q.1) [] [] fun r711 => .done (!r711)) : TT Bool) (fun c => c = false) := by
 obtain rfl := hp.one hq
 have hf := hp.few
 refine Ok.brF (by simp) (Ok.call (okSAME _ ?_ ?_ ?_) fun r hr => Ok.done (by rw [hr]; rfl))
 ·have := hf.1; omega
 ·have := hf.2.1; omega
 ·have := hf.2.2; omega
theorem okRCANDS1 (l : List SDraft) (n : Nat) (hn : n ≤ 1000) : SOk (s8_1 l (n : Int)) (fun r => r.length ≤ n) := by
 show Ok (g8_1 l (n : Int)) _
 unfold g8_1
 simp only [mlen_eq]
 refine Ok.gh (Ok.bind (R := fun r => r.length ≤ n) ?_ fun e he => Ok.done he)
 refine Ok.scan n (by omega) (fun k y => y.2 = (k : Int) ∧ y.1.length = k) ⟨rfl, rfl⟩ (fun k y hy hk => ?_) (fun y hy => ?_)
 ·obtain ⟨hi, hs⟩ := hy
  obtain ⟨y1, y2⟩ := y
  simp only at hi hs
  subst hi
  refine Ok.cnd (R := fun c => c = true → k < l.length) (Ok.br (fun h1 => Ok.done fun _ => by simpa using h1) (fun h1 => Ok.done fun h => by simp at h)) fun c hc => Ok.br (fun h => ?_) (fun h => Ok.done (by show y1.length ≤ n; omega))
  obtain ⟨x, hx1, hx2⟩ := get_lt (hc h)
  refine Ok.row (by simp) hx1 (Ok.call (okDCAND x) fun r _ => Ok.app (by simp [hs]; omega) (Ok.gh (Ok.gh (Ok.done ⟨wi64_nat hk (by omega), by simp [hs]⟩))))
 ·obtain ⟨hi, hs⟩ := hy
  obtain ⟨y1, y2⟩ := y
  simp only at hi hs
  subst hi
  refine Ok.cnd (R := fun c => c = false) (Ok.br (fun h1 => Ok.done (by simp)) (fun h1 => Ok.done rfl)) fun c hc => ?_
  subst hc
  exact Ok.brF rfl (Ok.done (by show y1.length ≤ n; omega))
theorem gLMAKES (d : SDraft1) (b : SBend) (a : Int) (ha : 0 ≤ a ∧ a ≤ 255) : Ok (g3 d b a) (fun r => r = true) := by
 unfold g3
 refine Ok.call okWAKES fun r hr => Ok.brF (by rw [hr]; rfl) (Ok.call (okRCANDS1 d.fLocals 14 (by omega)) fun x hx => Ok.call (okRCANDS1 d.fRemotes 14 (by omega)) fun y hy => Ok.call (okRCANDS1 d.fLocals 14 (by omega)) fun z hz => ?_)
 refine Ok.bind (R := fun e => e.length ≤ 14) ?_ fun e he => ?_
 ·refine Ok.br (fun h => ?_) (fun h => Ok.done hz)
  have h0 : 0 < z.length := by have h7 : (0 : Int) < (z.length : Int) := of_decide_eq_true h; omega
  obtain ⟨k, hk, e⟩ := modAt ha.1 ha.2 h0
  obtain ⟨w, hw1, hw2⟩ := get_lt hk
  have hz2 : (!((z.length : Int) == 0)) = true := by simp; intro h; rw [h] at h0; simp at h0
  have hc2 : 0 ≤ Int.tmod (wi64 a) (z.length : Int) ∧ Int.tmod (wi64 a) (z.length : Int) < (z.length : Int) := by rw [e]; omega
  have hw3 : z[0 + (Int.tmod (wi64 a) (z.length : Int)).toNat]? = some w := by rw [e, Nat.zero_add]; exact hw1
  exact Ok.chk hz2 (Ok.chk hz2 (Ok.chk (by simp only [Bool.and_eq_true, decide_eq_true_eq]; exact hc2) (Ok.row rfl hw3 (Ok.call (okBENDC _ _) fun q _ => Ok.chk (by simp only [Bool.and_eq_true, decide_eq_true_eq]; exact hc2) (Ok.row rfl hw3 (Ok.re (Ok.gh (Ok.done (by rw [List.length_set]; exact hz)))))))))
 ·refine Ok.gh (Ok.call (okCUT _) fun p hp => Ok.call (okCUT _) fun q hq => ?_)
  iterate 3
   repeat (first | with_reducible refine Ok.gh ?_ | with_reducible refine Ok.tt ?_)
   refine Ok.call (okMAKE _ _ _) fun r5 h5 => ?_
   repeat (with_reducible refine Ok.gh ?_)
   refine Ok.call (okRMAKEm _ _ _) fun r6 h6 => Ok.cnd (R := fun c => c = false) (segM _ _ _ _ _ h5 h6) fun c hc => Ok.brF hc ?_
  repeat (first | with_reducible refine Ok.gh ?_ | with_reducible refine Ok.tt ?_)
  exact Ok.ff (Ok.done rfl)
theorem okLMAKES (d : SDraft1) (b : SBend) (a : Int) (ha : 0 ≤ a ∧ a ≤ 255) : SOk (s3 d b a) (fun r => r = true) := by
 unfold s3
 exact SOk.fn (gLMAKES d b a ha)
end Go.Proofs.YtioobnkmohikjaaGreatDoor
namespace Go.Proofs.YtioobnkmohikjaaGreatDoor
open Go Go.EV Go.ChangeShapes
set_option maxRecDepth 100000
theorem own : ownKnob Tryz.prog.godebug = none := by kernel_rfl
abbrev laid1 : List (String × DataW Unit) := [("math/bits.deBruijn32tab", Rows.laid_math_bits_deBruijn32tab), ("math/bits.deBruijn64tab", Rows.laid_math_bits_deBruijn64tab), ("internal/strconv.uint64pow10", Rows.laid_internal_strconv_uint64pow10), ("unicode/utf8.acceptRanges", Rows.laid_unicode_utf8_acceptRanges), ("unicode/utf8.first", Rows.laid_unicode_utf8_first)]
theorem shaped1 (os : Os) : (World.laidAll Tryz.prog os laid1).Shaped Tryz.prog := World.shaped_of_ZipB (by kernel_rfl) (by kernel_rfl)
theorem laid_met (os : Os) (args : Array Value) : laidMetH Tryz.prog laid1 ((World.laidAll Tryz.prog os laid1).forCall (fun _ _ => 0) ⟨#[], args, []⟩).memory := by
 rw [MakeChecks.laidMetH_plain _ _ _ (by kernel_rfl)]
 exact laidMet_laidAll _ (by kernel_rfl) (by kernel_rfl)
def gh0 (w : World) : Gh := { loc := fun _ => none, own := fun _ => none, lim := fun B => match w.heap[B]? with | some (.cells cs _ _) => cs.size | _ => 0 }
theorem gh0_lim {w : World} {B o : Nat} {v : Value} (h : cellAt w B o = some v) : o < (gh0 w).lim B := by
 unfold cellAt World.cell? at h
 simp only [gh0]
 cases hb : w.heap[B]? with
 | none => simp [hb] at h
 | some x =>
  cases x with
  | cells cs t fz =>
   simp only [hb] at h
   simp only
   exact (Array.getElem?_eq_some_iff.1 (by simpa using h)).1
  | _ => simp [hb] at h
theorem globOk {w : World} (_ : laidMetH Tryz.prog laid1 w) : GlobOk GG (gh0 w) w := fun g cells hg => by
 unfold GG at hg
 cases hg
theorem keptBut_of_grow {w w' : World} {γ' : Gh} (h : Grow (gh0 w) w γ' w') (may : MemPlace → Prop) : w.keptBut w' may := by
 refine ⟨h.os, h.output, fun i hi => ?_⟩
 have := (h.free i hi rfl).1
 rw [this]
 cases w.heap[i]? with
 | none => trivial
 | some x =>
  cases x with
  | cells c t fr => exact ⟨rfl, rfl, rfl, fun _ _ => rfl⟩
  | map es clock => exact .inr ⟨rfl, rfl⟩
  | _ => rfl
end Go.Proofs.YtioobnkmohikjaaGreatDoor
namespace Go.Proofs.YtioobnkmohikjaaGreatDoor
open Go Go.EV Go.ChangeShapes
set_option maxRecDepth 100000
def CellsD (W : World) (l : List V) (cs : List Value) : Prop := cs.length = l.length ∧ ∀ (i : Nat) (c : V) (v : Value), l[i]? = some c → cs[i]? = some v → RepD (gh0 W).lim W c v
theorem CellsD.one {W : World} {c : V} {v : Value} (h : RepD (gh0 W).lim W c v) : CellsD W [c] [v] := ⟨rfl, fun i c' v' hc hv => by
 cases i with
 | zero => simp at hc hv; subst hc; subst hv; exact h
 | succ i => simp at hc⟩
theorem CellsD.append {W : World} {l m : List V} {cs ds : List Value} (h : CellsD W l cs) (k : CellsD W m ds) : CellsD W (l ++ m) (cs ++ ds) :=
  ⟨by simp [h.1, k.1], fun i c v hc hv => by
    by_cases hi : i < l.length
    · rw [List.getElem?_append_left hi] at hc
      rw [List.getElem?_append_left (by rw [h.1]; exact hi)] at hv
      exact h.2 i c v hc hv
    · rw [List.getElem?_append_right (by omega)] at hc
      rw [List.getElem?_append_right (by rw [h.1]; omega), h.1] at hv
      exact k.2 _ c v hc hv⟩
def Rd (t : TypeId) {α : Type} (c : α → List V) (I : α → Prop) : Prop :=
 ∀ (H : Type) (enc : TypeId × Value → H) (W : World) (fuel : Nat) (cs : List Value) (x : DataW H × List MemPlace), DataW.trod enc Tryz.prog W 0 (fun _ => true) true fuel t cs = some x → ∃ a : α, I a ∧ CellsD W (c a) cs
theorem rdInt {t : TypeId} {k : IntKind} (ht : Tryz.prog.underlying t = some (.int k)) : Rd t (fun n : Int => [.int k n]) (fun n => (Lit.int k n).wf = true) := fun H enc W fuel cs x h => by
 obtain ⟨n, rfl, _, hw⟩ := DataW.trod_int ht h
 exact ⟨n, hw, .one (.int k n)⟩
theorem rdBool {t : TypeId} (ht : Tryz.prog.underlying t = some .bool) : Rd t (fun b : Bool => [.bool b]) (fun _ => True) := fun H enc W fuel cs x h => by
 cases fuel with
 | zero => simp [DataW.trod] at h
 | succ n =>
  unfold DataW.trod at h
  rw [ht] at h
  split at h <;> first | exact ⟨_, trivial, .one (.bool _)⟩ | simp_all
theorem rdStr {t : TypeId} (ht : Tryz.prog.underlying t = some .string) : Rd t (fun s : ByteArray => [.str s]) (fun _ => True) := fun H enc W fuel cs x h => by
 cases fuel with
 | zero => simp [DataW.trod] at h
 | succ n =>
  unfold DataW.trod at h
  rw [ht] at h
  split at h <;> simp_all
  exact ⟨_, .one (.str _)⟩
theorem fld {H : Type} {enc : TypeId × Value → H} {W : World} {n : Nat} {fs : Array Field} {cs : List Value} {xs : List (DataW H × List MemPlace)} {t o z : Nat} {α : Type} {c : α → List V} {I : α → Prop}
  (hel : ∀ (i : Nat) (f : Field), fs[i]? = some f → DataW.trod enc Tryz.prog W 0 (fun _ => true) true n f.type ((cs.drop f.offset).take (Tryz.prog.cellsOf f.type)) = xs[i]?) (hn : xs.length = fs.size) (i : Nat)
  (hf : (fs[i]?).map (fun f => (f.type, f.offset)) = some (t, o)) (hz : Tryz.prog.cellsOf t = z) (r : Rd t c I) : ∃ a : α, I a ∧ CellsD W (c a) ((cs.drop o).take z) := by
 obtain ⟨f, h1, h2⟩ := Option.map_eq_some_iff.1 hf
 simp only [Prod.mk.injEq] at h2
 obtain ⟨rfl, rfl⟩ := h2
 have hi : i < xs.length := by rw [hn]; exact (Array.getElem?_eq_some_iff.1 h1).1
 have := hel i f h1
 rw [List.getElem?_eq_getElem hi, hz] at this
 exact r H enc W n _ _ this
theorem fldA {H : Type} {enc : TypeId × Value → H} {W : World} {n m : Nat} {cs : List Value} {xs : List (DataW H × List MemPlace)} {t z : Nat} {α : Type} {c : α → List V} {I : α → Prop}
  (hel : ∀ (i : Nat), i < m → DataW.trod enc Tryz.prog W 0 (fun _ => true) true n t ((cs.drop (i * Tryz.prog.cellsOf t)).take (Tryz.prog.cellsOf t)) = xs[i]?) (hn : xs.length = m) (i : Nat) (hi : i < m)
  (hz : Tryz.prog.cellsOf t = z) (r : Rd t c I) : ∃ a : α, I a ∧ CellsD W (c a) ((cs.drop (i * z)).take z) := by
 have := hel i hi
 rw [List.getElem?_eq_getElem (by omega), hz] at this
 exact r H enc W n _ _ this
theorem cells_at {W : World} {a : Addr} {z : Nat} {ci : List Value} (h : W.cells? 0 a z = some ci) : ci.length = z ∧ ∀ r, r < z → W.cell? (a.add r) = ci[r]? := by
 unfold World.cells? at h
 rw [if_pos (Nat.zero_le _)] at h
 exact ⟨by simpa using mapM_some_length h, fun r hr => mapM_some_get h r r (by simp [hr])⟩
theorem spot_of {W : World} {a : Addr} {z q : Nat} {ci : List Value} (hz : 0 < z) (h : W.cells? 0 (a.add (q * z)) z = some ci) (hq : q = 0) : a.spot = none := by
 obtain ⟨h1, h2⟩ := cells_at h
 have h3 := h2 0 hz
 have e : (a.add (q * z)).add 0 = a := by subst hq; simp [Addr.add]
 rw [e, List.getElem?_eq_getElem (by omega)] at h3
 exact World.cell?_spot h3
theorem rdSlice {t e z : Nat} {α : Type} {ty : Ty α} {I : α → Prop} (ht : Tryz.prog.underlying t = some (.slice e)) (hz : Tryz.prog.cellsOf e = z) (hpos : 0 < z) (hlen : ∀ a, (ty.c a).length = z) (r : Rd e ty.c I) :
  Rd t (fun l : List α => [.sl false z (l.map ty.c)]) (fun l => ∀ a, a ∈ l → I a) := fun H enc W fuel cs x h => by
 rcases DataW.trod_slice ht h with ⟨rfl, -⟩ | ⟨a, len, cap, elems, rest, n, rfl, rfl, -, -, hlc, -, hel, hE, hR, -⟩
 ·exact ⟨[], by simp, .one (.slNil false z)⟩
 rw [hz] at hE hR
 have build : ∀ m, m ≤ len → ∃ l : List α, l.length = m ∧ (∀ a, a ∈ l → I a) ∧ ∀ i x, l[i]? = some x → ∃ ci, W.cells? 0 (a.add (i * z)) z = some ci ∧ CellsD W (ty.c x) ci := by
  intro m
  induction m with
  | zero => intro _; exact ⟨[], rfl, by simp, by simp⟩
  | succ m ih =>
   intro hm
   obtain ⟨l, l1, l2, l3⟩ := ih (by omega)
   have := hE m (by omega)
   rw [List.getElem?_eq_getElem (by omega)] at this
   obtain ⟨ci, hci, htr⟩ := Option.bind_eq_some_iff.1 this
   obtain ⟨y, hy, hcd⟩ := r H enc W n ci _ htr
   refine ⟨l ++ [y], by simp [l1], fun b hb => ?_, fun i x hx => ?_⟩
   ·rcases List.mem_append.1 hb with hb | hb
    ·exact l2 b hb
    ·rw [List.mem_singleton.1 hb]; exact hy
   ·by_cases hi : i < l.length
    ·rw [List.getElem?_append_left hi] at hx; exact l3 i x hx
    ·rw [List.getElem?_append_right (by omega)] at hx
     have hi2 : i - l.length = 0 := by
      have := (List.getElem?_eq_some_iff.1 hx).1
      simp at this; omega
     rw [hi2] at hx; simp at hx; subst hx
     have : i = m := by omega
     subst this
     exact ⟨ci, hci, hcd⟩
 obtain ⟨l, hl, hI, hc⟩ := build len (Nat.le_refl _)
 refine ⟨l, hI, .one ?_⟩
 by_cases hcap : cap = 0
 ·have : l = [] := List.length_eq_zero_iff.1 (by omega)
  subst this
  have h0 : len = 0 := by simpa using hl.symm
  subst h0; subst hcap
  exact .slNil false z (some a)
 have hspot : a.spot = none := by
  by_cases h0 : len = 0
  ·obtain ⟨r1, r2⟩ := hR rfl
   have := r2 0 (by omega)
   rw [List.getElem?_eq_getElem (by omega)] at this
   obtain ⟨ci, hci, _⟩ := Option.bind_eq_some_iff.1 this
   exact spot_of hpos (q := len + 0) hci (by omega)
  ·have := hE 0 (by omega)
   rw [List.getElem?_eq_getElem (by omega)] at this
   obtain ⟨ci, hci, _⟩ := Option.bind_eq_some_iff.1 this
   exact spot_of hpos hci rfl
 obtain ⟨B, o, sp⟩ := a
 simp only at hspot
 subst hspot
 have hsz : ∀ q, q ∈ l.map ty.c → q.length = z := fun q hq => by
  obtain ⟨y, _, rfl⟩ := List.mem_map.1 hq; exact hlen y
 have key : ∀ (i : Nat) (c : V), (l.map ty.c).flatten[i]? = some c → ∃ v, cellAt W B (o + i) = some v ∧ RepD (gh0 W).lim W c v := fun i c hci => by
  have e1 : i = (i / z) * z + i % z := by rw [Nat.mul_comm]; exact (Nat.div_add_mod i z).symm
  have hm := Nat.mod_lt i hpos
  rw [e1, flatten_get _ hsz _ _ hm, List.getElem?_map] at hci
  cases hx : l[i / z]? with
  | none => rw [hx] at hci; simp at hci
  | some y =>
   rw [hx] at hci
   simp only [Option.map_some, Option.bind_some] at hci
   obtain ⟨ci, k1, k2⟩ := hc _ _ hx
   obtain ⟨k3, k4⟩ := cells_at k1
   have k5 := k4 (i % z) hm
   have hv : ci[i % z]? = some (ci[i % z]'(by omega)) := List.getElem?_eq_getElem _
   refine ⟨_, ?_, k2.2 _ _ _ hci hv⟩
   rw [hv] at k5
   rw [Addr.add_eq, Addr.add_eq] at k5
   unfold cellAt
   rw [show o + i = o + (i / z) * z + i % z by omega]
   exact k5
 have fin := RepD.sl (lim := (gh0 W).lim) (w := W) false z (l.map ty.c) B o cap (fun i => (cellAt W B (o + i)).getD default) (by simp; omega) hsz
  (fun i c hci => by obtain ⟨v, v1, v2⟩ := key i c hci; rw [v1]; exact ⟨gh0_lim v1, rfl⟩) (fun i c hci => by obtain ⟨v, v1, v2⟩ := key i c hci; rw [v1]; exact v2)
 rw [List.length_map, hl] at fin
 exact fin
noncomputable def fsOf (t : TypeId) : Array Field := match Tryz.prog.underlying t with | some (.struct f) => f | _ => #[]
theorem open_agg {H : Type} {enc : TypeId × Value → H} {W : World} {t : TypeId} {α : Type} {c : α → List V} {I : α → Prop} (r : Rd t c I) {v : Value} {d : DataW H} {p : List MemPlace} (hv : ∃ cs, v = .agg cs)
  (h : DataW.Trod enc Tryz.prog W 0 (fun _ => true) true t v d p) : ∃ a : α, I a ∧ Rep (gh0 W) W (ofL []) uTop (.agg (c a)) v := by
 obtain ⟨cs, rfl⟩ := hv
 obtain ⟨fuel, hf⟩ := h
 obtain ⟨a, hi, hc⟩ := r H enc W fuel _ _ hf
 refine ⟨a, hi, ?_⟩
 have := Rep.agg (γ := gh0 W) (w := W) (bs := ofL []) (u := uTop) (c a) cs.toList hc.1 (fun i x y hx hy => .data (hc.2 i x y hx hy))
 simpa using this
theorem agg_struct {W : World} {base : Nat} {t : TypeId} {v : Value} {fs : Array Field} (ht : Tryz.prog.underlying t = some (.struct fs)) (h : Value.okWide Tryz.prog W .any base t v) : ∃ cs, v = .agg cs := by
 simp only [Value.okWide, ht] at h
 obtain ⟨cs, h1, _⟩ := h
 exact ⟨cs, h1⟩
theorem laidOut : laidOutB Tryz.prog = true := by kernel_rfl
theorem below_of_grow {w w' : World} {γ' : Gh} (h : Grow (gh0 w) w γ' w') : RowKit.Below w.heap.size w w' :=
 ⟨h.os, h.tape, h.output, h.size, fun k hk => (h.free k hk rfl).1⟩
theorem open_one {H : Type} {enc : TypeId × Value → H} {W : World} {t : TypeId} {α : Type} {c : α → List V} {I : α → Prop} (r : Rd t c I) {v : Value} {d : DataW H} {p : List MemPlace} (hv : v.cells = #[v])
  (h : DataW.Trod enc Tryz.prog W 0 (fun _ => true) true t v d p) : ∃ a : α, I a ∧ ∀ x, c a = [x] → Rep (gh0 W) W (ofL []) uTop x v := by
 obtain ⟨fuel, hf⟩ := h
 rw [hv] at hf
 obtain ⟨a, hi, hc⟩ := r H enc W fuel _ _ hf
 refine ⟨a, hi, fun x hx => ?_⟩
 rw [hx] at hc
 exact .data (hc.2 0 x v rfl rfl)
theorem int_one {W : World} {base : Nat} {t : TypeId} {k : IntKind} {v : Value} (ht : Tryz.prog.underlying t = some (.int k)) (h : Value.okWide Tryz.prog W .any base t v) : v.cells = #[v] := by
 obtain ⟨n, rfl⟩ := WideShapes.okWide_int ht h
 rfl
section
variable {H : Type} {enc : TypeId × Value → H} {P : Program} {w : World} {base : Nat} {spare : Nat → Bool} {held : Bool}
end
theorem w8_iff {n : Int} (h : (Lit.int .u8 n).wf = true) : 0 ≤ n ∧ n ≤ 255 := by
 simp [Lit.wf, IntKind.min, IntKind.max, IntKind.signed, IntKind.bits] at h; omega
end Go.Proofs.YtioobnkmohikjaaGreatDoor
namespace Go.Proofs.YtioobnkmohikjaaGreatDoor
open Go Go.EV
set_option maxRecDepth 100000
theorem u25 : Tryz.prog.underlying 25 = some (.struct (fsOf 25)) := by kernel_rfl
theorem z25 : Tryz.prog.cellsOf 25 = 4 := by kernel_rfl
theorem u22 : Tryz.prog.underlying 22 = some (.slice 76) := by kernel_rfl
theorem z22 : Tryz.prog.cellsOf 22 = 1 := by kernel_rfl
theorem u76 : Tryz.prog.underlying 76 = some (.struct (fsOf 76)) := by kernel_rfl
theorem z76 : Tryz.prog.cellsOf 76 = 6 := by kernel_rfl
theorem u5 : Tryz.prog.underlying 5 = some (.int .u8) := by kernel_rfl
theorem z5 : Tryz.prog.cellsOf 5 = 1 := by kernel_rfl
theorem u74 : Tryz.prog.underlying 74 = some (.int .u16) := by kernel_rfl
theorem z74 : Tryz.prog.cellsOf 74 = 1 := by kernel_rfl
theorem ln6 {α : Type} {l : List α} (h : l.length = 6) : ∃ v0 v1 v2 v3 v4 v5, l = [v0, v1, v2, v3, v4, v5] := by match l, h with | [v0, v1, v2, v3, v4, v5], _ => exact ⟨v0, v1, v2, v3, v4, v5, rfl⟩
def c76 (x : SDraft) : List V := [.int .u8 x.fKind, .int .u8 x.fComponent, .int .u8 x.fAddr, .int .u8 x.fBase, .int .u8 x.fServer, .int .u16 x.fPreference]
def Ok76 (x : SDraft) : Prop := (Lit.int .u8 x.fKind).wf = true ∧ (Lit.int .u8 x.fComponent).wf = true ∧ (Lit.int .u8 x.fAddr).wf = true ∧ (Lit.int .u8 x.fBase).wf = true ∧ (Lit.int .u8 x.fServer).wf = true ∧ (Lit.int .u16 x.fPreference).wf = true
theorem rd76 : Rd 76 c76 Ok76 := fun H enc W fuel cs x h => by
 obtain ⟨xs, m, rfl, -, hl, hn, hel⟩ := DataW.trod_struct u76 h
 rw [z76] at hl
 obtain ⟨v0, v1, v2, v3, v4, v5, rfl⟩ := ln6 hl
 obtain ⟨a0, i0, k0⟩ := fld hel hn 0 (t := 5) (o := 0) (by kernel_rfl) z5 (rdInt u5)
 obtain ⟨a1, i1, k1⟩ := fld hel hn 1 (t := 5) (o := 1) (by kernel_rfl) z5 (rdInt u5)
 obtain ⟨a2, i2, k2⟩ := fld hel hn 2 (t := 5) (o := 2) (by kernel_rfl) z5 (rdInt u5)
 obtain ⟨a3, i3, k3⟩ := fld hel hn 3 (t := 5) (o := 3) (by kernel_rfl) z5 (rdInt u5)
 obtain ⟨a4, i4, k4⟩ := fld hel hn 4 (t := 5) (o := 4) (by kernel_rfl) z5 (rdInt u5)
 obtain ⟨a5, i5, k5⟩ := fld hel hn 5 (t := 74) (o := 5) (by kernel_rfl) z74 (rdInt u74)
 exact ⟨⟨a0, a1, a2, a3, a4, a5⟩, ⟨i0, i1, i2, i3, i4, i5⟩, k0.append (k1.append (k2.append (k3.append (k4.append k5))))⟩
def Ok22 (l : List SDraft) : Prop := ∀ a, a ∈ l → Ok76 a
theorem rd22 : Rd 22 (fun l : List SDraft => [.sl false 6 (l.map tySDraft.c)]) Ok22 := rdSlice (ty := tySDraft) u22 z76 (by omega) (fun _ => rfl) rd76
theorem u4 : Tryz.prog.underlying 4 = some .bool := by kernel_rfl
theorem z4 : Tryz.prog.cellsOf 4 = 1 := by kernel_rfl
theorem u23 : Tryz.prog.underlying 23 = some (.slice 60) := by kernel_rfl
theorem z23 : Tryz.prog.cellsOf 23 = 1 := by kernel_rfl
theorem u60 : Tryz.prog.underlying 60 = some (.array 2 5) := by kernel_rfl
theorem z60 : Tryz.prog.cellsOf 60 = 2 := by kernel_rfl
theorem ln2 {α : Type} {l : List α} (h : l.length = 2) : ∃ v0 v1, l = [v0, v1] := by match l, h with | [v0, v1], _ => exact ⟨v0, v1, rfl⟩
def c60 (x : S2Uint8) : List V := [.int .u8 x.a0, .int .u8 x.a1]
def Ok60 (x : S2Uint8) : Prop := (Lit.int .u8 x.a0).wf = true ∧ (Lit.int .u8 x.a1).wf = true
theorem rd60 : Rd 60 c60 Ok60 := fun H enc W fuel cs x h => by
 obtain ⟨xs, m, rfl, -, hl, hn, hel⟩ := DataW.trod_array u60 h
 rw [z60] at hl
 obtain ⟨v0, v1, rfl⟩ := ln2 hl
 obtain ⟨a0, i0, k0⟩ := fldA hel hn 0 (by omega) z5 (rdInt u5)
 obtain ⟨a1, i1, k1⟩ := fldA hel hn 1 (by omega) z5 (rdInt u5)
 exact ⟨⟨a0, a1⟩, ⟨i0, i1⟩, k0.append k1⟩
def Ok23 (l : List S2Uint8) : Prop := ∀ a, a ∈ l → Ok60 a
theorem rd23 : Rd 23 (fun l : List S2Uint8 => [.sl false 2 (l.map tyS2Uint8.c)]) Ok23 := rdSlice (ty := tyS2Uint8) u23 z60 (by omega) (fun _ => rfl) rd60
theorem ln4 {α : Type} {l : List α} (h : l.length = 4) : ∃ v0 v1 v2 v3, l = [v0, v1, v2, v3] := by match l, h with | [v0, v1, v2, v3], _ => exact ⟨v0, v1, v2, v3, rfl⟩
def c25 (x : SDraft1) : List V := [.sl false 6 (List.map tySDraft.c x.fLocals), .sl false 6 (List.map tySDraft.c x.fRemotes), .bool x.fControlling, .sl false 2 (List.map tyS2Uint8.c x.fSet)]
def Ok25 (x : SDraft1) : Prop := Ok22 x.fLocals ∧ Ok22 x.fRemotes ∧ True ∧ Ok23 x.fSet
theorem rd25 : Rd 25 c25 Ok25 := fun H enc W fuel cs x h => by
 obtain ⟨xs, m, rfl, -, hl, hn, hel⟩ := DataW.trod_struct u25 h
 rw [z25] at hl
 obtain ⟨v0, v1, v2, v3, rfl⟩ := ln4 hl
 obtain ⟨a0, i0, k0⟩ := fld hel hn 0 (t := 22) (o := 0) (by kernel_rfl) z22 rd22
 obtain ⟨a1, i1, k1⟩ := fld hel hn 1 (t := 22) (o := 1) (by kernel_rfl) z22 rd22
 obtain ⟨a2, i2, k2⟩ := fld hel hn 2 (t := 4) (o := 2) (by kernel_rfl) z4 (rdBool u4)
 obtain ⟨a3, i3, k3⟩ := fld hel hn 3 (t := 23) (o := 3) (by kernel_rfl) z23 rd23
 exact ⟨⟨a0, a1, a2, a3⟩, ⟨i0, i1, i2, i3⟩, k0.append (k1.append (k2.append k3))⟩
theorem u3 : Tryz.prog.underlying 3 = some (.int .i64) := by kernel_rfl
theorem z3 : Tryz.prog.cellsOf 3 = 1 := by kernel_rfl
theorem u29 : Tryz.prog.underlying 29 = some (.struct (fsOf 29)) := by kernel_rfl
theorem z29 : Tryz.prog.cellsOf 29 = 5 := by kernel_rfl
theorem u9 : Tryz.prog.underlying 9 = some .string := by kernel_rfl
theorem z9 : Tryz.prog.cellsOf 9 = 1 := by kernel_rfl
theorem u27 : Tryz.prog.underlying 27 = some (.struct (fsOf 27)) := by kernel_rfl
theorem z27 : Tryz.prog.cellsOf 27 = 2 := by kernel_rfl
def c27 (x : SAddr) : List V := [.str x.fHost, .int .i64 x.fPort]
def Ok27 (x : SAddr) : Prop := True ∧ (Lit.int .i64 x.fPort).wf = true
theorem rd27 : Rd 27 c27 Ok27 := fun H enc W fuel cs x h => by
 obtain ⟨xs, m, rfl, -, hl, hn, hel⟩ := DataW.trod_struct u27 h
 rw [z27] at hl
 obtain ⟨v0, v1, rfl⟩ := ln2 hl
 obtain ⟨a0, i0, k0⟩ := fld hel hn 0 (t := 9) (o := 0) (by kernel_rfl) z9 (rdStr u9)
 obtain ⟨a1, i1, k1⟩ := fld hel hn 1 (t := 3) (o := 1) (by kernel_rfl) z3 (rdInt u3)
 exact ⟨⟨a0, a1⟩, ⟨i0, i1⟩, k0.append k1⟩
theorem ln5 {α : Type} {l : List α} (h : l.length = 5) : ∃ v0 v1 v2 v3 v4, l = [v0, v1, v2, v3, v4] := by match l, h with | [v0, v1, v2, v3, v4], _ => exact ⟨v0, v1, v2, v3, v4, rfl⟩
def c29 (x : SBend) : List V := [.int .u8 x.fWhat, .int .i64 x.fN, .str x.fS, .str x.fA.fHost, .int .i64 x.fA.fPort]
def Ok29 (x : SBend) : Prop := (Lit.int .u8 x.fWhat).wf = true ∧ (Lit.int .i64 x.fN).wf = true ∧ True ∧ Ok27 x.fA
theorem rd29 : Rd 29 c29 Ok29 := fun H enc W fuel cs x h => by
 obtain ⟨xs, m, rfl, -, hl, hn, hel⟩ := DataW.trod_struct u29 h
 rw [z29] at hl
 obtain ⟨v0, v1, v2, v3, v4, rfl⟩ := ln5 hl
 obtain ⟨a0, i0, k0⟩ := fld hel hn 0 (t := 5) (o := 0) (by kernel_rfl) z5 (rdInt u5)
 obtain ⟨a1, i1, k1⟩ := fld hel hn 1 (t := 3) (o := 1) (by kernel_rfl) z3 (rdInt u3)
 obtain ⟨a2, i2, k2⟩ := fld hel hn 2 (t := 9) (o := 2) (by kernel_rfl) z9 (rdStr u9)
 obtain ⟨a3, i3, k3⟩ := fld hel hn 3 (t := 27) (o := 3) (by kernel_rfl) z27 rd27
 exact ⟨⟨a0, a1, a2, a3⟩, ⟨i0, i1, i2, i3⟩, k0.append (k1.append (k2.append k3))⟩
theorem z31 : Tryz.prog.cellsOf 31 = 1 := by kernel_rfl
def c34 (x : SCandidate) : List V := [.int .i64 x.fKind, .int .i64 x.fComponent, .int .i64 x.fPriority, .str x.fFoundation, .str x.fAddr.fHost, .int .i64 x.fAddr.fPort, .str x.fBase.fHost, .int .i64 x.fBase.fPort]
end Go.Proofs.YtioobnkmohikjaaGreatDoor
namespace Go.Proofs.YtioobnkmohikjaaGreatDoor
open Go Go.EV
set_option maxRecDepth 100000
end Go.Proofs.YtioobnkmohikjaaGreatDoor
