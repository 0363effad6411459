/- The drafted and bent lists: they come about for every draft, and are short.
   Guides and contracts, printed by a program.
   The pairs of candidates that fit, gathered: a range over a function (a method value), put together by hand.
   The pairs that wait, set: a range over a map whose rounds come out alike in whatever order they are made.
   Guides and contracts, printed by a program.
   Guides and contracts, printed by a program.
   wakes says yes: closed, by the kernel.
   Guides and contracts, printed by a program.
   ChecklistNext and ChecklistSets: yes at every argument.
   The listed variables: laid in the witness; no function of the laws reads them. What a call may change: nothing of what was there.
   Arguments opened: what comes in reads as typed data. Conditions: none but that it reads at all.
   Readers of the laws' parameters, printed by a program.
   What is read of a bend. -/
import Derived.Test.YtioobnkmohikjaaGreatDoorY9
import Derived.Test.YtioobnkmohikjaaGreatDoorY6
import Derived.Test.YtioobnkmohikjaaGreatDoorY7
import Derived.Test.YtioobnkmohikjaaGreatDoorY5
import Derived.Test.YtioobnkmohikjaaGreatDoorY8
import Derived.Test.YtioobnkmohikjaaGreatDoorRows
import Derived.ChangeSame
import Derived.ChangeVars
import Derived.JoinedOf
import Derived.RowKit
import Derived.ProofKit
import Derived.LaidMore
import Derived.Lay
import Derived.OpenShut
import Derived.Carry
import Derived.Stop.Joined
import Derived.ChangeArms
import Derived.DataReads
import Derived.SevenTiedAt
import Derived.KernelRfl
namespace Go.Proofs.YtioobnkmohikjaaGreatDoor
open Go Go.EV
set_option maxRecDepth 100000
open Classical
theorem okPLACE (p : Int) : SOk (s59 p) (fun r => r.fHost.size ≤ 16) := by
 show Ok (g59 p) _
 unfold g59
 exact Ok.br (fun _ => Ok.done (by rw [strOfNums_size]; simp only [List.length_cons, List.length_nil]; omega)) (fun _ => Ok.done (by rw [strOfNums_size]; simp only [List.length_cons, List.length_nil]; omega))
theorem okITOA (n : Int) (h : 1 ≤ n ∧ n ≤ 4) : SOk (s80 n) (fun r => r.size ≤ 100) := by
 have h1 : SOk (s103 n) (fun r => r.size ≤ 100) := by
  show Ok (g103 n) _
  unfold g103
  refine Ok.brT (by simp; omega) (Ok.chk ?_ (Ok.done ?_))
  ·rw [wi64_id (by omega) (by omega)]; simp; omega
  ·rw [ByteArray.size_extract, wi64_id (by omega) (by omega)]; omega
 have h2 : SOk (s97 n 10) (fun r => r.size ≤ 100) := by
  show Ok (g97 n 10) _
  unfold g97
  refine Ok.brT rfl (Ok.cnd (R := fun c => c = true) (Ok.brT (by simp; omega) (Ok.done (by simp; omega))) fun c hc => ?_)
  subst hc
  exact Ok.brT rfl (Ok.call h1 fun r hr => Ok.done hr)
 have h3 : SOk (s86 n) (fun r => r.size ≤ 100) := by
  show Ok (g86 n) _
  unfold g86
  exact Ok.call h2 fun r hr => Ok.done hr
 show Ok (g80 n) _
 unfold g80
 exact Ok.call h3 fun r hr => Ok.done hr
theorem okHEX (s : ByteArray) (h : s.size ≤ 100000) : SOk (s81 s) (fun r => r.size ≤ 200000) := by
 show Ok (g81 s) _
 unfold g81
 have e : wi64 ((2 : Int) * (s.size : Int)) = 2 * (s.size : Int) := wi64_id (by omega) (by omega)
 refine Ok.opr (r := ()) (by rw [e]; simp only [Rule.makeD]; rw [show (decide ((0 : Int) ≤ 0) && decide ((0 : Int) ≤ 2 * (s.size : Int)) && decide (1 * (2 * (s.size : Int)).toNat ≤ 281474976710656) && decide (2 * (s.size : Int) ≤ 9223372036854775807)) = true from by simp; omega]; rfl) ?_
 refine Ok.gh (Ok.bind (R := fun l => l.length ≤ 2 * s.size) ?_ fun e he => Ok.opr (r := ()) rfl (Ok.done (by rw [strOfNums_size]; omega)))
 refine Ok.scan s.size (by omega) (fun k y => y.2 = (k : Int) ∧ y.1.length = 2 * k) ⟨rfl, rfl⟩ (fun k y hy hk => ?_) (fun y hy => ?_)
 ·obtain ⟨hi, hs⟩ := hy
  obtain ⟨y1, y2⟩ := y
  simp only at hi hs
  subst hi
  have hb := bAt_lt s (k : Int)
  have hq : (wu8 (Int.tdiv (bAt s (k : Int)) 16)) = bAt s (k : Int) / 16 := by
   rw [Int.tdiv_eq_ediv_of_nonneg hb.1]
   unfold wu8 IntKind.wrap
   simp [IntKind.signed, IntKind.bits]
   omega
  have hm : Int.tmod (bAt s (k : Int)) 16 = bAt s (k : Int) % 16 := Int.tmod_eq_emod_of_nonneg hb.1
  refine Ok.br (fun hc => ?_) (fun hc => by simp at hc; omega)
  refine Ok.chk (by simp; omega) (Ok.chk (by rw [hq]; simp [bs, ByteArray.size]; omega) (Ok.chk (by simp; omega) (Ok.chk (by rw [hm]; simp [bs, ByteArray.size]; omega) (Ok.app ?_ (Ok.gh (Ok.gh (Ok.done ⟨wi64_nat hk (by omega), ?_⟩)))))))
  ·simp [hs]; omega
  ·simp [hs]; omega
 ·obtain ⟨hi, hs⟩ := hy
  obtain ⟨y1, y2⟩ := y
  simp only at hi hs
  subst hi
  exact Ok.br (fun hc => by simp at hc) (fun hc => Ok.done (by show y1.length ≤ _; omega))
theorem okRFOUND (k : Int) (b s : SAddr) (hb : b.fHost.size ≤ 100000) (hs : s.fHost.size ≤ 100000) : SOk (s72 k b s) (fun _ => True) := by
 show Ok (g72 k b s) _
 unfold g72
 refine Ok.cnd (R := fun c => c = false → 1 ≤ k ∧ k ≤ 4) ?_ fun c hc => ?_
 ·refine Ok.br (fun h1 => Ok.done fun h => by simp at h) (fun h1 => Ok.br (fun h2 => Ok.done fun h => by simp at h) (fun h2 => ?_))
  simp only [decide_eq_false_iff_not] at h1 h2
  have hk : 1 ≤ k ∧ k ≤ 4 := ⟨by omega, by omega⟩
  exact Ok.call (okRUSABLE _) fun r hr => Ok.br (fun _ => Ok.done fun _ => hk) (fun _ => Ok.br (fun _ => Ok.call (okRUSABLE _) fun r hr => Ok.done fun _ => hk) (fun _ => Ok.done fun _ => hk))
 ·refine Ok.br (fun _ => Ok.done trivial) (fun h => ?_)
  have hk := hc h
  have h1 : (bs [45]).size = 1 := rfl
  refine Ok.call (okITOA k hk) fun r hr => Ok.chk (by simp only [decide_eq_true_eq]; omega) (Ok.call (okHEX _ hb) fun r2 hr2 => ?_)
  refine Ok.chk (by simp only [decide_eq_true_eq, ByteArray.size_append]; omega) (Ok.chk (by simp only [decide_eq_true_eq, ByteArray.size_append]; omega) (Ok.call (okHEX _ hs) fun r3 hr3 => Ok.chk (by simp only [decide_eq_true_eq, ByteArray.size_append]; omega) (Ok.done trivial)))
theorem okRPRI9 (k p c : Int) : SOk (s73 k p c) (fun _ => True) := by
 show Ok (g73 k p c) _
 unfold g73
 refine Ok.cnd (R := fun c => c = false → 1 ≤ k ∧ k ≤ 4) ?_ fun c hc => ?_
 ·refine Ok.br (fun h1 => Ok.done fun h => by simp at h) (fun h1 => Ok.br (fun h2 => Ok.done fun h => by simp at h) (fun h2 => ?_))
  simp only [decide_eq_false_iff_not] at h1 h2
  have hk : 1 ≤ k ∧ k ≤ 4 := ⟨by omega, by omega⟩
  exact Ok.br (fun _ => Ok.done fun _ => hk) (fun _ => Ok.br (fun _ => Ok.done fun _ => hk) (fun _ => Ok.br (fun _ => Ok.done fun _ => hk) (fun _ => Ok.done fun _ => hk)))
 ·refine Ok.br (fun _ => Ok.done trivial) (fun h => ?_)
  have hk := hc h
  have : k = 1 ∨ k = 2 ∨ k = 3 ∨ k = 4 := by omega
  rcases this with rfl | rfl | rfl | rfl
  all_goals exact Ok.ceq rfl (Ok.br (fun _ => Ok.done trivial) (fun _ => Ok.done trivial))
theorem okRNEW (k : Int) (a b s : SAddr) (p c : Int) (hb : b.fHost.size ≤ 100000) (hs : s.fHost.size ≤ 100000) : SOk (s60 k a b s p c) (fun _ => True) := by
 show Ok (g60 k a b s p c) _
 unfold g60
 refine Ok.call (okRFOUND k b s hb hs) fun r _ => Ok.br (fun _ => Ok.done trivial) (fun _ => Ok.call (okRPRI9 _ _ _) fun r2 _ => Ok.br (fun _ => Ok.done trivial) (fun _ => Ok.call (okRCAND _) fun r3 _ => Ok.br (fun _ => Ok.done trivial) (fun _ => Ok.done trivial)))
theorem okDCAND (d : SDraft) : SOk (s29 d) (fun _ => True) := by
 show Ok (g29 d) _
 unfold g29
 refine Ok.call (okPLACE _) fun a ha => Ok.call (okPLACE _) fun b hb => Ok.cnd (R := fun _ => True) ?_ fun c _ => ?_
 ·exact Ok.br (fun _ => Ok.done trivial) (fun _ => Ok.br (fun _ => Ok.done trivial) (fun _ => Ok.done trivial))
 refine Ok.bind (R := fun e => e.1.size ≤ 16) (Ok.br (fun _ => Ok.done ha) (fun _ => Ok.done hb)) fun e he => ?_
 refine Ok.cnd (R := fun _ => True) (Ok.br (fun _ => Ok.done trivial) (fun _ => Ok.done trivial)) fun c2 _ => ?_
 refine Ok.bind (R := fun e => e.1.size ≤ 16) (Ok.br (fun _ => Ok.call (okPLACE _) fun q hq => Ok.done hq) (fun _ => Ok.done (by show (0 : Nat) ≤ 16; omega))) fun e2 he2 => ?_
 exact Ok.call (okRNEW _ _ _ _ _ _ (by show e.1.size ≤ _; omega) (by show e2.1.size ≤ _; omega)) fun r _ => Ok.done trivial
theorem okRCANDS (l : List SDraft) (n : Nat) (hn : n ≤ 1000) : SOk (s8 l (n : Int)) (fun r => r.length ≤ n) := by
 show Ok (g8 l (n : Int)) _
 unfold g8
 simp only [mlen_eq]
 refine Ok.gh (Ok.bind (R := fun r => r.length ≤ n) ?_ fun e he => Ok.gh (Ok.done he))
 refine Ok.scan n (by omega) (fun k y => y.2 = (k : Int) ∧ y.1.length = k) ⟨rfl, rfl⟩ (fun k y hy hk => ?_) (fun y hy => ?_)
 ·obtain ⟨hi, hs⟩ := hy
  obtain ⟨y1, y2⟩ := y
  simp only at hi hs
  subst hi
  refine Ok.cnd (R := fun c => c = true → k < l.length) (Ok.br (fun h1 => Ok.done fun _ => by simpa using h1) (fun h1 => Ok.done fun h => by simp at h)) fun c hc => Ok.br (fun h => ?_) (fun h => Ok.done (by show y1.length ≤ n; omega))
  obtain ⟨x, hx1, hx2⟩ := get_lt (hc h)
  refine Ok.row (by simp) hx1 (Ok.call (okDCAND x) fun r _ => Ok.app (by simp [hs]; omega) (Ok.gh (Ok.gh (Ok.done ⟨wi64_nat hk (by omega), by simp [hs]⟩))))
 ·obtain ⟨hi, hs⟩ := hy
  obtain ⟨y1, y2⟩ := y
  simp only at hi hs
  subst hi
  refine Ok.cnd (R := fun c => c = false) (Ok.br (fun h1 => Ok.done (by simp)) (fun h1 => Ok.done rfl)) fun c hc => ?_
  subst hc
  exact Ok.brF rfl (Ok.done (by show y1.length ≤ n; omega))
theorem okBENDC (b : SBend) (c : SCandidate) : SOk (s9 b c) (fun _ => True) := by
 show Ok (g9 b c) _
 unfold g9
 exact Ok.br (fun _ => Ok.done trivial) (fun _ => Ok.br (fun _ => Ok.done trivial) (fun _ => Ok.br (fun _ => Ok.done trivial) (fun _ => Ok.br (fun _ => Ok.done trivial) (fun _ => Ok.br (fun _ => Ok.done trivial) (fun _ => Ok.done trivial)))))
theorem bif_ok {p : Prop} [Decidable p] (h : p) : (bif decide p then some () else none) = some () := by rw [decide_eq_true h]; rfl
def Few (a b c : Nat) (l : SList) : Prop := l.fLocals.length ≤ a ∧ l.fRemotes.length ≤ b ∧ l.fPairs.length ≤ c
theorem okRMAKE (l r : List SCandidate) (c : Bool) : SOk (s12 l r c) (fun e => Few 12 12 36 e.1) := by
 show Ok (g12 l r c) _
 unfold g12
 simp only [mlen_eq]
 refine Ok.cnd (R := fun b => b = false → l.length ≤ 12 ∧ r.length ≤ 12) ?_ fun b hb => ?_
 ·exact Ok.br (fun h1 => Ok.done fun h => by simp at h) (fun h1 => Ok.done fun h => by simp at h h1; omega)
 refine Ok.br (fun _ => Ok.done ⟨by simp, by simp, by simp⟩) (fun h => ?_)
 obtain ⟨hl, hr⟩ := hb h
 refine Ok.cnd (R := fun b => b = false → CandsOk l ∧ CandsOk r) ?_ fun b2 hb2 => ?_
 ·refine Ok.call (okALL l (by omega)) fun a ha => Ok.br (fun h1 => Ok.done fun h => by simp at h) (fun h1 => Ok.call (okALL r (by omega)) fun a2 ha2 => Ok.done fun h => ?_)
  simp only [Bool.not_eq_false'] at h1 h
  exact ⟨ha.1 h1, ha2.1 h⟩
 refine Ok.br (fun _ => Ok.done ⟨by simp, by simp, by simp⟩) (fun h2 => ?_)
 obtain ⟨cl, cr⟩ := hb2 h2
 have hin : ∀ (L : List SPair) (x : SPair), (0 ≤ x.fLocal ∧ x.fLocal < (l.length : Int)) ∧ (0 ≤ x.fRemote ∧ x.fRemote < (r.length : Int)) → InB ⟨c, l, r, L⟩ x := fun L x h => h
 refine Ok.gh (Ok.bind (R := fun L => (∀ x, x ∈ L → InB ⟨c, l, r, []⟩ x) ∧ L.length ≤ 144) ?_ fun L hL => ?_)
 ·refine Ok.scan l.length (by omega) (fun k y => y.2 = (k : Int) ∧ (∀ x, x ∈ y.1 → InB ⟨c, l, r, []⟩ x) ∧ y.1.length ≤ 12 * k) ⟨rfl, fun x h => by simp at h, Nat.zero_le _⟩ (fun k y hy hk => ?_) (fun y hy => ?_)
  ·obtain ⟨hi, hI, hs⟩ := hy
   obtain ⟨y1, y2⟩ := y
   simp only at hi hI hs
   subst hi
   refine Ok.br (fun hc => Ok.gh ?_) (fun hc => by simp at hc; omega)
   refine Ok.bind (R := fun L => (∀ x, x ∈ L → InB ⟨c, l, r, []⟩ x) ∧ L.length ≤ 12 * (k + 1)) ?_ fun L hL => Ok.gh (Ok.done ⟨wi64_nat hk (by omega), hL.1, hL.2⟩)
   refine Ok.scan r.length (by omega) (fun j z => z.2 = (j : Int) ∧ (∀ x, x ∈ z.1 → InB ⟨c, l, r, []⟩ x) ∧ z.1.length ≤ 12 * k + j) ⟨rfl, hI, by simpa using hs⟩ (fun j z hz hj => ?_) (fun z hz => ?_)
   ·obtain ⟨ji, jI, js⟩ := hz
    obtain ⟨z1, z2⟩ := z
    simp only at ji jI js
    subst ji
    refine Ok.br (fun hc => ?_) (fun hc => by simp at hc; omega)
    obtain ⟨x, hx1, hx2⟩ := get_lt hk
    obtain ⟨w, hw1, hw2⟩ := get_lt hj
    refine Ok.row (by simp) hx1 (Ok.row (by simp) hw1 (Ok.call (okRFIT x w) fun a _ => Ok.br (fun _ => ?_) (fun _ => Ok.done ⟨wi64_nat hj (by omega), jI, by show z1.length ≤ _; omega⟩)))
    have hnew : ∀ p s : Int, InB ⟨c, l, r, []⟩ (SPair.mk (k : Int) (j : Int) p s) := fun p s => ⟨⟨by simp, by simp; omega⟩, ⟨by simp, by simp; omega⟩⟩
    refine Ok.call (okRPRIO ⟨c, l, r, []⟩ _ (hnew 0 0) cl cr) fun p _ => ?_
    refine Ok.bind (R := fun e => 0 ≤ e.2 ∧ e.2 ≤ (z1.length : Int)) ?_ fun e he => ?_
    ·refine Ok.lp (fun a => 0 ≤ a ∧ a ≤ (z1.length : Int)) (fun a => a.toNat) ⟨by show (0 : Int) ≤ (z1.length : Int); omega, Int.le_refl _⟩ (fuel (by show ((z1.length : Int)).toNat ≤ _; omega)) (fun a ha => ?_)
     refine Ok.cnd (R := fun b => b = true → 0 < a) ?_ fun b hb => Ok.br (fun h => ?_) (fun h => Ok.done ha)
     ·refine Ok.br (fun h => ?_) (fun h => Ok.done fun h => by simp at h)
      simp only [decide_eq_true_eq] at h
      have e1 : wi64 (a - 1) = a - 1 := wi64_id (by omega) (by omega)
      obtain ⟨q, hq⟩ := at_of (l := z1) (i := a - 1) (by omega) (by omega)
      refine Ok.chk (by rw [e1]; simp; omega) (Ok.row rfl (by rw [e1, Nat.zero_add]; exact hq) (Ok.call (R := fun _ => True) ?_ fun b _ => Ok.done fun _ => h))
      show Ok (g42 _ _) _
      unfold g42
      exact Ok.br (fun _ => Ok.done trivial) (fun _ => Ok.br (fun _ => Ok.done trivial) (fun _ => Ok.done trivial))
     ·have h9 := hb h
      have e1 : wi64 (a - 1) = a - 1 := wi64_id (by omega) (by omega)
      refine Ok.done ?_
      show Rnd _ _ _ _ (.inl (wi64 (a - 1)))
      rw [e1]
      exact ⟨⟨by omega, by omega⟩, by show (a - 1).toNat < a.toNat; omega⟩
    ·obtain ⟨h0, h1⟩ := he
     have c1 : (decide (0 ≤ e.2) && decide (e.2 ≤ (z1.length : Int))) = true := by simp; exact ⟨h0, h1⟩
     refine Ok.chk c1 (Ok.opr (r := ()) (bif_ok ⟨by show 0 + e.2.toNat ≤ z1.length; omega, by simp; omega⟩) ?_)
     refine Ok.app (by simp; omega) (Ok.chk c1 (Ok.opr (r := ()) (bif_ok ⟨by simp; omega, by simp; omega⟩) (Ok.gh (Ok.gh (Ok.done ⟨wi64_nat hj (by omega), ?_, ?_⟩)))))
     ·intro x hx
      simp only [List.nil_append, List.drop_zero, List.append_assoc, List.mem_append, List.mem_cons, List.not_mem_nil, or_false] at hx
      rcases hx with hx | rfl | hx
      ·exact jI x (List.mem_of_mem_take hx)
      ·exact hnew _ _
      ·exact jI x (List.mem_of_mem_drop (List.mem_of_mem_take hx))
     ·simp; omega
   ·obtain ⟨ji, jI, js⟩ := hz
    obtain ⟨z1, z2⟩ := z
    simp only at ji jI js
    subst ji
    exact Ok.br (fun hc => by simp at hc) (fun hc => Ok.done ⟨jI, by show z1.length ≤ _; omega⟩)
  ·obtain ⟨hi, hI, hs⟩ := hy
   obtain ⟨y1, y2⟩ := y
   simp only at hi hI hs
   subst hi
   exact Ok.br (fun hc => by simp at hc) (fun hc => Ok.done ⟨hI, by show y1.length ≤ _; omega⟩)
 ·obtain ⟨hI, hL⟩ := hL
  refine Ok.gh (Ok.bind (R := fun M => (∀ x, x ∈ M → InB ⟨c, l, r, []⟩ x) ∧ M.length ≤ 36) ?_ fun M hM => ?_)
  ·refine Ok.scan L.length (by omega) (fun k y => y.2 = (k : Int) ∧ (∀ x, x ∈ y.1 → InB ⟨c, l, r, []⟩ x) ∧ y.1.length ≤ 36) ⟨rfl, fun x h => by simp at h, Nat.zero_le _⟩ (fun k y hy hk => ?_) (fun y hy => ?_)
   ·obtain ⟨hi, yI, hs⟩ := hy
    obtain ⟨y1, y2⟩ := y
    simp only at hi yI hs
    subst hi
    refine Ok.br (fun hc => ?_) (fun hc => by simp at hc; omega)
    obtain ⟨x, hx1, hx2⟩ := get_lt hk
    have hxI := hI x (List.mem_of_getElem? hx2)
    have hx3 : L[0 + ((k : Int)).toNat]? = some x := by rw [Nat.zero_add]; exact hx1
    refine Ok.bind (R := fun _ => True) ?_ fun e _ => ?_
    ·refine Ok.scan k (by omega) (fun j z => z.2 = (j : Int)) rfl (fun j z hz hj => ?_) (fun z hz => ?_)
     ·obtain ⟨z1, z2⟩ := z
      simp only at hz
      subst hz
      refine Ok.br (fun hc => ?_) (fun hc => by simp at hc; omega)
      obtain ⟨w, hw1, hw2⟩ := get_lt (show j < L.length by omega)
      have hwI := hI w (List.mem_of_getElem? hw2)
      refine Ok.cnd (R := fun _ => True) (Ok.br (fun _ => Ok.done trivial) (fun _ => ?_)) fun c _ => Ok.done (wi64_nat hj (by omega))
      refine Ok.chk (by simp; omega) (Ok.row rfl hx3 (Ok.chk (by simp; omega) (Ok.row rfl (by rw [Nat.zero_add]; exact hw1) (Ok.view (okALIKE _ x w hxI hwI) fun _ _ => Ok.done trivial))))
     ·obtain ⟨z1, z2⟩ := z
      simp only at hz
      subst hz
      exact Ok.br (fun hc => by simp at hc) (fun hc => Ok.done trivial)
    ·refine Ok.cnd (R := fun b => b = true → y1.length < 36) (Ok.br (fun _ => Ok.done (by intro h; have h7 : ((y1.length : Nat) : Int) < 36 := of_decide_eq_true h; omega)) (fun _ => Ok.done fun h => by simp at h)) fun b hb => Ok.br (fun h => ?_) (fun h => Ok.done ⟨wi64_nat hk (by omega), yI, hs⟩)
     have h8 := hb h
     refine Ok.chk (by simp; omega) (Ok.row rfl hx3 (Ok.app (by simp; omega) (Ok.gh (Ok.gh (Ok.done ⟨wi64_nat hk (by omega), ?_, by simp; omega⟩)))))
     intro z hz
     rcases List.mem_append.1 hz with hz | hz
     ·exact yI z hz
     ·simp only [List.mem_singleton] at hz; subst hz; exact hxI
   ·obtain ⟨hi, yI, hs⟩ := hy
    obtain ⟨y1, y2⟩ := y
    simp only at hi yI hs
    subst hi
    exact Ok.br (fun hc => by simp at hc) (fun hc => Ok.done ⟨yI, hs⟩)
  ·obtain ⟨mI, mL⟩ := hM
   refine Ok.bind (R := fun N => N.length ≤ 36) ?_ fun N hN => Ok.gh (Ok.done ⟨hl, hr, hN⟩)
   refine Ok.scan M.length (by omega) (fun k y => y.2 = (k : Int) ∧ (∀ x, x ∈ y.1 → InB ⟨c, l, r, []⟩ x) ∧ y.1.length = M.length) ⟨rfl, mI, rfl⟩ (fun k y hy hk => ?_) (fun y hy => ?_)
   ·obtain ⟨hi, yI, hs⟩ := hy
    obtain ⟨y1, y2⟩ := y
    simp only at hi yI hs
    subst hi
    refine Ok.br (fun hc => ?_) (fun hc => by simp [hs] at hc; omega)
    obtain ⟨x, hx1, hx2⟩ := get_lt (show k < y1.length by omega)
    have hxI := yI x (List.mem_of_getElem? hx2)
    have hx3 : y1[0 + ((k : Int)).toNat]? = some x := by rw [Nat.zero_add]; exact hx1
    refine Ok.chk (by simp; omega) (Ok.row rfl hx3 (Ok.row hxI.lc hxI.loc ?_))
    refine Ok.bind (R := fun _ => True) ?_ fun e _ => Ok.br (fun _ => ?_) (fun _ => Ok.done ⟨wi64_nat hk (by omega), yI, hs⟩)
    ·refine Ok.scan y1.length (by omega) (fun j z => z.2 = (j : Int)) rfl (fun j z hz hj => ?_) (fun z hz => ?_)
     ·obtain ⟨z1, z2⟩ := z
      simp only at hz
      subst hz
      refine Ok.br (fun hc => ?_) (fun hc => by simp at hc; omega)
      obtain ⟨w, hw1, hw2⟩ := get_lt hj
      have hwI := yI w (List.mem_of_getElem? hw2)
      have hw3 : y1[0 + ((j : Int)).toNat]? = some w := by rw [Nat.zero_add]; exact hw1
      refine Ok.chk (by simp; omega) (Ok.row rfl hw3 (Ok.row hwI.lc hwI.loc (Ok.cnd (R := fun _ => True) ?_ fun b _ => Ok.br (fun _ => Ok.done (wi64_nat hj (by omega))) (fun _ => Ok.done (wi64_nat hj (by omega))))))
      refine Ok.chk (by simp; omega) (Ok.row rfl hx3 (Ok.chk (by simp; omega) (Ok.row rfl hw3 (Ok.view (okRELATED _ x w hxI hwI) fun _ _ => ?_))))
      exact Ok.br (fun _ => Ok.br (fun _ => Ok.done trivial) (fun _ => Ok.br (fun _ => Ok.done trivial) (fun _ => Ok.done trivial))) (fun _ => Ok.done trivial)
     ·obtain ⟨z1, z2⟩ := z
      simp only at hz
      subst hz
      exact Ok.br (fun hc => by simp at hc) (fun hc => Ok.done trivial)
    ·refine Ok.chk (by simp; omega) (Ok.row rfl hx3 (Ok.re (Ok.gh (Ok.done ⟨wi64_nat hk (by omega), ?_, by simp [hs]⟩))))
     intro z hz
     rcases List.mem_or_eq_of_mem_set hz with hz | hz
     ·exact yI z hz
     ·subst hz; exact hxI
   ·obtain ⟨hi, yI, hs⟩ := hy
    obtain ⟨y1, y2⟩ := y
    simp only at hi yI hs
    subst hi
    exact Ok.br (fun hc => by simp [hs] at hc) (fun hc => Ok.done (by show y1.length ≤ 36; omega))
theorem setF_few (l : SList) (i st : Int) {a b c : Nat} (h : Few a b c l) : Few a b c (setF l i st).1 := by
 unfold setF
 split
 ·split
  ·split
   ·refine ⟨h.1, h.2.1, ?_⟩
    show List.length (List.map _ (List.set _ _ _)) ≤ c
    rw [List.length_map, List.length_set]; exact h.2.2
   ·exact ⟨Nat.zero_le _, Nat.zero_le _, Nat.zero_le _⟩
  ·exact ⟨Nat.zero_le _, Nat.zero_le _, Nat.zero_le _⟩
 ·exact ⟨Nat.zero_le _, Nat.zero_le _, Nat.zero_le _⟩
theorem okDLIST (d : SDraft1) : SOk (s25 d) (fun l => Few 12 12 36 l) := by
 show Ok (g25 d) _
 unfold g25
 refine Ok.call (okRCANDS d.fLocals 12 (by omega)) fun a ha => Ok.call (okRCANDS d.fRemotes 12 (by omega)) fun b hb => Ok.call (okRMAKE a b d.fControlling) fun m hm => ?_
 simp only [mlen_eq]
 refine Ok.bind (R := fun e => Few 12 12 36 ⟨e.1, e.2.1, e.2.2.1, e.2.2.2⟩) ?_ fun e he => Ok.done he
 refine Ok.scan 10 (by omega) (fun k y => y.2.2.2.2 = (k : Int) ∧ Few 12 12 36 ⟨y.1, y.2.1, y.2.2.1, y.2.2.2.1⟩) ⟨rfl, hm⟩ (fun k y hy hk => ?_) (fun y hy => ?_)
 ·obtain ⟨hi, hf⟩ := hy
  obtain ⟨y1, y2, y3, y4, y5⟩ := y
  simp only at hi hf
  subst hi
  refine Ok.cnd (R := fun c => c = true → k < d.fSet.length ∧ 0 < y4.length) ?_ fun c hc => Ok.br (fun h => ?_) (fun h => Ok.done hf)
  ·refine Ok.br (fun h1 => Ok.br (fun h2 => Ok.done fun h3 => ?_) (fun h2 => Ok.done fun h => by simp at h)) (fun h1 => Ok.done fun h => by simp at h)
   simp at h1 h3
   exact ⟨h1, by cases y4 with
    | nil => simp at h3
    | cons => simp⟩
  ·obtain ⟨h1, h2⟩ := hc h
   obtain ⟨x, hx1, hx2⟩ := get_lt h1
   refine Ok.row (by simp) hx1 (Ok.chk (by show (!((y4.length : Int) == 0)) = true; simp; intro h; subst h; simp at h2) (Ok.row (by simp) hx1 (Ok.call (okRSET _ _ _) fun q hq => Ok.done ⟨wi64_nat hk (by omega), ?_⟩)))
   subst hq
   exact setF_few _ _ _ hf
 ·obtain ⟨hi, hf⟩ := hy
  obtain ⟨y1, y2, y3, y4, y5⟩ := y
  simp only at hi hf
  subst hi
  refine Ok.cnd (R := fun c => c = false) (Ok.br (fun _ => Ok.brF (by simp) (Ok.done rfl)) (fun _ => Ok.done rfl)) fun c hc => ?_
  exact Ok.brF hc (Ok.done hf)
theorem okCUT (l : List SCandidate) : SOk (s10 l) (fun r => r.length ≤ 14) := by
 show Ok (g10 l) _
 unfold g10
 simp only [mlen_eq, mlenn_eq]
 have hn : ∃ n, n ≤ 14 ∧ n ≤ l.length ∧ (if (14 : Int) < (l.length : Int) then (14 : Int) else (l.length : Int)) = (n : Int) := by
  by_cases h : (14 : Int) < (l.length : Int)
  ·exact ⟨14, by omega, by omega, if_pos h⟩
  ·exact ⟨l.length, by omega, Nat.le_refl _, if_neg h⟩
 obtain ⟨n, h14, hnl, e⟩ := hn
 rw [e]
 refine Ok.chk (by simp; omega) (Ok.re (Ok.gh (Ok.bind (R := fun r => r.length ≤ 14) ?_ fun e he => Ok.gh (Ok.done he))))
 have hL : (l.take n).length = n := by rw [List.length_take]; omega
 rw [Int.toNat_natCast, hL]
 refine Ok.scan n (by omega) (fun k y => y.2 = (k : Int) ∧ y.1.length = k) ⟨rfl, rfl⟩ (fun k y hy hk => ?_) (fun y hy => ?_)
 ·obtain ⟨hi, hs⟩ := hy
  obtain ⟨y1, y2⟩ := y
  simp only at hi hs
  subst hi
  refine Ok.br (fun hc => ?_) (fun hc => by simp at hc; omega)
  obtain ⟨x, hx1, hx2⟩ := get_lt (show k < (l.take n).length by omega)
  have hf : ∃ q : Int, 0 ≤ q ∧ q ≤ (x.fFoundation.size : Int) ∧ (if (100 : Int) < (x.fFoundation.size : Int) then (100 : Int) else (x.fFoundation.size : Int)) = q := by
   by_cases h : (100 : Int) < (x.fFoundation.size : Int)
   ·exact ⟨100, by omega, by omega, if_pos h⟩
   ·exact ⟨_, by omega, Int.le_refl _, if_neg h⟩
  obtain ⟨q, q1, q2, q3⟩ := hf
  refine Ok.row (by simp) hx1 (Ok.chk (by rw [q3]; simp; exact ⟨q1, q2⟩) (Ok.app (by simp [hs]; omega) (Ok.gh (Ok.gh (Ok.done ⟨wi64_nat hk (by omega), by simp [hs]⟩)))))
 ·obtain ⟨hi, hs⟩ := hy
  obtain ⟨y1, y2⟩ := y
  simp only at hi hs
  subst hi
  exact Ok.br (fun hc => by simp at hc) (fun hc => Ok.done (by show y1.length ≤ 14; omega))
theorem okFEW (l : SList) : SOk (s46 l) (fun r => Few 14 14 40 r) := by
 show Ok (g46 l) _
 unfold g46
 simp only [mlen_eq, mlenn_eq]
 refine Ok.call (okCUT _) fun a ha => Ok.call (okCUT _) fun b hb => ?_
 by_cases h : (40 : Int) < (l.fPairs.length : Int)
 ·rw [if_pos h]
  exact Ok.chk (by simp; omega) (Ok.re (Ok.done ⟨ha, hb, by show (List.take _ _).length ≤ 40; rw [List.length_take]; omega⟩))
 ·rw [if_neg h]
  exact Ok.chk (by simp) (Ok.re (Ok.done ⟨ha, hb, by show (List.take _ _).length ≤ 40; rw [List.length_take]; omega⟩))
theorem modAt {at_ : Int} {n : Nat} (h0 : 0 ≤ at_) (h1 : at_ ≤ 255) (hn : 0 < n) : ∃ k : Nat, k < n ∧ Int.tmod (wi64 at_) (n : Int) = (k : Int) := by
 rw [wi64_id (by omega) (by omega), Int.tmod_eq_emod_of_nonneg h0]
 have h2 := Int.emod_nonneg at_ (show (n : Int) ≠ 0 by omega)
 have h3 := Int.emod_lt_of_pos at_ (show (0 : Int) < n by omega)
 exact ⟨(at_ % (n : Int)).toNat, by omega, by omega⟩
theorem okBENDL (b : SBend1) (l : SList) (hb : 0 ≤ b.fAt ∧ b.fAt ≤ 255) {p q r : Nat} (hl : Few p q r l) (hp : p ≤ 1000000) (hq : q ≤ 1000000) (hr : r ≤ 1000000) : SOk (s47 b l) (fun e => Few p (2 * q) (r + 1) e) := by
 show Ok (g47 b l) _
 unfold g47
 refine Ok.call (okCOPIED l (by have := hl.2.2; omega)) fun L hL => ?_
 subst hL
 obtain ⟨lp, lq, lr⟩ := hl
 refine Ok.app (by simp; omega) (Ok.app (by simp; omega) (Ok.bind (R := fun M => M.length ≤ r + 1) ?_ fun M hM => ?_))
 ·refine Ok.br (fun h => ?_) (fun h => Ok.gh (Ok.done (by omega)))
  have h0 : 0 < l.fPairs.length := by have h7 : (0 : Int) < (l.fPairs.length : Int) := of_decide_eq_true h; omega
  obtain ⟨k, hk, e⟩ := modAt hb.1 hb.2 h0
  obtain ⟨x, hx1, hx2⟩ := get_lt hk
  have hz : (!((l.fPairs.length : Int) == 0)) = true := by simp; intro h; rw [h] at h0; simp at h0
  have hx3 : l.fPairs[0 + (Int.tmod (wi64 b.fAt) (l.fPairs.length : Int)).toNat]? = some x := by rw [e, Nat.zero_add]; exact hx1
  refine Ok.chk hz (Ok.chk (by rw [e]; simp; omega) ?_)
  refine Ok.br (fun _ => Ok.row rfl hx3 (Ok.re (Ok.gh (Ok.gh (Ok.done (by rw [List.length_set]; omega)))))) fun _ => ?_
  refine Ok.br (fun _ => Ok.row rfl hx3 (Ok.re (Ok.gh (Ok.gh (Ok.done (by rw [List.length_set]; omega)))))) fun _ => ?_
  refine Ok.br (fun _ => Ok.row rfl hx3 (Ok.re (Ok.gh (Ok.gh (Ok.done (by rw [List.length_set]; omega)))))) fun _ => ?_
  refine Ok.br (fun _ => Ok.row rfl hx3 (Ok.re (Ok.gh (Ok.gh (Ok.done (by rw [List.length_set]; omega)))))) fun _ => ?_
  refine Ok.br (fun _ => Ok.row rfl hx3 (Ok.app (by simp; omega) (Ok.gh (Ok.done (by rw [List.length_append]; simp; omega))))) fun _ => ?_
  refine Ok.br (fun _ => Ok.chk hz (Ok.chk (by rw [e]; simp; omega) (Ok.chk hz (Ok.chk ?_ (Ok.opr (r := ()) (bif_ok ⟨by rw [e]; omega, ?_, ?_⟩) (Ok.gh (Ok.done ?_))))))) fun _ => Ok.gh (Ok.done (by omega))
  ·rw [e, wi64_nat hk (by omega)]; simp; omega
  ·rw [e, wi64_nat hk (by omega)]; omega
  ·rw [e, wi64_nat hk (by omega)]; omega
  ·rw [e, wi64_nat hk (by omega)]; simp; omega
 ·have done : ∀ (c : Bool) (a b : List SCandidate), a.length ≤ p → b.length ≤ 2 * q → Few p (2 * q) (r + 1) ⟨c, a, b, M⟩ := fun c a b h1 h2 => ⟨h1, h2, hM⟩
  refine Ok.br (fun _ => Ok.gh (Ok.gh (Ok.gh (Ok.done (done _ _ _ (by simpa using lp) (by simp; omega)))))) fun _ => ?_
  simp only [List.nil_append]
  refine Ok.br (fun _ => Ok.br (fun h => ?_) (fun h => Ok.gh (Ok.gh (Ok.gh (Ok.done (done _ _ _ lp (by omega))))))) fun _ => ?_
  ·have h0 : 0 < l.fLocals.length := by have h7 : (0 : Int) < (l.fLocals.length : Int) := of_decide_eq_true h; omega
   obtain ⟨k, hk, e⟩ := modAt hb.1 hb.2 h0
   obtain ⟨x, hx1, hx2⟩ := get_lt hk
   have hz : (!((l.fLocals.length : Int) == 0)) = true := by simp; intro h; rw [h] at h0; simp at h0
   have hc2 : 0 ≤ Int.tmod (wi64 b.fAt) (l.fLocals.length : Int) ∧ Int.tmod (wi64 b.fAt) (l.fLocals.length : Int) < (l.fLocals.length : Int) := by rw [e]; omega
   have hx3 : l.fLocals[0 + (Int.tmod (wi64 b.fAt) (l.fLocals.length : Int)).toNat]? = some x := by rw [e, Nat.zero_add]; exact hx1
   exact Ok.chk hz (Ok.chk hz (Ok.chk (by simp only [Bool.and_eq_true, decide_eq_true_eq]; exact hc2) (Ok.row rfl hx3 (Ok.call (okBENDC _ _) fun y _ => Ok.chk (by simp only [Bool.and_eq_true, decide_eq_true_eq]; exact hc2) (Ok.row rfl hx3 (Ok.re (Ok.gh (Ok.gh (Ok.gh (Ok.gh (Ok.done (done _ _ _ (by rw [List.length_set]; exact lp) (by omega)))))))))))))
  refine Ok.br (fun _ => Ok.br (fun h => ?_) (fun h => Ok.gh (Ok.gh (Ok.gh (Ok.done (done _ _ _ lp (by omega))))))) fun _ => ?_
  ·have h0 : 0 < l.fRemotes.length := by have h7 : (0 : Int) < (l.fRemotes.length : Int) := of_decide_eq_true h; omega
   obtain ⟨k, hk, e⟩ := modAt hb.1 hb.2 h0
   obtain ⟨x, hx1, hx2⟩ := get_lt hk
   have hz : (!((l.fRemotes.length : Int) == 0)) = true := by simp; intro h; rw [h] at h0; simp at h0
   have hc2 : 0 ≤ Int.tmod (wi64 b.fAt) (l.fRemotes.length : Int) ∧ Int.tmod (wi64 b.fAt) (l.fRemotes.length : Int) < (l.fRemotes.length : Int) := by rw [e]; omega
   have hx3 : l.fRemotes[0 + (Int.tmod (wi64 b.fAt) (l.fRemotes.length : Int)).toNat]? = some x := by rw [e, Nat.zero_add]; exact hx1
   exact Ok.chk hz (Ok.chk hz (Ok.chk (by simp only [Bool.and_eq_true, decide_eq_true_eq]; exact hc2) (Ok.row rfl hx3 (Ok.call (okBENDC _ _) fun y _ => Ok.chk (by simp only [Bool.and_eq_true, decide_eq_true_eq]; exact hc2) (Ok.row rfl hx3 (Ok.re (Ok.gh (Ok.gh (Ok.gh (Ok.gh (Ok.done (done _ _ _ lp (by rw [List.length_set]; omega)))))))))))))
  refine Ok.br (fun _ => Ok.br (fun h => ?_) (fun h => Ok.gh (Ok.gh (Ok.gh (Ok.done (done _ _ _ lp (by omega))))))) fun _ => ?_
  ·have h0 : 0 < l.fLocals.length := by have h7 : (0 : Int) < (l.fLocals.length : Int) := of_decide_eq_true h; omega
   exact Ok.chk (by simp; omega) (Ok.cutg (by omega) (Ok.gh (Ok.gh (Ok.gh (Ok.gh (Ok.done (done _ _ _ (by rw [List.length_drop]; omega) (by omega))))))))
  refine Ok.br (fun _ => Ok.opr (r := ()) (bif_ok ⟨Nat.le_refl _, by omega, by omega⟩) (Ok.gh (Ok.gh (Ok.gh (Ok.done (done _ _ _ lp (by simp; omega))))))) fun _ => Ok.gh (Ok.gh (Ok.gh (Ok.done (done _ _ _ lp (by omega)))))
theorem okLISTS (d : SDraft1) (b : S2Tannoyref10Bend) (l : SList) (h0 : 0 ≤ b.a0.fAt ∧ b.a0.fAt ≤ 255) (h1 : 0 ≤ b.a1.fAt ∧ b.a1.fAt ≤ 255) : SOk (s14 d b l) (fun e => Few 14 14 40 e.a0 ∧ Few 14 14 40 e.a1 ∧ Few 14 14 40 e.a2 ∧ Few 14 14 40 e.a3) := by
 show Ok (g14 d b l) _
 unfold g14
 refine Ok.call (okDLIST d) fun a ha => Ok.call (okBENDL b.a0 a h0 ha (by omega) (by omega) (by omega)) fun a1 ha1 => Ok.call (okFEW a1) fun a2 ha2 => Ok.call (okBENDL b.a0 a h0 ha (by omega) (by omega) (by omega)) fun a3 ha3 =>
  Ok.call (okBENDL b.a1 a3 h1 ha3 (by omega) (by omega) (by omega)) fun a4 ha4 => Ok.call (okFEW a4) fun a5 ha5 => Ok.call (okFEW l) fun a6 ha6 => Ok.done ⟨⟨by have := ha.1; show a.fLocals.length ≤ _; omega, by have := ha.2.1; show a.fRemotes.length ≤ _; omega, by have := ha.2.2; show a.fPairs.length ≤ _; omega⟩, ha2, ha5, ha6⟩
end Go.Proofs.YtioobnkmohikjaaGreatDoor
namespace Go.Proofs.YtioobnkmohikjaaGreatDoor
open Go Go.EV
set_option maxRecDepth 100000
structure SEnt90 where
 fk : S2String
 fv : Int
def tySEnt90 : Ty SEnt90 := ⟨fun x => [.str x.fk.a0, .str x.fk.a1, .int .i64 x.fv], fun x => [.str x.fk.a0, .str x.fk.a1, .int .i64 x.fv], fun _ => rfl, fun _ => rfl, fun _ _ => rfl, fun _ => rfl⟩
noncomputable def g56_1 (p0 : Bool) (p1 : (List SCandidate)) (p2 : (List SCandidate)) (p3 : SPair) : TT (Int) :=
 .row 1008 tySCandidate p1 p3.fLocal.toNat (decide (0 ≤ p3.fLocal)) fun x542 =>
 .row 1018 tySCandidate p2 p3.fRemote.toNat (decide (0 ≤ p3.fRemote)) fun x543 =>
 .bind 0
 (.br 0 (!p0)
  (.done (x543.fPriority, x542.fPriority))
  (.done (x542.fPriority, x543.fPriority)))
 (fun (e544 : Int × Int) => Ext.lit .normal [(4, .int .i64 0), (5, .int .i64 e544.1), (6, .int .i64 e544.2)] [])
 (fun e544 =>
  .call 4003 (s71 e544.1 e544.2) [] [] fun r545 =>
  .done r545.1)
theorem k56_1 (p0 : Bool) (p1 : (List SCandidate)) (p2 : (List SCandidate)) (p3 : SPair) : FnD Tryz.prog GG [0, 1, 3, 4, 5, 6, 7, 34] Tryz.f56 [.snap [.bool p0, .sl false 8 (List.map tySCandidate.c p1), .sl false 8 (List.map tySCandidate.c p2), .nilsl], .agg [.int .i64 p3.fLocal, .int .i64 p3.fRemote, .int .i64 p3.fPriority, .int .i64 p3.fState]] (g56_1 p0 p1 p2 p3) (fun r => .int .i64 r) := by unfold FnD; kernel_rfl
noncomputable def s56_1 (p0 : Bool) (p1 : (List SCandidate)) (p2 : (List SCandidate)) (p3 : SPair) : EV.Spec Tryz.prog GG (Int) := .ofFn 56 mixed Tryz.func56 (k56_1 p0 p1 p2 p3)
noncomputable def g34 (p0 : SPair) (p1 : SPair) : TT (Int) :=
 .call 1005 (s35 p1.fPriority p0.fPriority) [] [] fun r551 =>
 .done r551
theorem k34 (p0 : SPair) (p1 : SPair) : FnD Tryz.prog GG [0, 1, 2, 3, 4] Tryz.f34 [.agg [.int .i64 p0.fLocal, .int .i64 p0.fRemote, .int .i64 p0.fPriority, .int .i64 p0.fState], .agg [.int .i64 p1.fLocal, .int .i64 p1.fRemote, .int .i64 p1.fPriority, .int .i64 p1.fState]] (g34 p0 p1) (fun r => .int .i64 r) := by unfold FnD; kernel_rfl
noncomputable def s34 (p0 : SPair) (p1 : SPair) : EV.Spec Tryz.prog GG (Int) := .ofFn 34 mixed Tryz.func34 (k34 p0 p1)
noncomputable def g76 (p0 : Nat) (p1 : Int) (p2 : Int) (p3 : (List SPair)) : TT ((List SPair)) :=
 .bind 1
 (.lp (fun (l587 : (List SPair) × Int) => Ext.of .normal [(0, .ref 1000000 0 p0), (1, .int .i64 p1), (2, .int .i64 p2), (3, .fn 34 [] []), (8, .int .i64 l587.2)] [] [BT.of 1000000 tySPair 4 l587.1 true] (by rfl))
  (fun l587 =>
   .br 0 (decide (l587.2 < p2))
   (.bind 2
    (.lp (fun (l597 : (List SPair) × Int) => Ext.of .normal [(0, .ref 1000000 0 p0), (1, .int .i64 p1), (2, .int .i64 p2), (3, .fn 34 [] []), (8, .int .i64 l587.2), (9, .int .i64 l597.2)] [] [BT.of 1000000 tySPair 4 l597.1 true] (by rfl))
     (fun l597 =>
      .cnd 4 [34]
      (.br 4005 (decide (p1 < l597.2))
       (.chk 4008 (decide (0 ≤ l597.2) && decide (l597.2 < (p0 : Int))) (.row 4009 tySPair l597.1 (0 + l597.2.toNat) true fun x598 =>
        .chk 4013 (decide (0 ≤ (wi64 (l597.2 - 1))) && decide ((wi64 (l597.2 - 1)) < (p0 : Int))) (.row 4014 tySPair l597.1 (0 + (wi64 (l597.2 - 1)).toNat) true fun x599 =>
        .call 4015 (s34 x598 x599) [] [] fun r600 =>
        .done (decide (r600 < 0)))))
       (.done false))
      (fun (c601 : Bool) => [.bool c601]) fun c601 =>
      .br 0 c601
      (.chk 6009 (decide (0 ≤ (wi64 (l597.2 - 1))) && decide ((wi64 (l597.2 - 1)) < (p0 : Int))) (.row 6010 tySPair l597.1 (0 + (wi64 (l597.2 - 1)).toNat) true fun x602 =>
       .chk 6013 (decide (0 ≤ l597.2) && decide (l597.2 < (p0 : Int))) (.row 6014 tySPair l597.1 (0 + l597.2.toNat) true fun x603 =>
       .chk 6015 (decide (0 ≤ l597.2) && decide (l597.2 < (p0 : Int))) (.row 6016 tySPair l597.1 (0 + l597.2.toNat) true fun x604 =>
       .re 6016 (ReW.put 1000000 4 tySPair l597.1 (0 + l597.2.toNat) x602) (.chk 6017 (decide (0 ≤ (wi64 (l597.2 - 1))) && decide ((wi64 (l597.2 - 1)) < (p0 : Int))) (.row 6018 tySPair (l597.1.set (0 + l597.2.toNat) x602) (0 + (wi64 (l597.2 - 1)).toNat) true fun x605 =>
       .re 6018 (ReW.put 1000000 4 tySPair (l597.1.set (0 + l597.2.toNat) x602) (0 + (wi64 (l597.2 - 1)).toNat) x603) (.done (.inl (((l597.1.set (0 + l597.2.toNat) x602).set (0 + (wi64 (l597.2 - 1)).toNat) x603), (wi64 (l597.2 - 1)))))))))))
      (.done (.inr l597.1)))
     (l587.1, l587.2))
    (fun (e606 : (List SPair)) => Ext.of (.exit 2) [(0, .ref 1000000 0 p0), (1, .int .i64 p1), (2, .int .i64 p2), (3, .fn 34 [] []), (8, .int .i64 l587.2)] [] [BT.of 1000000 tySPair 4 e606 true] (by rfl))
    (fun e606 =>
     .done (.inl (e606, (wi64 (l587.2 + 1))))))
   (.done (.inr l587.1)))
  (p3, (wi64 (p1 + 1))))
 (fun (e607 : (List SPair)) => Ext.of (.exit 0) [] [] [BT.of 1000000 tySPair 4 e607 true] (by rfl))
 (fun e607 =>
  .done e607)
theorem k76 (p0 : Nat) (p1 : Int) (p2 : Int) (p3 : (List SPair)) : FnB Tryz.prog GG [0, 1, 2, 3, 8, 9, 14, 34] Tryz.f76 [.ref 1000000 0 p0, .int .i64 p1, .int .i64 p2, .fn 34 [] []] (Ext.of .normal (argTs [.ref 1000000 0 p0, .int .i64 p1, .int .i64 p2, .fn 34 [] []]) [] [BT.of 1000000 tySPair 4 p3 true] (by rfl)) (g76 p0 p1 p2 p3) (fun (_ : (List SPair)) => .tup []) (fun (r : (List SPair)) => Ext.of .normal [] [] [BT.of 1000000 tySPair 4 r true] (by rfl)) := by unfold FnB; kernel_rfl
noncomputable def s76 (p0 : Nat) (p1 : Int) (p2 : Int) (p3 : (List SPair)) : EV.Spec Tryz.prog GG ((List SPair)) := .ofFnB 76 [1000000] mixed Tryz.func76 rfl (fun _ => rfl) (k76 p0 p1 p2 p3)
noncomputable def g65 (p0 : Nat) (p1 : Int) (p2 : (List SPair)) : TT ((List SPair)) :=
 .bind 1
 (.lp (fun (l568 : (List SPair) × Int × Int) => Ext.of .normal [(0, .ref 1000000 0 p0), (1, .int .i64 p1), (2, .fn 34 [] []), (6, .int .i64 20), (7, .int .i64 l568.2.1), (8, .int .i64 l568.2.2)] [] [BT.of 1000000 tySPair 4 l568.1 true] (by rfl))
  (fun l568 =>
   .br 0 (decide (l568.2.2 ≤ p1))
   (.call 3005 (s76 p0 l568.2.1 l568.2.2 l568.1) [(1000000, 1000000)] [] fun r578 =>
    .done (.inl (r578, l568.2.2, (wi64 (l568.2.2 + 20)))))
   (.done (.inr (l568.1, l568.2.1))))
  (p2, 0, 20))
 (fun (e579 : (List SPair) × Int) => Ext.of (.exit 0) [(0, .ref 1000000 0 p0), (1, .int .i64 p1), (2, .fn 34 [] []), (6, .int .i64 20), (7, .int .i64 e579.2)] [] [BT.of 1000000 tySPair 4 e579.1 true] (by rfl))
 (fun e579 =>
  .call 6005 (s76 p0 e579.2 p1 e579.1) [(1000000, 1000000)] [] fun r589 =>
  .bind 1
  (.lp (fun (l593 : Int) => Ext.of .normal [(0, .ref 1000000 0 p0), (1, .int .i64 p1), (2, .fn 34 [] []), (6, .int .i64 l593)] [] [BT.of 1000000 tySPair 4 r589 true] (by rfl))
   (fun l593 =>
    .br 0 (decide (l593 < p1))
    (.bind 2
     (.lp (fun (l594 : Unit) => Ext.of .normal [(0, .ref 1000000 0 p0), (1, .int .i64 p1), (2, .fn 34 [] []), (6, .int .i64 l593), (7, .int .i64 0), (8, .int .i64 (wi64 ((2 : Int) * l593)))] [] [BT.of 1000000 tySPair 4 r589 true] (by rfl))
      (fun l594 =>
       .br 0 (decide ((wi64 ((2 : Int) * l593)) ≤ p1))
       (.fail)
       (.done (.inr ())))
      ())
     (fun (e595 : Unit) => Ext.of (.exit 4) [(0, .ref 1000000 0 p0), (1, .int .i64 p1), (2, .fn 34 [] []), (6, .int .i64 l593), (7, .int .i64 0)] [] [BT.of 1000000 tySPair 4 r589 true] (by rfl))
     (fun e595 =>
      .br 0 (decide ((wi64 ((0 : Int) + l593)) < p1))
      (.fail)
      (.done (.inl (wi64 (l593 * 2))))))
    (.done (.inr ())))
   20)
  (fun (e596 : Unit) => Ext.of (.exit 2) [] [] [BT.of 1000000 tySPair 4 r589 true] (by rfl))
  (fun e596 =>
   .done r589))
theorem k65 (p0 : Nat) (p1 : Int) (p2 : (List SPair)) : FnB Tryz.prog GG [0, 1, 2, 6, 7, 8, 9, 13, 30, 35, 54] Tryz.f65 [.ref 1000000 0 p0, .int .i64 p1, .fn 34 [] []] (Ext.of .normal (argTs [.ref 1000000 0 p0, .int .i64 p1, .fn 34 [] []]) [] [BT.of 1000000 tySPair 4 p2 true] (by rfl)) (g65 p0 p1 p2) (fun (_ : (List SPair)) => .tup []) (fun (r : (List SPair)) => Ext.of .normal [] [] [BT.of 1000000 tySPair 4 r true] (by rfl)) := by unfold FnB; kernel_rfl
noncomputable def s65 (p0 : Nat) (p1 : Int) (p2 : (List SPair)) : EV.Spec Tryz.prog GG ((List SPair)) := .ofFnB 65 [1000000] mixed Tryz.func65 rfl (fun _ => rfl) (k65 p0 p1 p2)
noncomputable def g33 (p0 : Nat) (p1 : (List SPair)) : TT ((List SPair)) :=
 .call 5 (s65 p0 (p0 : Int) p1) [(1000000, 1000000)] [] fun r597 =>
 .done r597
theorem k33 (p0 : Nat) (p1 : (List SPair)) : FnB Tryz.prog GG [0, 1] Tryz.f33 [.ref 1000000 0 p0, .fn 34 [] []] (Ext.of .normal (argTs [.ref 1000000 0 p0, .fn 34 [] []]) [] [BT.of 1000000 tySPair 4 p1 true] (by rfl)) (g33 p0 p1) (fun (_ : (List SPair)) => .tup []) (fun (r : (List SPair)) => Ext.of .normal [] [] [BT.of 1000000 tySPair 4 r true] (by rfl)) := by unfold FnB; kernel_rfl
noncomputable def s33 (p0 : Nat) (p1 : (List SPair)) : EV.Spec Tryz.prog GG ((List SPair)) := .ofFnB 33 [1000000] mixed Tryz.func33 rfl (fun _ => rfl) (k33 p0 p1)
end Go.Proofs.YtioobnkmohikjaaGreatDoor
namespace Go.Proofs.YtioobnkmohikjaaGreatDoor
open Go Go.EV
set_option maxRecDepth 100000
def paC (x : SPair) : List V := [.int .i64 x.fLocal, .int .i64 x.fRemote, .int .i64 x.fPriority, .int .i64 x.fState]
def caC (x : SCandidate) : List V := [.int .i64 x.fKind, .int .i64 x.fComponent, .int .i64 x.fPriority, .str x.fFoundation, .str x.fAddr.fHost, .int .i64 x.fAddr.fPort, .str x.fBase.fHost, .int .i64 x.fBase.fPort]
def paO (out : List SPair) : V := .ref 1900070 0 out.length
def paTs : List (Nat × V) := [(6, .ptr 1000006 0 0), (7, .int .i64 0), (8, .ptr 1700061 0 0), (9, .ptr 1000009 0 0), (49, .fn 32 [.ptr 1700061 0 0] [])]
def paL (c : Bool) (ls rs : List SCandidate) (o : V) : List (Nat × Blk) :=
 [(1000006, ⟨4, true, [[.bool false, .nilsl, .nilsl, .nilsl]]⟩), (1000009, ⟨1, true, [[o]]⟩), (1700061, ⟨4, true, [[.bool c, .ref 1700062 0 ls.length, .ref 1700063 0 rs.length, .nilsl]]⟩)]
def paT (ls rs : List SCandidate) (out : List SPair) : List BT := [BT.of 1900070 tySPair 4 out true, BT.of 1700062 tySCandidate 8 ls true, BT.of 1700063 tySCandidate 8 rs true]
def paX (ts : List (Nat × V)) (c : Bool) (ls rs : List SCandidate) (out : List SPair) : Ext := Ext.of .normal ts (paL c ls rs (paO out)) (paT ls rs out) (by rfl)
def paB (c : Bool) (ls rs : List SCandidate) (out : List SPair) : List (Nat × Blk) := (paX [] c ls rs out).bs
theorem gst_to {st : St} (x : Ext) {n : Nat} (hok : x.ok = true) (hn : st.n = n) (h : extTs x st = x.ts ∧ extBs x st = x.bs.map fun p => (p.1, some p.2)) : Gst GG st (x.D n).st := by
 subst hn; exact ext_ghost hok h.1 h.2
def cRn : Code → Code
 | .seq _ (.scope (.seq _ (.seq _ (.seq _ (.seq _ (.seq (.seq _ (.block _ c)) _)))))) => c
 | _ => .skip
noncomputable def paR : Code := cRn (Tryz.f11.body.getD .skip)
noncomputable def paAs : Code := rAssign paR
noncomputable def paBd : Code := rBody paR
section
variable (c : Bool) (ls rs : List SCandidate) (out : List SPair)
def xRa (x : SPair) : Ext := paX ((50, .agg (paC x)) :: paTs) c ls rs out
def xRb (x : SPair) : Ext := Ext.of .normal (paTs ++ [(10, .ptr 10 0 0)]) ((10, ⟨4, true, [paC x]⟩) :: paL c ls rs (paO out)) (paT ls rs out) (by rfl)
def xRd (x : SPair) : Ext := Ext.of .normal [] (paL c ls rs (.ref 54 0 (out ++ [x]).length)) [BT.of 54 tySPair 4 (out ++ [x]) true, BT.of 1700062 tySCandidate 8 ls true, BT.of 1700063 tySCandidate 8 rs true] (by rfl)
theorem kRa (x : SPair) : Piece Tryz.prog GG [6, 7, 8, 9, 10, 49] 154 paAs (xRa c ls rs out x) (.done () : TT Unit) (fun _ => xRb c ls rs out x) := by unfold Piece; kernel_rfl
def gRd (x : SPair) : TT Unit := .app 9004 tySPair out [x] 32 false (by intro h; cases h) (.done ())
theorem kRd (x : SPair) : Piece Tryz.prog GG [54] 154 paBd (xRb c ls rs out x) (gRd out x) (fun _ => xRd c ls rs out x) := by unfold Piece; kernel_rfl
end
theorem mob9 {c : Bool} {ls rs : List SCandidate} {out : List SPair} {x : SPair} {g : St} (h : Gst GG g ((xRd c ls rs out x).D 154).st) : Gst GG g (susp 154 (fun _ => .undef) (ofL (paB c ls rs (out ++ [x])))) :=
 Gst.trans h (Gst.mob (lits := paL c ls rs (.ref 54 0 (out ++ [x]).length)) (rest := [(1700062, (BT.of 1700062 tySCandidate 8 ls true).k), (1700063, (BT.of 1700063 tySCandidate 8 rs true).k)]) (kd := (BT.of 54 tySPair 4 (out ++ [x]) true).k) (d := 54) (m := 1900070) (n := 154)
  (by decide) (by decide) (by decide) (by decide : ([1000006, 1000009, 1700061, 54, 1700062, 1700063] : List Nat).Nodup) (tySPair.data _) (by
   intro p hp
   simp only [List.mem_cons, List.not_mem_nil, or_false] at hp
   rcases hp with rfl | rfl
   ·exact tySCandidate.data ls
   ·exact tySCandidate.data rs) (by rfl) (by rfl))
theorem roundMake (c : Bool) (ls rs : List SCandidate) (out : List SPair) (x : SPair) (hb : (gRd out x).run = some ()) :
  RoundT Tryz.prog GG 154 (tOf paTs) [50] paAs paBd (ofL (paB c ls rs out)) [.agg (paC x)] (fun e b' => e = .normal ∧ b' = ofL (paB c ls rs (out ++ [x]))) := by
 refine ⟨((xRb c ls rs out x).D 154).st, ?_, ?_⟩
 ·have h := (kRa c ls rs out x).tv mixed (r := ()) rfl (by rfl)
  have e : ((xRa c ls rs out x).D 154).st = setP (susp 154 (tOf paTs) (ofL (paB c ls rs out))) ([50].zip [.agg (paC x)]) := by
   rw [ext_susp (by rfl)]
   exact (setP_susp 154 paTs _ 50 (.agg (paC x))).symm
  rw [e] at h
  exact h
 ·refine ((kRd c ls rs out x).tv mixed hb (by rfl)).mono fun e s' hg => ?_
  obtain ⟨rfl, g⟩ := hg
  exact ⟨_, 154, ⟨rfl, rfl⟩, mob9 g⟩
def paArgs (l : Nat) : List V := [.ptr 1700061 0 0, .yld l]
noncomputable def cIt : Code := Tryz.f32.body.getD .skip
noncomputable def iR0 : Code := cL cIt
noncomputable def cOut : Code := cB (cB (cR cIt))
noncomputable def iR1 : Code := cL cOut
noncomputable def cO2 : Code := cB (cL (cR (cR cOut)))
noncomputable def iR2 : Code := cL cO2
noncomputable def iR3 : Code := cL (cR cO2)
noncomputable def cIn : Code := cB (cB (cR (cR cO2)))
noncomputable def iR10 : Code := cR (cR (cR cOut))
noncomputable def iR4 : Code := cL cIn
noncomputable def cI2 : Code := cB (cL (cR (cR cIn)))
noncomputable def iR5 : Code := cL cI2
noncomputable def iR6 : Code := cL (cR cI2)
noncomputable def iR7 : Code := cL (cR (cR cI2))
noncomputable def ops8 : Array Oper := rOps (cL (cR (cR (cR cI2))))
noncomputable def iR9 : Code := cR (cR (cR cIn))
theorem eIt : cIt = .seq iR0 (.block 0 (.loop cOut)) := by kernel_rfl
theorem eOut : cOut = .seq iR1 (.seq (.cond (.tmp 16) .skip (.exit 0)) (.seq (.block 1 (.seq iR2 (.seq iR3 (.block 2 (.loop cIn))))) iR10)) := by kernel_rfl
theorem eIn : cIn = .seq iR4 (.seq (.cond (.tmp 27) .skip (.exit 2)) (.seq (.block 3 (.seq iR5 (.seq iR6 (.seq iR7 (.seq (.region 8 ops8 false) (.cond (.tmp 46) .ret .skip)))))) iR9)) := by kernel_rfl
section
variable (l : Nat) (c : Bool) (ls rs : List SCandidate)
def tA (i : Int) : List (Nat × V) := [(0, .ptr 1700061 0 0), (1, .yld l), (13, .ref 1700062 0 ls.length), (14, .int .i64 (ls.length : Int)), (15, .int .i64 i)]
def tB (i : Int) (a : SCandidate) : List (Nat × V) := tA l ls i ++ [(4, .int .i64 i), (5, .snap (caC a))]
def tC (i k : Int) (a : SCandidate) : List (Nat × V) := tB l ls i a ++ [(24, .ref 1700063 0 rs.length), (25, .int .i64 (rs.length : Int)), (26, .int .i64 k)]
def tD (i k : Int) (a : SCandidate) : List (Nat × V) := tC l ls rs i k a ++ [(6, .int .i64 k), (7, .ptr 7 0 0)]
def tE (i k : Int) (a : SCandidate) : List (Nat × V) := tD l ls rs i k a ++ [(8, .ptr 8 0 0)]
def xI (out : List SPair) : Ext := paX (argTs (paArgs l)) c ls rs out
def xA (i : Int) (out : List SPair) : Ext := paX (tA l ls i) c ls rs out
def xA1 (i : Int) (out : List SPair) : Ext := paX (tA l ls i ++ [(16, .bool (decide (i < (ls.length : Int))))]) c ls rs out
def xB0 (i : Int) (a : SCandidate) (out : List SPair) : Ext := Ext.of .normal (tA l ls i ++ [(4, .int .i64 i), (5, .ptr 5 0 0)]) ((5, ⟨8, true, [caC a]⟩) :: paL c ls rs (paO out)) (paT ls rs out) (by rfl)
def xB (i : Int) (a : SCandidate) (out : List SPair) : Ext := paX (tB l ls i a) c ls rs out
def xC (i k : Int) (a : SCandidate) (out : List SPair) : Ext := paX (tC l ls rs i k a) c ls rs out
def xC1 (i k : Int) (a : SCandidate) (out : List SPair) : Ext := paX (tC l ls rs i k a ++ [(27, .bool (decide (k < (rs.length : Int))))]) c ls rs out
def xD (i k : Int) (a b : SCandidate) (out : List SPair) : Ext := Ext.of .normal (tD l ls rs i k a) ((7, ⟨8, true, [caC b]⟩) :: paL c ls rs (paO out)) (paT ls rs out) (by rfl)
def xE (i k p : Int) (a b : SCandidate) (out : List SPair) : Ext := Ext.of .normal (tE l ls rs i k a) ((7, ⟨8, true, [caC b]⟩) :: (8, ⟨4, true, [paC ⟨i, k, p, 0⟩]⟩) :: paL c ls rs (paO out)) (paT ls rs out) (by rfl)
def tF (i k p : Int) (f : Bool) : List (Nat × V) := bif f then [(41, .bool true), (42, .yld l), (43, .agg (paC ⟨i, k, p, 0⟩))] else [(41, .bool false), (42, .tup []), (43, .tup [])]
def xF (i k p : Int) (a b : SCandidate) (out : List SPair) (f : Bool) : Ext := Ext.of .normal (tE l ls rs i k a ++ tF l i k p f) ((7, ⟨8, true, [caC b]⟩) :: (8, ⟨4, true, [paC ⟨i, k, p, 0⟩]⟩) :: paL c ls rs (paO out)) (paT ls rs out) (by rfl)
def xG (i k p : Int) (a : SCandidate) (out : List SPair) (f : Bool) : Ext := paX (tC l ls rs i k a ++ tF l i k p f) c ls rs out
theorem kR0 (out : List SPair) : Piece Tryz.prog GG [0, 1, 13, 14, 15] 49 iR0 (xI l c ls rs out) (.done () : TT Unit) (fun _ => xA l c ls rs 0 out) := by unfold Piece; kernel_rfl
theorem kR1 (i : Int) (out : List SPair) : Piece Tryz.prog GG [0, 1, 13, 14, 15, 16] 49 iR1 (xA l c ls rs i out) (.done () : TT Unit) (fun _ => xA1 l c ls rs i out) := by unfold Piece; kernel_rfl
def gR2 (i : Int) : TT SCandidate := .chk 2002 (decide (0 ≤ i) && decide (i < (ls.length : Int))) (.row 2003 tySCandidate ls (0 + i.toNat) true fun x => .done x)
theorem kR2 (i : Int) (out : List SPair) : Piece Tryz.prog GG [0, 1, 4, 5, 13, 14, 15] 49 iR2 (xA l c ls rs i out) (gR2 ls i) (fun a => xB0 l c ls rs i a out) := by unfold Piece; kernel_rfl
theorem kR3 (i : Int) (a : SCandidate) (out : List SPair) : Piece Tryz.prog GG [0, 1, 4, 5, 13, 14, 15, 24, 25, 26] 49 iR3 (xB l c ls rs i a out) (.done () : TT Unit) (fun _ => xC l c ls rs i 0 a out) := by unfold Piece; kernel_rfl
theorem kR4 (i k : Int) (a : SCandidate) (out : List SPair) : Piece Tryz.prog GG [0, 1, 4, 5, 13, 14, 15, 24, 25, 26, 27] 49 iR4 (xC l c ls rs i k a out) (.done () : TT Unit) (fun _ => xC1 l c ls rs i k a out) := by unfold Piece; kernel_rfl
def gR5 (k : Int) : TT SCandidate := .chk 5002 (decide (0 ≤ k) && decide (k < (rs.length : Int))) (.row 5003 tySCandidate rs (0 + k.toNat) true fun x => .done x)
theorem kR5 (i k : Int) (a : SCandidate) (out : List SPair) : Piece Tryz.prog GG [0, 1, 4, 5, 6, 7, 13, 14, 15, 24, 25, 26] 49 iR5 (xC l c ls rs i k a out) (gR5 rs k) (fun b => xD l c ls rs i k a b out) := by unfold Piece; kernel_rfl
theorem kR6 (i k : Int) (a b : SCandidate) (out : List SPair) : Piece Tryz.prog GG [0, 1, 4, 5, 6, 7, 8, 13, 14, 15, 24, 25, 26] 49 iR6 (xD l c ls rs i k a b out) (.done () : TT Unit) (fun _ => xE l c ls rs i k 0 a b out) := by unfold Piece; kernel_rfl
noncomputable def gR7 (i k : Int) : TT Int := .view 7003 (s56_1 c ls rs (SPair.mk i k 0 0)) [(VwW.of 1700062 tySCandidate ls), (VwW.of 1700063 tySCandidate rs)] fun r => .done r
theorem kR7 (i k : Int) (a b : SCandidate) (out : List SPair) : Piece Tryz.prog GG [0, 1, 4, 5, 6, 7, 8, 13, 14, 15, 24, 25, 26] 49 iR7 (xE l c ls rs i k 0 a b out) (gR7 c ls rs i k) (fun p => xE l c ls rs i k p a b out) := by unfold Piece; kernel_rfl
noncomputable def gR8 (a b : SCandidate) : TT Bool := .call 8003 (s64 a b) [] [] fun r => .br 8005 r (.done true) (.done false)
theorem kR8 (i k p : Int) (a b : SCandidate) (out : List SPair) : PieceOps Tryz.prog GG [0, 1, 4, 5, 6, 7, 8, 13, 14, 15, 24, 25, 26, 41, 42, 43] 49 8 ops8 6 (xE l c ls rs i k p a b out) (gR8 a b) (xF l c ls rs i k p a b out) := by unfold PieceOps; kernel_rfl
theorem kR9 (i k : Int) (a : SCandidate) (out : List SPair) : Piece Tryz.prog GG [0, 1, 4, 5, 13, 14, 15, 24, 25, 26] 49 iR9 (xC l c ls rs i k a out) (.done () : TT Unit) (fun _ => xC l c ls rs i (wi64 (k + 1)) a out) := by unfold Piece; kernel_rfl
theorem kR10 (i : Int) (out : List SPair) : Piece Tryz.prog GG [0, 1, 13, 14, 15] 49 iR10 (xA l c ls rs i out) (.done () : TT Unit) (fun _ => xA l c ls rs (wi64 (i + 1)) out) := by unfold Piece; kernel_rfl
end
noncomputable def inStep (c : Bool) (ls rs : List SCandidate) (i : Int) (a : SCandidate) (s : Int × List SPair) : Option ((Int × List SPair) ⊕ List SPair) :=
 bif decide (s.1 < (rs.length : Int)) then
  (match (gR5 rs s.1).run with
  | none => none
  | some b => match (gR7 c ls rs i s.1).run with
   | none => none
   | some p => match (gR8 a b).run with
    | none => none
    | some f => bif f then (match (gRd s.2 ⟨i, s.1, p, 0⟩).run with
      | none => none
      | some _ => some (.inl (wi64 (s.1 + 1), s.2 ++ [⟨i, s.1, p, 0⟩])))
     else some (.inl (wi64 (s.1 + 1), s.2)))
 else some (.inr s.2)
noncomputable def inM (c : Bool) (ls rs : List SCandidate) (i : Int) (a : SCandidate) (out : List SPair) : Option (List SPair) := iter (inStep c ls rs i a) FUEL (0, out)
noncomputable def outStep (c : Bool) (ls rs : List SCandidate) (s : Int × List SPair) : Option ((Int × List SPair) ⊕ List SPair) :=
 bif decide (s.1 < (ls.length : Int)) then
  (match (gR2 ls s.1).run with
  | none => none
  | some a => match inM c ls rs s.1 a s.2 with
   | none => none
   | some out => some (.inl (wi64 (s.1 + 1), out)))
 else some (.inr s.2)
noncomputable def pairsM (c : Bool) (ls rs : List SCandidate) : Option (List SPair) := iter (outStep c ls rs) FUEL (0, [])
noncomputable def paYL : YL := ⟨154, tOf paTs, #[50], paAs, paBd⟩
theorem inner (l : Nat) (c : Bool) (ls rs : List SCandidate) (i : Int) (a : SCandidate) (out : List SPair) {r : List SPair} (h : inM c ls rs i a out = some r) {Q : Exit → YS → Prop}
    (hq : ∀ st, Gst GG st ((xA l c ls rs i r).D 49).st → Q .normal ⟨.normal, st⟩) :
    YT Tryz.prog GG paYL l (.block 2 (.loop cIn)) ⟨.normal, ((xC l c ls rs i 0 a out).D 49).st⟩ Q := by
  refine YT.block ?_
  refine YT.loop (fun m s => s.x = .normal ∧ ∃ y : Int × List SPair, Gst GG s.st ((xC l c ls rs i y.1 a y.2).D 49).st ∧ iter (inStep c ls rs i a) m y = some r) (fun m s hI => ?_) (n := FUEL) ⟨rfl, (0, out), Gst.same _, h⟩
  obtain ⟨x, st⟩ := s
  obtain ⟨rfl, ⟨k, o⟩, g, hit⟩ := hI
  refine YT.gst g ?_
  cases m with
  | zero => simp [iter] at hit
  | succ m =>
    rw [iter_succ] at hit
    rw [eIn]
    refine YT.seq (YT.piece (kR4 l c ls rs i k a o) mixed rfl (by rfl) fun s g => ?_)
    show YT _ _ _ _ _ _ _
    refine YT.gst g ?_
    cases hc : decide (k < (rs.length : Int)) with
    | false =>
      have hs0 : inStep c ls rs i a (k, o) = some (.inr o) := by unfold inStep; simp only [hc]; rfl
      rw [hs0] at hit
      obtain rfl : o = r := Option.some.inj hit
      refine YT.seq (YT.cond (b := false) (by show some (V.bool (decide (k < (rs.length : Int)))) = _; rw [hc]) (YT.exit ?_))
      show Q .normal _
      exact hq _ (gst_to (xA l c ls rs i o) (by rfl) rfl ⟨by rfl, by rfl⟩)
    | true =>
      refine YT.seq (YT.cond (b := true) (by show some (V.bool (decide (k < (rs.length : Int)))) = _; rw [hc]) (YT.skip ?_))
      show YT _ _ _ _ _ _ _
      refine YT.gst (st' := ((xC l c ls rs i k a o).D 49).st) (gst_to (xC l c ls rs i k a o) (by rfl) rfl ⟨by rfl, by rfl⟩) ?_
      cases h5 : (gR5 rs k).run with
      | none => have hs0 : inStep c ls rs i a (k, o) = none := by unfold inStep; simp only [hc, h5]; rfl
                rw [hs0] at hit; simp at hit
      | some b =>
      cases h7 : (gR7 c ls rs i k).run with
      | none => have hs0 : inStep c ls rs i a (k, o) = none := by unfold inStep; simp only [hc, h5, h7]; rfl
                rw [hs0] at hit; simp at hit
      | some p =>
      cases h8 : (gR8 a b).run with
      | none => have hs0 : inStep c ls rs i a (k, o) = none := by unfold inStep; simp only [hc, h5, h7, h8]; rfl
                rw [hs0] at hit; simp at hit
      | some f =>
      have next : ∀ (o2 : List SPair) (st : St), iter (inStep c ls rs i a) m (wi64 (k + 1), o2) = some r → Gst GG st ((xC l c ls rs i k a o2).D 49).st →
          YT Tryz.prog GG paYL l iR9 ⟨.normal, st⟩ (thenY (fun s' => ∃ m', m' < m + 1 ∧ s'.x = .normal ∧ ∃ y : Int × List SPair, Gst GG s'.st ((xC l c ls rs i y.1 a y.2).D 49).st ∧ iter (inStep c ls rs i a) m' y = some r) (inBlockY 2 Q)) := fun o2 st h2 g2 => by
        refine YT.gst g2 ?_
        refine YT.piece (kR9 l c ls rs i k a o2) mixed rfl (by rfl) fun s g => ?_
        exact ⟨m, Nat.lt_succ_self m, rfl, (wi64 (k + 1), o2), g, h2⟩
      refine YT.seq (YT.block (YT.seq (YT.piece (kR5 l c ls rs i k a o) mixed h5 (by rfl) fun s g => ?_)))
      show YT _ _ _ _ _ _ _
      refine YT.gst g ?_
      refine YT.seq (YT.piece (kR6 l c ls rs i k a b o) mixed rfl (by rfl) fun s g => ?_)
      show YT _ _ _ _ _ _ _
      refine YT.gst g ?_
      refine YT.seq (YT.piece (kR7 l c ls rs i k a b o) mixed h7 (by rfl) fun s g => ?_)
      show YT _ _ _ _ _ _ _
      refine YT.gst g ?_
      refine YT.seq (YT.region ?_)
      show YTops _ _ _ _ _ ([0, 1, 2, 3, 4, 5] ++ [6, 7, 8]) _ _
      refine YTops.tv ((kR8 l c ls rs i k p a b o).tv mixed h8 (by cases f <;> rfl)) fun e st hq' => ⟨by rw [hq'.1]; cases f <;> rfl, YTops.gst hq'.2 ?_⟩
      refine YTops.gst (st' := ((xG l c ls rs i k p a o f).D 49).st) (by cases f <;> exact gst_to _ (by rfl) rfl ⟨by rfl, by rfl⟩) ?_
      cases f with
      | false =>
        have hs0 : inStep c ls rs i a (k, o) = some (.inl (wi64 (k + 1), o)) := by unfold inStep; simp only [hc, h5, h7, h8]; rfl
        rw [hs0] at hit
        refine YTops.step rfl (YTops.step rfl (YTops.step rfl (YTops.nil ?_)))
        show YT _ _ _ _ _ _ _
        refine YT.cond (b := false) rfl (YT.skip ?_)
        show YT _ _ _ _ _ _ _
        exact next o _ hit (gst_to (xC l c ls rs i k a o) (by rfl) rfl ⟨by rfl, by rfl⟩)
      | true =>
        cases hd : (gRd o ⟨i, k, p, 0⟩).run with
        | none => have hs0 : inStep c ls rs i a (k, o) = none := by unfold inStep; simp only [hc, h5, h7, h8, hd]; rfl
                  rw [hs0] at hit; simp at hit
        | some u =>
        have hs0 : inStep c ls rs i a (k, o) = some (.inl (wi64 (k + 1), o ++ [⟨i, k, p, 0⟩])) := by unfold inStep; simp only [hc, h5, h7, h8, hd]; rfl
        rw [hs0] at hit
        rw [ext_susp (x := xG l c ls rs i k p a o true) (by rfl) 49]
        refine YTops.yieldG (hi := rfl) rfl rfl rfl rfl rfl rfl rfl ?_ ?_ ?_ rfl (roundMake c ls rs o ⟨i, k, p, 0⟩ hd) ?_ ?_
        · exact fun i => tOf_ok (by rfl) i
        · exact fun i => tOf_ok (by rfl) i
        · intro p hp
          have : p ∈ [50] := hp
          simp at this
          subst this
          exact (by decide : 50 < 154)
        · exact fun e b' h => .inl h.1
        · intro e b' h
          obtain ⟨rfl, rfl⟩ := h
          refine YTops.step rfl (YTops.step rfl (YTops.nil ?_))
          show YT _ _ _ _ _ _ _
          refine YT.cond (b := false) rfl (YT.skip ?_)
          show YT _ _ _ _ _ _ _
          exact next _ _ hit (gst_to (xC l c ls rs i k a (o ++ [⟨i, k, p, 0⟩])) (by rfl) rfl ⟨by rfl, by rfl⟩)
theorem iterMake (c : Bool) (ls rs : List SCandidate) {r : List SPair} (h : pairsM c ls rs = some r) :
    IterT Tryz.prog GG cIt 49 paArgs (ofL (paB c ls rs [])) paYL (fun e b => e = .normal ∧ b = ofL (paB c ls rs r)) := by
  refine IterT.of fun l => ?_
  have e0 : entry 49 (paArgs l) (ofL (paB c ls rs [])) = ((xI l c ls rs []).D 49).st := (entry_ext (x := xI l c ls rs []) (by rfl) (by rfl) 49).symm
  rw [e0, eIt]
  refine YT.seq (YT.piece (kR0 l c ls rs []) mixed rfl (by rfl) fun s g => ?_)
  show YT _ _ _ _ _ _ _
  refine YT.gst g ?_
  refine YT.block ?_
  refine YT.loop (fun m s => s.x = .normal ∧ ∃ y : Int × List SPair, Gst GG s.st ((xA l c ls rs y.1 y.2).D 49).st ∧ iter (outStep c ls rs) m y = some r) (fun m s hI => ?_) (n := FUEL) ⟨rfl, (0, []), Gst.same _, h⟩
  obtain ⟨x, st⟩ := s
  obtain ⟨rfl, ⟨i, o⟩, g, hit⟩ := hI
  refine YT.gst g ?_
  cases m with
  | zero => simp [iter] at hit
  | succ m =>
    rw [iter_succ] at hit
    rw [eOut]
    refine YT.seq (YT.piece (kR1 l c ls rs i o) mixed rfl (by rfl) fun s g => ?_)
    show YT _ _ _ _ _ _ _
    refine YT.gst g ?_
    cases hc : decide (i < (ls.length : Int)) with
    | false =>
      have hs0 : outStep c ls rs (i, o) = some (.inr o) := by unfold outStep; simp only [hc]; rfl
      rw [hs0] at hit
      obtain rfl : o = r := Option.some.inj hit
      refine YT.seq (YT.cond (b := false) (by show some (V.bool (decide (i < (ls.length : Int)))) = _; rw [hc]) (YT.exit ?_))
      refine ⟨.inl rfl, 49, tOf (xA1 l c ls rs i o).ts, ofL (paB c ls rs o), ?_, rfl, rfl⟩
      show Gst GG ((xA1 l c ls rs i o).D 49).st _
      rw [ext_susp (by rfl) 49]
      exact Gst.same _
    | true =>
      refine YT.seq (YT.cond (b := true) (by show some (V.bool (decide (i < (ls.length : Int)))) = _; rw [hc]) (YT.skip ?_))
      show YT _ _ _ _ _ _ _
      refine YT.gst (st' := ((xA l c ls rs i o).D 49).st) (gst_to (xA l c ls rs i o) (by rfl) rfl ⟨by rfl, by rfl⟩) ?_
      cases h2 : (gR2 ls i).run with
      | none => have hs0 : outStep c ls rs (i, o) = none := by unfold outStep; simp only [hc, h2]; rfl
                rw [hs0] at hit; simp at hit
      | some a =>
      cases h3 : inM c ls rs i a o with
      | none => have hs0 : outStep c ls rs (i, o) = none := by unfold outStep; simp only [hc, h2, h3]; rfl
                rw [hs0] at hit; simp at hit
      | some o2 =>
      have hs0 : outStep c ls rs (i, o) = some (.inl (wi64 (i + 1), o2)) := by unfold outStep; simp only [hc, h2, h3]; rfl
      rw [hs0] at hit
      refine YT.seq (YT.block (YT.seq (YT.piece (kR2 l c ls rs i o) mixed h2 (by rfl) fun s g => ?_)))
      show YT _ _ _ _ _ _ _
      refine YT.gst g ?_
      refine YT.gst (Gst.snapT (t := 5) (b := 5) (k := ⟨8, true, [caC a]⟩) (row := caC a) rfl rfl rfl (by show 8 < MAPS; decide) (by simp [caC, dcell])) ?_
      refine YT.gst (st' := ((xB l c ls rs i a o).D 49).st) (gst_to (xB l c ls rs i a o) (by rfl) rfl ⟨by rfl, by rfl⟩) ?_
      refine YT.seq (YT.piece (kR3 l c ls rs i a o) mixed rfl (by rfl) fun s g => ?_)
      show YT _ _ _ _ _ _ _
      refine YT.gst g ?_
      refine inner l c ls rs i a o h3 fun st g => ?_
      show YT _ _ _ _ _ _ _
      refine YT.gst g ?_
      refine YT.piece (kR10 l c ls rs i o2) mixed rfl (by rfl) fun s g => ?_
      exact ⟨m, Nat.lt_succ_self m, rfl, (wi64 (i + 1), o2), g, hit⟩
def paFTs : List (Nat × V) := [(6, .ptr 6 0 0), (7, .int .i64 0), (8, .ptr 700061 0 0), (9, .ptr 9 0 0)]
def paFL (c : Bool) (ls rs : List SCandidate) (out : List SPair) : List (Nat × Blk) :=
 [(6, ⟨4, true, [[.bool false, .nilsl, .nilsl, .nilsl]]⟩), (9, ⟨1, true, [[.ref 900070 0 out.length]]⟩), (700061, ⟨4, true, [[.bool c, .ref 700062 0 ls.length, .ref 700063 0 rs.length, .nilsl]]⟩)]
def paFT (ls rs : List SCandidate) (out : List SPair) : List BT := [BT.of 900070 tySPair 4 out true, BT.of 700062 tySCandidate 8 ls true, BT.of 700063 tySCandidate 8 rs true]
def xPa (c : Bool) (ls rs : List SCandidate) (out : List SPair) : Ext := Ext.of .normal (paFTs ++ [(49, .fn 32 [.ptr 700061 0 0] [])]) (paFL c ls rs out) (paFT ls rs out) (by rfl)
def ePa (c : Bool) (ls rs : List SCandidate) (out : List SPair) : Ext := Ext.of .normal paFTs (paFL c ls rs out) (paFT ls rs out) (by rfl)
theorem sh_rows {α : Type} (ty : Ty α) (l : List α) : (List.map ty.c l).map (renL sh) = List.map ty.c l := by
 have h : DataRows (l.map ty.c) := ty.data l
 have : (⟨0, true, List.map ty.c l⟩ : Blk).ren sh = ⟨0, true, List.map ty.c l⟩ := DataRows.ren (k := ⟨0, true, List.map ty.c l⟩) h sh
 have := congrArg Blk.rows this
 exact this
theorem bsMake (c : Bool) (ls rs : List SCandidate) (out : List SPair) : shB (ofL (xPa c ls rs out).bs) = ofL (paB c ls rs out) := by
 rw [shB_ofL]
 have : ((xPa c ls rs out).bs.map fun p => (sh p.1, p.2.ren sh)) = paB c ls rs out := by
  simp only [xPa, Ext.of, paFL, paFT, List.cons_append, List.nil_append, List.map_cons, List.map_nil, BT.of, Blk.ren, sh_rows]
  kernel_rfl
 rw [this]
theorem loopMake (c : Bool) (ls rs : List SCandidate) {r : List SPair} (h : pairsM c ls rs = some r) :
  TV Tryz.prog GG (.rangeFunc (.tmp 49) #[50] paAs paBd) ((xPa c ls rs []).D 154).st (fun e st => e = .normal ∧ Gst GG st ((ePa c ls rs r).D 154).st) := by
 have ht : (fun i => renV sh (((xPa c ls rs []).D 154).st.t i)) = tOf paTs := by
  have : ((xPa c ls rs []).D 154).st.t = tOf (xPa c ls rs []).ts := rfl
  rw [this, tOf_shift]
  have : ((xPa c ls rs []).ts.map fun p => (p.1, renV sh p.2)) = paTs := by kernel_rfl
  rw [this]
 have hb : Tryz.f32.body = some cIt := by kernel_rfl
 refine TV.rangeF (f := 32) (fi := Tryz.f32) (c := cIt) (first := [.ptr 1700061 0 0]) (caps := []) (R := fun e b => e = .normal ∧ b = ofL (paB c ls rs r)) ?_ Tryz.func32 hb (by kernel_rfl) (by kernel_rfl) ?_ (fun i => ?_) ?_ ?_
 ·show some ((fun i => renV sh (((xPa c ls rs []).D 154).st.t i)) 49) = _
  rw [ht]; rfl
 ·intro b k hk
  obtain ⟨q, h1, rfl, _⟩ := find_b (show ofL (xPa c ls rs []).bs b = some k from hk)
  show (((xPa c ls rs []).us).contains q.1 || uTop q.1) = true
  simp only [Ext.us, Bool.or_eq_true, List.contains_eq_mem, decide_eq_true_eq]
  exact .inl (List.mem_map.2 ⟨q, h1, rfl⟩)
 ·have := congrFun ht i
  rw [show renV sh (((xPa c ls rs []).D 154).st.t i) = tOf paTs i from this]
  exact tOf_ok (by rfl) i
 ·have hbb : shB ((xPa c ls rs []).D 154).st.b = ofL (paB c ls rs []) := bsMake c ls rs []
  rw [ht, hbb]
  have e : max Tryz.f32.ntmps ([V.ptr 1700061 0 0].length + 1 + ([] : List V).length) = 49 := by kernel_rfl
  rw [e]
  exact iterMake c ls rs h
 ·intro e b' ho
  obtain ⟨rfl, rfl⟩ := ho
  refine ⟨.inl rfl, ofL (xPa c ls rs r).bs, (bsMake c ls rs r).symm, ?_, rfl, ?_⟩
  ·show (stOf 154 (xPa c ls rs []).ts (xPa c ls rs r).bs (xPa c ls rs []).us).known
   refine ⟨fun i b hm => ?_, fun i k hk => ?_⟩
   ·have hm' : b ∈ refsV (tOf (xPa c ls rs []).ts i) := hm
    unfold tOf at hm'
    cases hf : (xPa c ls rs []).ts.find? (fun p => p.1 == i) with
    | none => rw [hf] at hm'; simp [refsV] at hm'
    | some p =>
     rw [hf] at hm'
     have all : ((xPa c ls rs []).ts.all fun p => (refsV p.2).all fun b => (xPa c ls rs []).us.contains b) = true := by rfl
     have := List.all_eq_true.1 (List.all_eq_true.1 all p (List.mem_of_find?_eq_some hf)) b hm'
     show ((xPa c ls rs []).us.contains b || uTop b) = true
     rw [this]; rfl
   ·obtain ⟨q, h1, rfl, rfl⟩ := find_b (show ofL (xPa c ls rs r).bs i = some k from hk)
    have husl : (xPa c ls rs r).us = (xPa c ls rs []).us := rfl
    refine ⟨?_, fun b hm => ?_⟩
    ·show ((xPa c ls rs []).us.contains q.1 || uTop q.1) = true
     rw [← husl]
     simp only [Ext.us, Bool.or_eq_true, List.contains_eq_mem, decide_eq_true_eq]
     exact .inl (List.mem_map.2 ⟨q, h1, rfl⟩)
    ·have : q ∈ paFL c ls rs r ++ (paFT ls rs r).map fun x => (x.id, x.k) := h1
     rcases List.mem_append.1 this with h2 | h2
     ·have all : ((paFL c ls rs r).all fun q => (refsL q.2.rows.flatten).all fun b => (xPa c ls rs []).us.contains b) = true := by rfl
      have := List.all_eq_true.1 (List.all_eq_true.1 all q h2) b hm
      show ((xPa c ls rs []).us.contains b || uTop b) = true
      rw [this]; rfl
     ·have hdat := bts_dat _ h2
      rw [hdat.refs] at hm; simp at hm
  ·show Gst GG (stOf 154 (xPa c ls rs []).ts (xPa c ls rs r).bs (xPa c ls rs []).us) _
   exact gst_to (ePa c ls rs r) (by rfl) rfl ⟨by rfl, by rfl⟩
noncomputable def subPairs (c : Bool) (ls rs : List SCandidate) : Sub Tryz.prog GG (List SPair) :=
 ⟨.rangeFunc (.tmp 49) #[50] paAs paBd, 154, xPa c ls rs [], pairsM c ls rs, ePa c ls rs, fun _ h => loopMake c ls rs h⟩
end Go.Proofs.YtioobnkmohikjaaGreatDoor
namespace Go.Proofs.YtioobnkmohikjaaGreatDoor
open Go Go.EV
set_option maxRecDepth 100000
noncomputable def cMk : Code := cB (cR (Tryz.f11.body.getD .skip))
def cWt : Code → Code
 | .seq _ (.seq _ (.seq _ (.seq _ (.seq _ (.seq _ (.seq _ (.seq _ (.seq _ (.seq _ (.seq _ (.seq c _))))))))))) => c
 | _ => .skip
noncomputable def wCode : Code := cWt cMk
noncomputable def wOps29 : Array Oper := rOps (cL wCode)
noncomputable def wLoop : Code := cB (cB (cR wCode))
noncomputable def wOps30 : Array Oper := rOps (cL wLoop)
noncomputable def wBody : Code := cB (cR (cR wLoop))
noncomputable def wOps31 : Array Oper := rOps (cL wBody)
noncomputable def wOps32 : Array Oper := rOps (cR wBody)
theorem eWt : wCode = .seq (.region 29 wOps29 false) (.block 6 (.loop (.seq (.region 30 wOps30 false) (.seq (.cond (.tmp 139) .skip (.exit 6)) (.block 7 (.seq (.region 31 wOps31 false) (.region 32 wOps32 false))))))) := by kernel_rfl
def wTs : List (Nat × V) := [(6, .ptr 6 0 0), (7, .int .i64 0), (8, .ptr 700061 0 0)]
def wL (c : Bool) (ls rs : List SCandidate) (m : Nat) : List (Nat × Blk) := [(6, ⟨4, true, [[.bool false, .nilsl, .nilsl, .nilsl]]⟩), (700061, ⟨4, true, [[.bool c, .ref 700062 0 ls.length, .ref 700063 0 rs.length, .ref 700064 0 m]]⟩)]
def wT (ls rs : List SCandidate) (s : List SPair) : List BT := [BT.of 700062 tySCandidate 8 ls true, BT.of 700063 tySCandidate 8 rs true, BT.of 700064 tySPair 4 s true]
section
variable (c : Bool) (ls rs : List SCandidate) (m : Nat)
def eW (s : List SPair) : Ext := Ext.of .normal wTs (wL c ls rs m) (wT ls rs s) (by rfl)
def xW (l : List SEnt90) (s : List SPair) : Ext := Ext.of .normal (wTs ++ [(14, .mp 700065)]) (wL c ls rs m) (wT ls rs s ++ [BT.of 700065 tySEnt90 1114370 l true]) (by rfl)
def xWi (i : Int) (s : List SPair) : Ext := Ext.of .normal (wTs ++ [(21, .int .i64 i)]) (wL c ls rs m) (wT ls rs s) (by rfl)
def gW (i : Int) (s : List SPair) : TT (List SPair) :=
 .chk 32007 (decide (0 ≤ i) && decide (i < (m : Int))) (.row 32009 tySPair s (0 + i.toNat) true fun x =>
  .re 32009 (ReW.put 700064 4 tySPair s (0 + i.toNat) (SPair.mk x.fLocal x.fRemote x.fPriority 1)) (.done (s.set (0 + i.toNat) (SPair.mk x.fLocal x.fRemote x.fPriority 1))))
theorem kW (i : Int) (s : List SPair) : PieceOps Tryz.prog GG [6, 7, 8] 154 32 wOps32 9 (xWi c ls rs m i s) (gW m i s) (fun s' => eW c ls rs m s') := by unfold PieceOps; kernel_rfl
end
def wSet (m : Nat) (i : Int) (s : List SPair) : Option (List SPair) :=
 bif decide (0 ≤ i) && decide (i < (m : Int)) then (match s[i.toNat]? with | some x => some (s.set i.toNat (SPair.mk x.fLocal x.fRemote x.fPriority 1)) | none => none) else none
theorem gW_run (m : Nat) (i : Int) (s : List SPair) : (gW m i s).run = wSet m i s := by
 unfold gW wSet
 simp only [T.run, Nat.zero_add, cond_true]
 cases (decide (0 ≤ i) && decide (i < (m : Int))) with
 | false => rfl
 | true => simp only [cond_true]; cases s[i.toNat]? <;> rfl
theorem wSet_comm (m : Nat) (i j : Int) (s : List SPair) : (wSet m i s).bind (wSet m j) = (wSet m j s).bind (wSet m i) := by
 unfold wSet
 cases hi : (decide (0 ≤ i) && decide (i < (m : Int))) <;> cases hj : (decide (0 ≤ j) && decide (j < (m : Int)))
 ·rfl
 ·simp only [cond_true, cond_false]
  cases s[j.toNat]? <;> rfl
 ·simp only [cond_true, cond_false]
  cases s[i.toNat]? <;> rfl
 ·simp only [cond_true]
  by_cases e : i.toNat = j.toNat
  ·rw [e]
  ·cases h1 : s[i.toNat]? with
   | none =>
    cases h2 : s[j.toNat]? with
    | none => rfl
    | some y => simp only [Option.bind_none, Option.bind_some, List.getElem?_set_ne (Ne.symm e), h1]
   | some x =>
    cases h2 : s[j.toNat]? with
    | none => simp only [Option.bind_none, Option.bind_some, List.getElem?_set_ne e, h2]
    | some y => simp only [Option.bind_some, List.getElem?_set_ne e, List.getElem?_set_ne (Ne.symm e), h1, h2, Option.some.injEq]; exact List.set_comm _ _ e
def wAll (m : Nat) (l : List SEnt90) (s : List SPair) : Option (List SPair) := foldB (fun x s => wSet m x.fv s) l s
theorem loopWait (c : Bool) (ls rs : List SCandidate) (m : Nat) (l : List SEnt90) (s0 : List SPair) {r : List SPair} (h : wAll m l s0 = some r) :
  TV Tryz.prog GG wCode ((xW c ls rs m l s0).D 154).st (fun e st => e = .normal ∧ Gst GG st ((eW c ls rs m r).D 154).st) := by
 rw [eWt]
 have key := TV.rangeMap (P := Tryz.prog) (G := GG) (ty := tySEnt90) (z := 1114370) (b := 700065) (mt := 90) (kt := 91) (et := 3) (n := 154) (ex := true) (l := l) (kd := .i64) (fv := fun x => x.fv) (i29 := 29) (i30 := 30) (i31 := 31) (i32 := 32) (B := 6) (B2 := 7) (ops29 := wOps29) (ops30 := wOps30) (ops31 := wOps31) (ops32 := wOps32)
  (tm := 14) (t0 := 136) (it := 137) (tn := 138) (tb := 139) (te := 140) (tw := 141) (tv := 21) (st := ((xW c ls rs m l s0).D 154).st) (S := fun s => ((eW c ls rs m s).D 154).st) (body := fun x s => wSet m x.fv s) (s0 := s0) (r := r)
  (by kernel_rfl) (by kernel_rfl) (by kernel_rfl) (by kernel_rfl) (by decide) (by decide) (by kernel_rfl) ⟨by decide, by decide⟩ (by decide) rfl rfl rfl (fun x => rfl) (fun s => ⟨rfl, rfl, rfl, rfl, rfl, rfl, rfl⟩)
  (gst_to (eW c ls rs m s0) (by rfl) rfl ⟨by rfl, by rfl⟩) (fun x s s' hs => ?_) (fun x y s => wSet_comm m x.fv y.fv s) h
 ·exact key.mono fun e st hq => ⟨hq.1, by rw [hq.2]; exact Gst.same _⟩
 ·have e : ((eW c ls rs m s).D 154).st.setT 21 (.int .i64 x.fv) = ((xWi c ls rs m x.fv s).D 154).st := by
   refine St.ext' rfl fun l => ?_
   cases l with
   | b j => exact ⟨rfl, rfl⟩
   | t j =>
    show (if j = 21 then V.int .i64 x.fv else tOf wTs j) = tOf (wTs ++ [(21, .int .i64 x.fv)]) j
    unfold tOf
    by_cases hj : j = 21
    ·subst hj; rfl
    ·rw [if_neg hj, List.find?_append]
     cases wTs.find? (fun p => p.1 == j) with
     | some p => rfl
     | none =>
      have : ((21 : Nat) == j) = false := by simpa using fun e => hj e.symm
      simp [this]
  have := (kW c ls rs m x.fv s).tv mixed (r := s') (by rw [gW_run]; exact hs) (by rfl)
  rw [← e] at this
  exact this
noncomputable def subWait (c : Bool) (ls rs : List SCandidate) (m : Nat) (l : List SEnt90) (s : List SPair) : Sub Tryz.prog GG (List SPair) :=
 ⟨wCode, 154, xW c ls rs m l s, wAll m l s, eW c ls rs m, fun _ h => loopWait c ls rs m l s h⟩
end Go.Proofs.YtioobnkmohikjaaGreatDoor
namespace Go.Proofs.YtioobnkmohikjaaGreatDoor
open Go Go.EV
set_option maxRecDepth 100000
noncomputable def g31 (p0 : (List SCandidate)) : TT Unit := .app 3003 tySCandidate [] p0 88 true (by intros; rfl) (.done ())
theorem k31y : Piece Tryz.prog GG [2] 8 (cloneYes Tryz.f31.body) (Ext.lit .normal [(2, .nilsl)] []) (.done () : TT Unit) (fun _ => Ext.lit .ret [(2, .nilsl)] []) := by unfold Piece; kernel_rfl
theorem k31r (p0 : (List SCandidate)) : Piece Tryz.prog GG [0, 2, 5, 6, 7] 8 (cloneRest Tryz.f31.body) (Ext.lit .normal [(0, .sl false 8 (List.map tySCandidate.c p0)), (2, .nilsl)] []) (g31 p0) (fun _ => Ext.of .ret [(2, .ref 7 0 ([] ++ p0).length)] [] [BT.of 7 tySCandidate 8 ([] ++ p0)] (by rfl)) := by unfold Piece; kernel_rfl
theorem k31 (p0 : (List SCandidate)) {r : Unit} (h : (g31 p0).run = some r) : CallC Tryz.prog GG 31 [.sl false 8 (List.map tySCandidate.c p0)] (ofL []) (.ref 7 0 p0.length) (ofL [(7, ⟨8, true, List.map tySCandidate.c p0⟩)]) :=
 clone_ok (ty := tySCandidate) (ops0 := cloneOps0 Tryz.f31.body) (ops1 := cloneOps1 Tryz.f31.body) (yes := cloneYes Tryz.f31.body) (rest := cloneRest Tryz.f31.body) (t := 31) mixed (by decide) Tryz.func31 (by kernel_rfl) (by kernel_rfl) (by kernel_rfl) (by kernel_rfl) (by kernel_rfl) (by kernel_rfl) (by kernel_rfl) (by kernel_rfl) (by kernel_rfl) k31y (k31r p0) (by rfl) h
noncomputable def s31 (p0 : (List SCandidate)) : EV.Spec Tryz.prog GG Unit := ⟨31, [.sl false 8 (List.map tySCandidate.c p0)], [], (g31 p0).run, fun _ => .ref 7 0 p0.length, fun _ => [(7, ⟨8, true, List.map tySCandidate.c p0⟩)], [7], fun _ p hp _ => by
 rw [List.mem_singleton.1 hp]; exact tySCandidate.data _, fun _ h => k31 p0 h⟩
noncomputable def g11 (p0 : (List SCandidate)) (p1 : (List SCandidate)) (p2 : Bool) : TT (SList × Int) :=
 .cnd 1 [29]
 (.br 1005 (decide ((12 : Int) < (mlen tySCandidate p0)))
  (.done true)
  (.done (decide ((12 : Int) < (mlen tySCandidate p1)))))
 (fun (c598 : Bool) => [.bool c598]) fun c598 =>
 .br 0 c598
 (.done ((SList.mk false [] [] []), 3))
 (.cnd 3 [38]
  (.call 3002 (s30 p0) [] [] fun r599 =>
   .br 3005 (!r599)
   (.done true)
   (.call 3006 (s30 p1) [] [] fun r600 =>
    .done (!r600)))
  (fun (c601 : Bool) => [.bool c601]) fun c601 =>
  .br 0 c601
  (.done ((SList.mk false [] [] []), 90))
  (.call 5003 (s31 p0) [] [(7, 500040)] fun r602 =>
   .call 5005 (s31 p1) [] [(7, 500041)] fun r603 =>
   .gh 1 (.ren 47 700061) (.gh 1 (.ren 500040 700062) (.gh 1 (.ren 500041 700063) (.gh 1 (.virtC 900070 9 0 4) (.sub (subPairs p2 p0 p1) fun r604 =>
   .call 10002 (s33 r604.length r604) [(1000000, 900070)] [] fun r615 =>
   .opr 11001 (Rule.makeMap 86 57 1114373 (by decide)) fun _ =>
   .gh 1 (.virtC 600043 700061 3 4) (.bind 0
   (.lp (fun (l620 : (List SEnt86) × (List SPair) × Int) => Ext.of .normal [(6, .ptr 6 0 0), (7, .int .i64 0), (8, .ptr 700061 0 0), (11, .mp 57), (58, .ref 900070 0 r604.length), (59, .int .i64 (r604.length : Int)), (60, .int .i64 l620.2.2)] [(6, ⟨4, true, [[.bool false, .nilsl, .nilsl, .nilsl]]⟩), (700061, ⟨4, true, [[.bool p2, .ref 700062 0 p0.length, .ref 700063 0 p1.length, .ref 600043 0 l620.2.1.length]]⟩)] [BT.of 57 tySEnt86 1114373 l620.1 true, BT.of 600043 tySPair 4 l620.2.1 true, BT.of 700062 tySCandidate 8 p0 true, BT.of 700063 tySCandidate 8 p1 true, BT.of 900070 tySPair 4 r615 true] (by rfl))
    (fun l620 =>
     .br 0 (decide (l620.2.2 < (r604.length : Int)))
     (.chk 14001 (decide (0 ≤ l620.2.2) && decide (l620.2.2 < (r604.length : Int))) (.row 14002 tySPair r615 (0 + l620.2.2.toNat) true fun x621 =>
      .br 0 ((l620.2.1.length : Int) == 36)
      (.done (.inr l620.2.1))
      (.view 16004 (s36 (SPlanner.mk (SList.mk p2 p0 p1 l620.2.1)) x621) [(VwW.of 700062 tySCandidate p0), (VwW.of 700063 tySCandidate p1), (VwW.of 600043 tySPair l620.2.1)] fun r622 =>
       .opr 16005 (Rule.look (mt := 86) (kt := 88) (et := 4) (z := 1114373) (ty := tySEnt86) (p := (fun x => ((decide (r622.fbase.fHost = x.fk.fbase.fHost)) && ((r622.fbase.fPort == x.fk.fbase.fPort) && ((decide (r622.faddr.fHost = x.fk.faddr.fHost)) && ((r622.faddr.fPort == x.fk.faddr.fPort) && ((r622.fcomponent == x.fk.fcomponent) && true))))))) (kc := [.str r622.fbase.fHost, .int .i64 r622.fbase.fPort, .str r622.faddr.fHost, .int .i64 r622.faddr.fPort, .int .i64 r622.fcomponent]) (.tmp 71) (.tmp 74) 75 57 true l620.1 (.bool false) (.bool (mlook l620.1 (fun x => ((decide (r622.fbase.fHost = x.fk.fbase.fHost)) && ((r622.fbase.fPort == x.fk.fbase.fPort) && ((decide (r622.faddr.fHost = x.fk.faddr.fHost)) && ((r622.faddr.fPort == x.fk.faddr.fPort) && ((r622.fcomponent == x.fk.fcomponent) && true)))))) (fun x => x.fv) false)) ⟨by kernel_rfl, by kernel_rfl, by kernel_rfl, fun _ => by kernel_rfl⟩ (by kernel_rfl) (mlook_map _ _ (fun x : SEnt86 => x.fv) false V.bool)) fun _ =>
       .br 0 (mlook l620.1 (fun x => ((decide (r622.fbase.fHost = x.fk.fbase.fHost)) && ((r622.fbase.fPort == x.fk.fbase.fPort) && ((decide (r622.faddr.fHost = x.fk.faddr.fHost)) && ((r622.faddr.fPort == x.fk.faddr.fPort) && ((r622.fcomponent == x.fk.fcomponent) && true)))))) (fun x => x.fv) false)
       (.done (.inl (l620.1, l620.2.1, (wi64 (l620.2.2 + 1)))))
       (.view 17004 (s36 (SPlanner.mk (SList.mk p2 p0 p1 l620.2.1)) x621) [(VwW.of 700062 tySCandidate p0), (VwW.of 700063 tySCandidate p1), (VwW.of 600043 tySPair l620.2.1)] fun r623 =>
        .opr 17005 (Rule.put (mt := 86) (kt := 88) (et := 4) (z := 1114373) (ty := tySEnt86) (p := (fun x => ((decide (r623.fbase.fHost = x.fk.fbase.fHost)) && ((r623.fbase.fPort == x.fk.fbase.fPort) && ((decide (r623.faddr.fHost = x.fk.faddr.fHost)) && ((r623.faddr.fPort == x.fk.faddr.fPort) && ((r623.fcomponent == x.fk.fcomponent) && true))))))) (kc := [.str r623.fbase.fHost, .int .i64 r623.fbase.fPort, .str r623.faddr.fHost, .int .i64 r623.faddr.fPort, .int .i64 r623.fcomponent]) (.tmp 76) (.tmp 79) (.const (.bool true)) 57 l620.1 (SEnt86.mk r623 true) [.bool true] ⟨by kernel_rfl, by kernel_rfl, by kernel_rfl, fun _ => by kernel_rfl⟩ (by rfl) (by kernel_rfl) (by kernel_rfl) (by decide) (by decide)) fun _ =>
        .app 18009 tySPair l620.2.1 [x621] 32 false (by intro h; cases h) (.gh 0 (.drop [600043]) (.gh 0 (.ren 88 600043) (.done (.inl ((mput l620.1 (fun x => ((decide (r623.fbase.fHost = x.fk.fbase.fHost)) && ((r623.fbase.fPort == x.fk.fbase.fPort) && ((decide (r623.faddr.fHost = x.fk.faddr.fHost)) && ((r623.faddr.fPort == x.fk.faddr.fPort) && ((r623.fcomponent == x.fk.fcomponent) && true)))))) (SEnt86.mk r623 true)), (l620.2.1 ++ [x621]), (wi64 (l620.2.2 + 1)))))))))))
     (.done (.inr l620.2.1)))
    ([], [], 0))
   (fun (e624 : (List SPair)) => Ext.of (.exit 2) [(6, .ptr 6 0 0), (7, .int .i64 0), (8, .ptr 700061 0 0)] [(6, ⟨4, true, [[.bool false, .nilsl, .nilsl, .nilsl]]⟩), (700061, ⟨4, true, [[.bool p2, .ref 700062 0 p0.length, .ref 700063 0 p1.length, .ref 600043 0 e624.length]]⟩)] [BT.of 600043 tySPair 4 e624 true, BT.of 700062 tySCandidate 8 p0 true, BT.of 700063 tySCandidate 8 p1 true] (by rfl))
   (fun e624 =>
    .opr 20001 (Rule.makeMap 90 93 1114370 (by decide)) fun _ =>
    .bind 1
    (.lp (fun (l632 : (List SEnt90) × Int) => Ext.of .normal [(6, .ptr 6 0 0), (7, .int .i64 0), (8, .ptr 700061 0 0), (14, .mp 93), (98, .ref 600043 0 e624.length), (99, .int .i64 (e624.length : Int)), (100, .int .i64 l632.2)] [(6, ⟨4, true, [[.bool false, .nilsl, .nilsl, .nilsl]]⟩), (700061, ⟨4, true, [[.bool p2, .ref 700062 0 p0.length, .ref 700063 0 p1.length, .ref 600043 0 e624.length]]⟩)] [BT.of 93 tySEnt90 1114370 l632.1 true, BT.of 600043 tySPair 4 e624 true, BT.of 700062 tySCandidate 8 p0 true, BT.of 700063 tySCandidate 8 p1 true] (by rfl))
     (fun l632 =>
      .br 0 (decide (l632.2 < (e624.length : Int)))
      (.chk 23002 (decide (0 ≤ l632.2) && decide (l632.2 < (e624.length : Int))) (.row 23003 tySPair e624 (0 + l632.2.toNat) true fun x633 =>
       .view 24003 (s37 (SPlanner.mk (SList.mk p2 p0 p1 e624)) x633) [(VwW.of 700062 tySCandidate p0), (VwW.of 700063 tySCandidate p1), (VwW.of 600043 tySPair e624)] fun r634 =>
       .opr 25003 (Rule.look2 (mt := 90) (kt := 91) (et := 3) (z := 1114370) (ty := tySEnt90) (p := (fun x => ((decide (r634.a0 = x.fk.a0)) && ((decide (r634.a1 = x.fk.a1)) && true)))) (kc := [.str r634.a0, .str r634.a1]) (.tmp 109) (.tmp 110) 111 93 true l632.1 (.int .i64 0) (.int .i64 (mlook l632.1 (fun x => ((decide (r634.a0 = x.fk.a0)) && ((decide (r634.a1 = x.fk.a1)) && true))) (fun x => x.fv) 0)) ⟨by kernel_rfl, by kernel_rfl, by kernel_rfl, fun _ => by kernel_rfl⟩ (by kernel_rfl) (mlook_map _ _ (fun x : SEnt90 => x.fv) 0 (V.int .i64))) fun _ =>
       .cnd 26 [131]
       (.br 26004 (!(l632.1.findIdx? (fun x => ((decide (r634.a0 = x.fk.a0)) && ((decide (r634.a1 = x.fk.a1)) && true)))).isSome)
        (.done true)
        (.view 26006 (s38 (SPlanner.mk (SList.mk p2 p0 p1 e624)) x633) [(VwW.of 700062 tySCandidate p0), (VwW.of 700063 tySCandidate p1), (VwW.of 600043 tySPair e624)] fun r635 =>
         .chk 26014 (decide (0 ≤ (mlook l632.1 (fun x => ((decide (r634.a0 = x.fk.a0)) && ((decide (r634.a1 = x.fk.a1)) && true))) (fun x => x.fv) 0)) && decide ((mlook l632.1 (fun x => ((decide (r634.a0 = x.fk.a0)) && ((decide (r634.a1 = x.fk.a1)) && true))) (fun x => x.fv) 0) < (e624.length : Int))) (.row 26015 tySPair e624 (0 + (mlook l632.1 (fun x => ((decide (r634.a0 = x.fk.a0)) && ((decide (r634.a1 = x.fk.a1)) && true))) (fun x => x.fv) 0).toNat) true fun x636 =>
         .view 26016 (s38 (SPlanner.mk (SList.mk p2 p0 p1 e624)) x636) [(VwW.of 700062 tySCandidate p0), (VwW.of 700063 tySCandidate p1), (VwW.of 600043 tySPair e624)] fun r637 =>
         .done (decide (r635 < r637)))))
       (fun (c638 : Bool) => [.bool c638]) fun c638 =>
       .br 0 c638
       (.opr 27004 (Rule.put (mt := 90) (kt := 91) (et := 3) (z := 1114370) (ty := tySEnt90) (p := (fun x => ((decide (r634.a0 = x.fk.a0)) && ((decide (r634.a1 = x.fk.a1)) && true)))) (kc := [.str r634.a0, .str r634.a1]) (.tmp 132) (.tmp 133) (.tmp 134) 93 l632.1 (SEnt90.mk r634 l632.2) [.int .i64 l632.2] ⟨by kernel_rfl, by kernel_rfl, by kernel_rfl, fun _ => by kernel_rfl⟩ (by rfl) (by kernel_rfl) (by kernel_rfl) (by decide) (by decide)) fun _ =>
        .done (.inl ((mput l632.1 (fun x => ((decide (r634.a0 = x.fk.a0)) && ((decide (r634.a1 = x.fk.a1)) && true))) (SEnt90.mk r634 l632.2)), (wi64 (l632.2 + 1)))))
       (.done (.inl (l632.1, (wi64 (l632.2 + 1)))))))
      (.done (.inr l632.1)))
     ([], 0))
    (fun (e639 : (List SEnt90)) => Ext.of (.exit 4) [(6, .ptr 6 0 0), (7, .int .i64 0), (8, .ptr 700061 0 0), (14, .mp 93)] [(6, ⟨4, true, [[.bool false, .nilsl, .nilsl, .nilsl]]⟩), (700061, ⟨4, true, [[.bool p2, .ref 700062 0 p0.length, .ref 700063 0 p1.length, .ref 600043 0 e624.length]]⟩)] [BT.of 93 tySEnt90 1114370 e639 true, BT.of 600043 tySPair 4 e624 true, BT.of 700062 tySCandidate 8 p0 true, BT.of 700063 tySCandidate 8 p1 true] (by rfl))
    (fun e639 =>
     .gh 1 (.ren 600043 700064) (.gh 1 (.ren 93 700065) (.sub (subWait p2 p0 p1 e624.length e639 e624) fun r640 =>
     .gh 0 (.share (VwW.of 700062 tySCandidate p0) 1) (.gh 0 (.share (VwW.of 700063 tySCandidate p1) 1) (.gh 0 (.share (VwW.part 700064 tySPair r640 e624.length) 1) (.done ((SList.mk p2 p0 p1 (r640.take e624.length)), 0)))))))))))))))
noncomputable def g11_1 (p0 : Bool) (p1 : (List SCandidate)) (p2 : (List SCandidate)) : TT (Int × Bool × (List SCandidate) × (List SCandidate) × (List SPair)) :=
 .cnd 1 [29]
 (.br 1005 (decide ((12 : Int) < (p1.length : Int)))
  (.done true)
  (.done (decide ((12 : Int) < (p2.length : Int)))))
 (fun (c644 : Bool) => [.bool c644]) fun c644 =>
 .br 0 c644
 (.done (3, false, [], [], []))
 (.cnd 3 [38]
  (.view 3002 (s30 p1) [(VwW.of 1000000 tySCandidate p1)] fun r645 =>
   .br 3005 (!r645)
   (.done true)
   (.view 3006 (s30 p2) [(VwW.of 1000001 tySCandidate p2)] fun r646 =>
    .done (!r646)))
  (fun (c647 : Bool) => [.bool c647]) fun c647 =>
  .br 0 c647
  (.done (90, false, [], [], []))
  (.gh 7 (.share (VwW.of 1000000 tySCandidate p1) 0) (.gh 7 (.share (VwW.of 1000001 tySCandidate p2) 0) (.call 5003 (s31 p1) [] [(7, 500045)] fun r648 =>
   .call 5005 (s31 p2) [] [(7, 500046)] fun r649 =>
   .gh 1 (.ren 47 700061) (.gh 1 (.ren 500045 700062) (.gh 1 (.ren 500046 700063) (.gh 1 (.virtC 900070 9 0 4) (.sub (subPairs p0 p1 p2) fun r650 =>
   .call 10002 (s33 r650.length r650) [(1000000, 900070)] [] fun r661 =>
   .opr 11001 (Rule.makeMap 86 57 1114373 (by decide)) fun _ =>
   .gh 1 (.virtC 600048 700061 3 4) (.bind 0
   (.lp (fun (l666 : (List SEnt86) × (List SPair) × Int) => Ext.of .normal [(6, .ptr 6 0 0), (7, .int .i64 0), (8, .ptr 700061 0 0), (11, .mp 57), (58, .ref 900070 0 r650.length), (59, .int .i64 (r650.length : Int)), (60, .int .i64 l666.2.2)] [(6, ⟨4, true, [[.bool false, .nilsl, .nilsl, .nilsl]]⟩), (700061, ⟨4, true, [[.bool p0, .ref 700062 0 p1.length, .ref 700063 0 p2.length, .ref 600048 0 l666.2.1.length]]⟩)] [BT.of 57 tySEnt86 1114373 l666.1 true, BT.of 600048 tySPair 4 l666.2.1 true, BT.of 700062 tySCandidate 8 p1 true, BT.of 700063 tySCandidate 8 p2 true, BT.of 900070 tySPair 4 r661 true] (by rfl))
    (fun l666 =>
     .br 0 (decide (l666.2.2 < (r650.length : Int)))
     (.chk 14001 (decide (0 ≤ l666.2.2) && decide (l666.2.2 < (r650.length : Int))) (.row 14002 tySPair r661 (0 + l666.2.2.toNat) true fun x667 =>
      .br 0 ((l666.2.1.length : Int) == 36)
      (.done (.inr l666.2.1))
      (.view 16004 (s36 (SPlanner.mk (SList.mk p0 p1 p2 l666.2.1)) x667) [(VwW.of 700062 tySCandidate p1), (VwW.of 700063 tySCandidate p2), (VwW.of 600048 tySPair l666.2.1)] fun r668 =>
       .opr 16005 (Rule.look (mt := 86) (kt := 88) (et := 4) (z := 1114373) (ty := tySEnt86) (p := (fun x => ((decide (r668.fbase.fHost = x.fk.fbase.fHost)) && ((r668.fbase.fPort == x.fk.fbase.fPort) && ((decide (r668.faddr.fHost = x.fk.faddr.fHost)) && ((r668.faddr.fPort == x.fk.faddr.fPort) && ((r668.fcomponent == x.fk.fcomponent) && true))))))) (kc := [.str r668.fbase.fHost, .int .i64 r668.fbase.fPort, .str r668.faddr.fHost, .int .i64 r668.faddr.fPort, .int .i64 r668.fcomponent]) (.tmp 71) (.tmp 74) 75 57 true l666.1 (.bool false) (.bool (mlook l666.1 (fun x => ((decide (r668.fbase.fHost = x.fk.fbase.fHost)) && ((r668.fbase.fPort == x.fk.fbase.fPort) && ((decide (r668.faddr.fHost = x.fk.faddr.fHost)) && ((r668.faddr.fPort == x.fk.faddr.fPort) && ((r668.fcomponent == x.fk.fcomponent) && true)))))) (fun x => x.fv) false)) ⟨by kernel_rfl, by kernel_rfl, by kernel_rfl, fun _ => by kernel_rfl⟩ (by kernel_rfl) (mlook_map _ _ (fun x : SEnt86 => x.fv) false V.bool)) fun _ =>
       .br 0 (mlook l666.1 (fun x => ((decide (r668.fbase.fHost = x.fk.fbase.fHost)) && ((r668.fbase.fPort == x.fk.fbase.fPort) && ((decide (r668.faddr.fHost = x.fk.faddr.fHost)) && ((r668.faddr.fPort == x.fk.faddr.fPort) && ((r668.fcomponent == x.fk.fcomponent) && true)))))) (fun x => x.fv) false)
       (.done (.inl (l666.1, l666.2.1, (wi64 (l666.2.2 + 1)))))
       (.view 17004 (s36 (SPlanner.mk (SList.mk p0 p1 p2 l666.2.1)) x667) [(VwW.of 700062 tySCandidate p1), (VwW.of 700063 tySCandidate p2), (VwW.of 600048 tySPair l666.2.1)] fun r669 =>
        .opr 17005 (Rule.put (mt := 86) (kt := 88) (et := 4) (z := 1114373) (ty := tySEnt86) (p := (fun x => ((decide (r669.fbase.fHost = x.fk.fbase.fHost)) && ((r669.fbase.fPort == x.fk.fbase.fPort) && ((decide (r669.faddr.fHost = x.fk.faddr.fHost)) && ((r669.faddr.fPort == x.fk.faddr.fPort) && ((r669.fcomponent == x.fk.fcomponent) && true))))))) (kc := [.str r669.fbase.fHost, .int .i64 r669.fbase.fPort, .str r669.faddr.fHost, .int .i64 r669.faddr.fPort, .int .i64 r669.fcomponent]) (.tmp 76) (.tmp 79) (.const (.bool true)) 57 l666.1 (SEnt86.mk r669 true) [.bool true] ⟨by kernel_rfl, by kernel_rfl, by kernel_rfl, fun _ => by kernel_rfl⟩ (by rfl) (by kernel_rfl) (by kernel_rfl) (by decide) (by decide)) fun _ =>
        .app 18009 tySPair l666.2.1 [x667] 32 false (by intro h; cases h) (.gh 0 (.drop [600048]) (.gh 0 (.ren 88 600048) (.done (.inl ((mput l666.1 (fun x => ((decide (r669.fbase.fHost = x.fk.fbase.fHost)) && ((r669.fbase.fPort == x.fk.fbase.fPort) && ((decide (r669.faddr.fHost = x.fk.faddr.fHost)) && ((r669.faddr.fPort == x.fk.faddr.fPort) && ((r669.fcomponent == x.fk.fcomponent) && true)))))) (SEnt86.mk r669 true)), (l666.2.1 ++ [x667]), (wi64 (l666.2.2 + 1)))))))))))
     (.done (.inr l666.2.1)))
    ([], [], 0))
   (fun (e670 : (List SPair)) => Ext.of (.exit 2) [(6, .ptr 6 0 0), (7, .int .i64 0), (8, .ptr 700061 0 0)] [(6, ⟨4, true, [[.bool false, .nilsl, .nilsl, .nilsl]]⟩), (700061, ⟨4, true, [[.bool p0, .ref 700062 0 p1.length, .ref 700063 0 p2.length, .ref 600048 0 e670.length]]⟩)] [BT.of 600048 tySPair 4 e670 true, BT.of 700062 tySCandidate 8 p1 true, BT.of 700063 tySCandidate 8 p2 true] (by rfl))
   (fun e670 =>
    .opr 20001 (Rule.makeMap 90 93 1114370 (by decide)) fun _ =>
    .bind 1
    (.lp (fun (l678 : (List SEnt90) × Int) => Ext.of .normal [(6, .ptr 6 0 0), (7, .int .i64 0), (8, .ptr 700061 0 0), (14, .mp 93), (98, .ref 600048 0 e670.length), (99, .int .i64 (e670.length : Int)), (100, .int .i64 l678.2)] [(6, ⟨4, true, [[.bool false, .nilsl, .nilsl, .nilsl]]⟩), (700061, ⟨4, true, [[.bool p0, .ref 700062 0 p1.length, .ref 700063 0 p2.length, .ref 600048 0 e670.length]]⟩)] [BT.of 93 tySEnt90 1114370 l678.1 true, BT.of 600048 tySPair 4 e670 true, BT.of 700062 tySCandidate 8 p1 true, BT.of 700063 tySCandidate 8 p2 true] (by rfl))
     (fun l678 =>
      .br 0 (decide (l678.2 < (e670.length : Int)))
      (.chk 23002 (decide (0 ≤ l678.2) && decide (l678.2 < (e670.length : Int))) (.row 23003 tySPair e670 (0 + l678.2.toNat) true fun x679 =>
       .view 24003 (s37 (SPlanner.mk (SList.mk p0 p1 p2 e670)) x679) [(VwW.of 700062 tySCandidate p1), (VwW.of 700063 tySCandidate p2), (VwW.of 600048 tySPair e670)] fun r680 =>
       .opr 25003 (Rule.look2 (mt := 90) (kt := 91) (et := 3) (z := 1114370) (ty := tySEnt90) (p := (fun x => ((decide (r680.a0 = x.fk.a0)) && ((decide (r680.a1 = x.fk.a1)) && true)))) (kc := [.str r680.a0, .str r680.a1]) (.tmp 109) (.tmp 110) 111 93 true l678.1 (.int .i64 0) (.int .i64 (mlook l678.1 (fun x => ((decide (r680.a0 = x.fk.a0)) && ((decide (r680.a1 = x.fk.a1)) && true))) (fun x => x.fv) 0)) ⟨by kernel_rfl, by kernel_rfl, by kernel_rfl, fun _ => by kernel_rfl⟩ (by kernel_rfl) (mlook_map _ _ (fun x : SEnt90 => x.fv) 0 (V.int .i64))) fun _ =>
       .cnd 26 [131]
       (.br 26004 (!(l678.1.findIdx? (fun x => ((decide (r680.a0 = x.fk.a0)) && ((decide (r680.a1 = x.fk.a1)) && true)))).isSome)
        (.done true)
        (.view 26006 (s38 (SPlanner.mk (SList.mk p0 p1 p2 e670)) x679) [(VwW.of 700062 tySCandidate p1), (VwW.of 700063 tySCandidate p2), (VwW.of 600048 tySPair e670)] fun r681 =>
         .chk 26014 (decide (0 ≤ (mlook l678.1 (fun x => ((decide (r680.a0 = x.fk.a0)) && ((decide (r680.a1 = x.fk.a1)) && true))) (fun x => x.fv) 0)) && decide ((mlook l678.1 (fun x => ((decide (r680.a0 = x.fk.a0)) && ((decide (r680.a1 = x.fk.a1)) && true))) (fun x => x.fv) 0) < (e670.length : Int))) (.row 26015 tySPair e670 (0 + (mlook l678.1 (fun x => ((decide (r680.a0 = x.fk.a0)) && ((decide (r680.a1 = x.fk.a1)) && true))) (fun x => x.fv) 0).toNat) true fun x682 =>
         .view 26016 (s38 (SPlanner.mk (SList.mk p0 p1 p2 e670)) x682) [(VwW.of 700062 tySCandidate p1), (VwW.of 700063 tySCandidate p2), (VwW.of 600048 tySPair e670)] fun r683 =>
         .done (decide (r681 < r683)))))
       (fun (c684 : Bool) => [.bool c684]) fun c684 =>
       .br 0 c684
       (.opr 27004 (Rule.put (mt := 90) (kt := 91) (et := 3) (z := 1114370) (ty := tySEnt90) (p := (fun x => ((decide (r680.a0 = x.fk.a0)) && ((decide (r680.a1 = x.fk.a1)) && true)))) (kc := [.str r680.a0, .str r680.a1]) (.tmp 132) (.tmp 133) (.tmp 134) 93 l678.1 (SEnt90.mk r680 l678.2) [.int .i64 l678.2] ⟨by kernel_rfl, by kernel_rfl, by kernel_rfl, fun _ => by kernel_rfl⟩ (by rfl) (by kernel_rfl) (by kernel_rfl) (by decide) (by decide)) fun _ =>
        .done (.inl ((mput l678.1 (fun x => ((decide (r680.a0 = x.fk.a0)) && ((decide (r680.a1 = x.fk.a1)) && true))) (SEnt90.mk r680 l678.2)), (wi64 (l678.2 + 1)))))
       (.done (.inl (l678.1, (wi64 (l678.2 + 1)))))))
      (.done (.inr l678.1)))
     ([], 0))
    (fun (e685 : (List SEnt90)) => Ext.of (.exit 4) [(6, .ptr 6 0 0), (7, .int .i64 0), (8, .ptr 700061 0 0), (14, .mp 93)] [(6, ⟨4, true, [[.bool false, .nilsl, .nilsl, .nilsl]]⟩), (700061, ⟨4, true, [[.bool p0, .ref 700062 0 p1.length, .ref 700063 0 p2.length, .ref 600048 0 e670.length]]⟩)] [BT.of 93 tySEnt90 1114370 e685 true, BT.of 600048 tySPair 4 e670 true, BT.of 700062 tySCandidate 8 p1 true, BT.of 700063 tySCandidate 8 p2 true] (by rfl))
    (fun e685 =>
     .gh 1 (.ren 600048 700064) (.gh 1 (.ren 93 700065) (.sub (subWait p0 p1 p2 e670.length e685 e670) fun r686 =>
     .gh 0 (.share (VwW.of 700062 tySCandidate p1) 1) (.gh 0 (.share (VwW.of 700063 tySCandidate p2) 1) (.gh 0 (.share (VwW.part 700064 tySPair r686 e670.length) 1) (.done (0, p0, p1, p2, (r686.take e670.length))))))))))))))))))
theorem k11_1 (p0 : Bool) (p1 : (List SCandidate)) (p2 : (List SCandidate)) : FnB Tryz.prog GG [0, 1, 2, 6, 7, 8, 9, 10, 11, 13, 14, 15, 16, 17, 18, 19, 21, 29, 38, 49, 50, 58, 59, 60, 61, 70, 75, 98, 99, 100, 101, 131, 139] Tryz.f11 [.ref 1000000 0 p1.length, .ref 1000001 0 p2.length, .bool p0] (Ext.of .normal (argTs [.ref 1000000 0 p1.length, .ref 1000001 0 p2.length, .bool p0]) [] [BT.of 1000000 tySCandidate 8 p1 true, BT.of 1000001 tySCandidate 8 p2 true] (by rfl)) (g11_1 p0 p1 p2) (fun (r : Int × Bool × (List SCandidate) × (List SCandidate) × (List SPair)) => .tup [.agg [.bool r.2.1, .sl false 8 (List.map tySCandidate.c r.2.2.1), .sl false 8 (List.map tySCandidate.c r.2.2.2.1), .sl false 4 (List.map tySPair.c r.2.2.2.2)], .int .i64 r.1]) (fun (_ : Int × Bool × (List SCandidate) × (List SCandidate) × (List SPair)) => Ext.of .normal [] [] [] (by rfl)) := by unfold FnB; kernel_rfl
noncomputable def s11_1 (p0 : Bool) (p1 : (List SCandidate)) (p2 : (List SCandidate)) : EV.Spec Tryz.prog GG (Int × Bool × (List SCandidate) × (List SCandidate) × (List SPair)) := .ofFnB 11 [] mixed Tryz.func11 rfl (fun _ => rfl) (k11_1 p0 p1 p2)
noncomputable def g27  : TT (SList × Int) :=
 .call 1001 (s58 1 1 2) [] [] fun r641 =>
 .call 1002 (s58 2 1 1) [] [] fun r642 =>
 .call 1004 (s58 9 9 3) [] [] fun r643 =>
 .call 1006 (s11_1 true [r641, r642] [r643]) [(1000000, 4), (1000001, 6)] [] fun r687 =>
 .done ((SList.mk r687.2.1 r687.2.2.1 r687.2.2.2.1 r687.2.2.2.2), r687.1)
theorem k27  : FnD Tryz.prog GG [0, 1] Tryz.f27 [] (g27) (fun r => .tup [.agg [.bool r.1.fControlling, .sl false 8 (List.map tySCandidate.c r.1.fLocals), .sl false 8 (List.map tySCandidate.c r.1.fRemotes), .sl false 4 (List.map tySPair.c r.1.fPairs)], .int .i64 r.2]) := by unfold FnD; kernel_rfl
noncomputable def s27  : EV.Spec Tryz.prog GG (SList × Int) := .ofFn 27 mixed Tryz.func27 (k27)
end Go.Proofs.YtioobnkmohikjaaGreatDoor
namespace Go.Proofs.YtioobnkmohikjaaGreatDoor
open Go Go.EV
set_option maxRecDepth 100000
noncomputable def g7  : TT (Bool) :=
 .call 1001 s27 [] [] fun r688 =>
 .call 2002 (s17 r688.1) [] [] fun r689 =>
 .call 3002 (s23 r688.1 0 2) [] [] fun r690 =>
 .call 4002 (s17 r690.1) [] [] fun r691 =>
 .call 5002 (s21 r688.1) [] [] fun r692 =>
 .call 6002 (s19 r688.1) [] [] fun r693 =>
 .cnd 7 [0]
 (.br 7004 (r688.2 == 0)
  (.br 7010 ((mlen tySPair r688.1.fPairs) == 2)
   (.call 7011 (s28 r688.1 0 0 0 1) [] [] fun r694 =>
    .br 7014 r694
    (.call 7015 (s28 r688.1 1 1 0 1) [] [] fun r695 =>
     .br 7018 r695
     (.br 7022 (r689.2 == 0)
      (.br 7026 (r689.1 == 0)
       (.br 7030 (r690.2 == 0)
        (.br 7034 (r691.2 == 0)
         (.br 7038 (r691.1 == 1)
          (.br 7042 (r692.2 == 0)
           (.br 7047 (!r692.1.fControlling)
            (.br 7051 (r693.2 == 0)
             (.br 7055 (!r693.1)
              (.call 7056 (s16 r688.1) [] [] fun r696 =>
               .br 7060 (r696 == 0)
               (.view 7063 (s16 (SList.mk false [] [] [(SPair.mk 0 0 0 0)])) [] fun r697 =>
                .done (r697 == 100))
               (.done false))
              (.done false))
             (.done false))
            (.done false))
           (.done false))
          (.done false))
         (.done false))
        (.done false))
       (.done false))
      (.done false))
     (.done false))
    (.done false))
   (.done false))
  (.done false))
 (fun (c698 : Bool) => [.bool c698]) fun c698 =>
 .done c698
theorem k7  : FnD Tryz.prog GG [0, 1, 2, 3, 4, 5, 6, 7, 8, 9, 10, 11, 12] Tryz.f7 [] (g7) (fun r => .bool r) := by unfold FnD; kernel_rfl
noncomputable def s7  : EV.Spec Tryz.prog GG (Bool) := .ofFn 7 mixed Tryz.func7 (k7)
end Go.Proofs.YtioobnkmohikjaaGreatDoor
namespace Go.Proofs.YtioobnkmohikjaaGreatDoor
open Go Go.EV
set_option maxRecDepth 1000000
theorem okWAKES : SOk s7 (fun r => r = true) := SOk.of (by kernel_rfl)
end Go.Proofs.YtioobnkmohikjaaGreatDoor
namespace Go.Proofs.YtioobnkmohikjaaGreatDoor
open Go Go.EV
set_option maxRecDepth 100000
noncomputable def g4 (p0 : SDraft1) (p1 : S2Tannoyref10Bend) (p2 : SList) : TT (Bool) :=
 .call 1001 s7 [] [] fun r699 =>
 .br 0 (!r699)
 (.done false)
 (.call 3004 (s14 p0 p1 p2) [] [] fun r700 =>
  .tt (.call 6002 (s15 r700.a0) [] [] fun r701 =>
  .cnd 7 [46]
  (.call 7002 (s16 r700.a0) [] [] fun r702 =>
   .br 7007 (!((r702 == 0) == r701))
   (.done true)
   (.br 7010 (!r701)
    (.call 7011 (s16 r700.a0) [] [] fun r703 =>
     .done (r703 != 100))
    (.done false)))
  (fun (c704 : Bool) => [.bool c704]) fun c704 =>
  .br 0 c704
  (.done false)
  (.call 9002 (s17 r700.a0) [] [] fun r705 =>
   .call 10002 (s18 r700.a0) [] [] fun r706 =>
   .call 11002 (s19 r700.a0) [] [] fun r707 =>
   .call 12002 (s20 r700.a0) [] [] fun r708 =>
   .call 13002 (s21 r700.a0) [] [] fun r709 =>
   .call 14002 (s22 r700.a0) [] [] fun r710 =>
   .cnd 15 [105]
   (.br 15005 (r705.1 != r706.1)
    (.done true)
    (.br 15010 (r705.2 != r706.2)
     (.done true)
     (.br 15015 (!(r707.1 == r708.1))
      (.done true)
      (.br 15020 (r707.2 != r708.2)
       (.done true)
       (.br 15025 (r709.2 != r710.2)
        (.done true)
        (.call 15027 (s13 r709.1 r710.1) [] [] fun r711 =>
         .done (!r711)))))))
   (fun (c712 : Bool) => [.bool c712]) fun c712 =>
   .br 0 c712
   (.done false)
   (.tt (.gh 7 (.drop [8]) (.call 6002 (s15 r700.a1) [] [] fun r713 =>
    .cnd 7 [46]
    (.call 7002 (s16 r700.a1) [] [] fun r714 =>
     .br 7007 (!((r714 == 0) == r713))
     (.done true)
     (.br 7010 (!r713)
      (.call 7011 (s16 r700.a1) [] [] fun r715 =>
       .done (r715 != 100))
      (.done false)))
    (fun (c716 : Bool) => [.bool c716]) fun c716 =>
    .br 0 c716
    (.done false)
    (.call 9002 (s17 r700.a1) [] [] fun r717 =>
     .call 10002 (s18 r700.a1) [] [] fun r718 =>
     .call 11002 (s19 r700.a1) [] [] fun r719 =>
     .call 12002 (s20 r700.a1) [] [] fun r720 =>
     .gh 15 (.drop [18]) (.call 13002 (s21 r700.a1) [] [] fun r721 =>
     .gh 16 (.drop [20]) (.call 14002 (s22 r700.a1) [] [] fun r722 =>
     .cnd 15 [105]
     (.br 15005 (r717.1 != r718.1)
      (.done true)
      (.br 15010 (r717.2 != r718.2)
       (.done true)
       (.br 15015 (!(r719.1 == r720.1))
        (.done true)
        (.br 15020 (r719.2 != r720.2)
         (.done true)
         (.br 15025 (r721.2 != r722.2)
          (.done true)
          (.call 15027 (s13 r721.1 r722.1) [] [] fun r723 =>
           .done (!r723)))))))
     (fun (c724 : Bool) => [.bool c724]) fun c724 =>
     .br 0 c724
     (.done false)
     (.tt (.gh 7 (.drop [8]) (.call 6002 (s15 r700.a2) [] [] fun r725 =>
      .cnd 7 [46]
      (.call 7002 (s16 r700.a2) [] [] fun r726 =>
       .br 7007 (!((r726 == 0) == r725))
       (.done true)
       (.br 7010 (!r725)
        (.call 7011 (s16 r700.a2) [] [] fun r727 =>
         .done (r727 != 100))
        (.done false)))
      (fun (c728 : Bool) => [.bool c728]) fun c728 =>
      .br 0 c728
      (.done false)
      (.call 9002 (s17 r700.a2) [] [] fun r729 =>
       .call 10002 (s18 r700.a2) [] [] fun r730 =>
       .call 11002 (s19 r700.a2) [] [] fun r731 =>
       .call 12002 (s20 r700.a2) [] [] fun r732 =>
       .gh 15 (.drop [18]) (.call 13002 (s21 r700.a2) [] [] fun r733 =>
       .gh 16 (.drop [20]) (.call 14002 (s22 r700.a2) [] [] fun r734 =>
       .cnd 15 [105]
       (.br 15005 (r729.1 != r730.1)
        (.done true)
        (.br 15010 (r729.2 != r730.2)
         (.done true)
         (.br 15015 (!(r731.1 == r732.1))
          (.done true)
          (.br 15020 (r731.2 != r732.2)
           (.done true)
           (.br 15025 (r733.2 != r734.2)
            (.done true)
            (.call 15027 (s13 r733.1 r734.1) [] [] fun r735 =>
             .done (!r735)))))))
       (fun (c736 : Bool) => [.bool c736]) fun c736 =>
       .br 0 c736
       (.done false)
       (.tt (.gh 7 (.drop [8]) (.call 6002 (s15 r700.a3) [] [] fun r737 =>
        .cnd 7 [46]
        (.call 7002 (s16 r700.a3) [] [] fun r738 =>
         .br 7007 (!((r738 == 0) == r737))
         (.done true)
         (.br 7010 (!r737)
          (.call 7011 (s16 r700.a3) [] [] fun r739 =>
           .done (r739 != 100))
          (.done false)))
        (fun (c740 : Bool) => [.bool c740]) fun c740 =>
        .br 0 c740
        (.done false)
        (.call 9002 (s17 r700.a3) [] [] fun r741 =>
         .call 10002 (s18 r700.a3) [] [] fun r742 =>
         .call 11002 (s19 r700.a3) [] [] fun r743 =>
         .call 12002 (s20 r700.a3) [] [] fun r744 =>
         .gh 15 (.drop [18]) (.call 13002 (s21 r700.a3) [] [] fun r745 =>
         .gh 16 (.drop [20]) (.call 14002 (s22 r700.a3) [] [] fun r746 =>
         .cnd 15 [105]
         (.br 15005 (r741.1 != r742.1)
          (.done true)
          (.br 15010 (r741.2 != r742.2)
           (.done true)
           (.br 15015 (!(r743.1 == r744.1))
            (.done true)
            (.br 15020 (r743.2 != r744.2)
             (.done true)
             (.br 15025 (r745.2 != r746.2)
              (.done true)
              (.call 15027 (s13 r745.1 r746.1) [] [] fun r747 =>
               .done (!r747)))))))
         (fun (c748 : Bool) => [.bool c748]) fun c748 =>
         .br 0 c748
         (.done false)
         (.ff (.done true)))))))))))))))))))))))
theorem k4 (p0 : SDraft1) (p1 : S2Tannoyref10Bend) (p2 : SList) : FnD Tryz.prog GG [0, 1, 2, 3, 4, 5, 6, 8, 9, 10, 11, 12, 13, 14, 15, 16, 17, 18, 19, 20, 21, 23, 27, 28, 29, 46, 105] Tryz.f4 [.agg [.sl false 6 (List.map tySDraft.c p0.fLocals), .sl false 6 (List.map tySDraft.c p0.fRemotes), .bool p0.fControlling, .sl false 2 (List.map tyS2Uint8.c p0.fSet)], .agg [.int .u8 p1.a0.fWhat, .int .u8 p1.a0.fAt, .int .i64 p1.a0.fN, .int .u8 p1.a0.fC.fWhat, .int .i64 p1.a0.fC.fN, .str p1.a0.fC.fS, .str p1.a0.fC.fA.fHost, .int .i64 p1.a0.fC.fA.fPort, .int .u8 p1.a1.fWhat, .int .u8 p1.a1.fAt, .int .i64 p1.a1.fN, .int .u8 p1.a1.fC.fWhat, .int .i64 p1.a1.fC.fN, .str p1.a1.fC.fS, .str p1.a1.fC.fA.fHost, .int .i64 p1.a1.fC.fA.fPort], .agg [.bool p2.fControlling, .sl false 8 (List.map tySCandidate.c p2.fLocals), .sl false 8 (List.map tySCandidate.c p2.fRemotes), .sl false 4 (List.map tySPair.c p2.fPairs)]] (g4 p0 p1 p2) (fun r => .bool r) := by unfold FnD; kernel_rfl
noncomputable def s4 (p0 : SDraft1) (p1 : S2Tannoyref10Bend) (p2 : SList) : EV.Spec Tryz.prog GG (Bool) := .ofFn 4 mixed Tryz.func4 (k4 p0 p1 p2)
noncomputable def g5 (p0 : SDraft1) (p1 : S2Tannoyref10Bend) (p2 : SList) (p3 : Int) (p4 : Int) (p5 : S2Uint8) : TT (Bool) :=
 .call 1001 s7 [] [] fun r749 =>
 .br 0 (!r749)
 (.done false)
 (.call 3004 (s14 p0 p1 p2) [] [] fun r750 =>
  .tt (.chk 6011 (!((if (mlen tySPair r750.a0.fPairs) > (1 : Int) then (mlen tySPair r750.a0.fPairs) else (1 : Int)) == 0)) (.chk 6024 (!((if (mlen tySPair r750.a0.fPairs) > (1 : Int) then (mlen tySPair r750.a0.fPairs) else (1 : Int)) == 0)) (.tt (.call 9006 (s23 r750.a0 p3 p4) [] [] fun r751 =>
  .call 10006 (s24 r750.a0 p3 p4) [] [] fun r752 =>
  .cnd 11 [86]
  (.br 11005 (r751.2 != r752.2)
   (.done true)
   (.call 11007 (s13 r751.1 r752.1) [] [] fun r753 =>
    .done (!r753)))
  (fun (c754 : Bool) => [.bool c754]) fun c754 =>
  .br 0 c754
  (.done false)
  (.tt (.gh 10 (.drop [16]) (.gh 11 (.drop [17]) (.call 9006 (s23 r750.a0 (Int.tmod (wi64 p5.a0) (if (mlen tySPair r750.a0.fPairs) > (1 : Int) then (mlen tySPair r750.a0.fPairs) else (1 : Int))) (wi64 (Int.tmod p5.a1 5))) [] [] fun r755 =>
   .gh 12 (.drop [19]) (.call 10006 (s24 r750.a0 (Int.tmod (wi64 p5.a0) (if (mlen tySPair r750.a0.fPairs) > (1 : Int) then (mlen tySPair r750.a0.fPairs) else (1 : Int))) (wi64 (Int.tmod p5.a1 5))) [] [] fun r756 =>
   .cnd 11 [86]
   (.br 11005 (r755.2 != r756.2)
    (.done true)
    (.call 11007 (s13 r755.1 r756.1) [] [] fun r757 =>
     .done (!r757)))
   (fun (c758 : Bool) => [.bool c758]) fun c758 =>
   .br 0 c758
   (.done false)
   (.tt (.gh 10 (.drop [16]) (.gh 11 (.drop [17]) (.call 9006 (s23 r750.a0 (Int.tmod (wi64 p5.a0) (if (mlen tySPair r750.a0.fPairs) > (1 : Int) then (mlen tySPair r750.a0.fPairs) else (1 : Int))) p4) [] [] fun r759 =>
    .gh 12 (.drop [19]) (.call 10006 (s24 r750.a0 (Int.tmod (wi64 p5.a0) (if (mlen tySPair r750.a0.fPairs) > (1 : Int) then (mlen tySPair r750.a0.fPairs) else (1 : Int))) p4) [] [] fun r760 =>
    .cnd 11 [86]
    (.br 11005 (r759.2 != r760.2)
     (.done true)
     (.call 11007 (s13 r759.1 r760.1) [] [] fun r761 =>
      .done (!r761)))
    (fun (c762 : Bool) => [.bool c762]) fun c762 =>
    .br 0 c762
    (.done false)
    (.ff (.tt (.gh 7 (.drop [14]) (.chk 6011 (!((if (mlen tySPair r750.a1.fPairs) > (1 : Int) then (mlen tySPair r750.a1.fPairs) else (1 : Int)) == 0)) (.chk 6024 (!((if (mlen tySPair r750.a1.fPairs) > (1 : Int) then (mlen tySPair r750.a1.fPairs) else (1 : Int)) == 0)) (.tt (.gh 10 (.drop [16]) (.gh 11 (.drop [17]) (.call 9006 (s23 r750.a1 p3 p4) [] [] fun r763 =>
     .gh 12 (.drop [19]) (.call 10006 (s24 r750.a1 p3 p4) [] [] fun r764 =>
     .cnd 11 [86]
     (.br 11005 (r763.2 != r764.2)
      (.done true)
      (.call 11007 (s13 r763.1 r764.1) [] [] fun r765 =>
       .done (!r765)))
     (fun (c766 : Bool) => [.bool c766]) fun c766 =>
     .br 0 c766
     (.done false)
     (.tt (.gh 10 (.drop [16]) (.gh 11 (.drop [17]) (.call 9006 (s23 r750.a1 (Int.tmod (wi64 p5.a0) (if (mlen tySPair r750.a1.fPairs) > (1 : Int) then (mlen tySPair r750.a1.fPairs) else (1 : Int))) (wi64 (Int.tmod p5.a1 5))) [] [] fun r767 =>
      .gh 12 (.drop [19]) (.call 10006 (s24 r750.a1 (Int.tmod (wi64 p5.a0) (if (mlen tySPair r750.a1.fPairs) > (1 : Int) then (mlen tySPair r750.a1.fPairs) else (1 : Int))) (wi64 (Int.tmod p5.a1 5))) [] [] fun r768 =>
      .cnd 11 [86]
      (.br 11005 (r767.2 != r768.2)
       (.done true)
       (.call 11007 (s13 r767.1 r768.1) [] [] fun r769 =>
        .done (!r769)))
      (fun (c770 : Bool) => [.bool c770]) fun c770 =>
      .br 0 c770
      (.done false)
      (.tt (.gh 10 (.drop [16]) (.gh 11 (.drop [17]) (.call 9006 (s23 r750.a1 (Int.tmod (wi64 p5.a0) (if (mlen tySPair r750.a1.fPairs) > (1 : Int) then (mlen tySPair r750.a1.fPairs) else (1 : Int))) p4) [] [] fun r771 =>
       .gh 12 (.drop [19]) (.call 10006 (s24 r750.a1 (Int.tmod (wi64 p5.a0) (if (mlen tySPair r750.a1.fPairs) > (1 : Int) then (mlen tySPair r750.a1.fPairs) else (1 : Int))) p4) [] [] fun r772 =>
       .cnd 11 [86]
       (.br 11005 (r771.2 != r772.2)
        (.done true)
        (.call 11007 (s13 r771.1 r772.1) [] [] fun r773 =>
         .done (!r773)))
       (fun (c774 : Bool) => [.bool c774]) fun c774 =>
       .br 0 c774
       (.done false)
       (.ff (.tt (.gh 7 (.drop [14]) (.chk 6011 (!((if (mlen tySPair r750.a2.fPairs) > (1 : Int) then (mlen tySPair r750.a2.fPairs) else (1 : Int)) == 0)) (.chk 6024 (!((if (mlen tySPair r750.a2.fPairs) > (1 : Int) then (mlen tySPair r750.a2.fPairs) else (1 : Int)) == 0)) (.tt (.gh 10 (.drop [16]) (.gh 11 (.drop [17]) (.call 9006 (s23 r750.a2 p3 p4) [] [] fun r775 =>
        .gh 12 (.drop [19]) (.call 10006 (s24 r750.a2 p3 p4) [] [] fun r776 =>
        .cnd 11 [86]
        (.br 11005 (r775.2 != r776.2)
         (.done true)
         (.call 11007 (s13 r775.1 r776.1) [] [] fun r777 =>
          .done (!r777)))
        (fun (c778 : Bool) => [.bool c778]) fun c778 =>
        .br 0 c778
        (.done false)
        (.tt (.gh 10 (.drop [16]) (.gh 11 (.drop [17]) (.call 9006 (s23 r750.a2 (Int.tmod (wi64 p5.a0) (if (mlen tySPair r750.a2.fPairs) > (1 : Int) then (mlen tySPair r750.a2.fPairs) else (1 : Int))) (wi64 (Int.tmod p5.a1 5))) [] [] fun r779 =>
         .gh 12 (.drop [19]) (.call 10006 (s24 r750.a2 (Int.tmod (wi64 p5.a0) (if (mlen tySPair r750.a2.fPairs) > (1 : Int) then (mlen tySPair r750.a2.fPairs) else (1 : Int))) (wi64 (Int.tmod p5.a1 5))) [] [] fun r780 =>
         .cnd 11 [86]
         (.br 11005 (r779.2 != r780.2)
          (.done true)
          (.call 11007 (s13 r779.1 r780.1) [] [] fun r781 =>
           .done (!r781)))
         (fun (c782 : Bool) => [.bool c782]) fun c782 =>
         .br 0 c782
         (.done false)
         (.tt (.gh 10 (.drop [16]) (.gh 11 (.drop [17]) (.call 9006 (s23 r750.a2 (Int.tmod (wi64 p5.a0) (if (mlen tySPair r750.a2.fPairs) > (1 : Int) then (mlen tySPair r750.a2.fPairs) else (1 : Int))) p4) [] [] fun r783 =>
          .gh 12 (.drop [19]) (.call 10006 (s24 r750.a2 (Int.tmod (wi64 p5.a0) (if (mlen tySPair r750.a2.fPairs) > (1 : Int) then (mlen tySPair r750.a2.fPairs) else (1 : Int))) p4) [] [] fun r784 =>
          .cnd 11 [86]
          (.br 11005 (r783.2 != r784.2)
           (.done true)
           (.call 11007 (s13 r783.1 r784.1) [] [] fun r785 =>
            .done (!r785)))
          (fun (c786 : Bool) => [.bool c786]) fun c786 =>
          .br 0 c786
          (.done false)
          (.ff (.tt (.gh 7 (.drop [14]) (.chk 6011 (!((if (mlen tySPair r750.a3.fPairs) > (1 : Int) then (mlen tySPair r750.a3.fPairs) else (1 : Int)) == 0)) (.chk 6024 (!((if (mlen tySPair r750.a3.fPairs) > (1 : Int) then (mlen tySPair r750.a3.fPairs) else (1 : Int)) == 0)) (.tt (.gh 10 (.drop [16]) (.gh 11 (.drop [17]) (.call 9006 (s23 r750.a3 p3 p4) [] [] fun r787 =>
           .gh 12 (.drop [19]) (.call 10006 (s24 r750.a3 p3 p4) [] [] fun r788 =>
           .cnd 11 [86]
           (.br 11005 (r787.2 != r788.2)
            (.done true)
            (.call 11007 (s13 r787.1 r788.1) [] [] fun r789 =>
             .done (!r789)))
           (fun (c790 : Bool) => [.bool c790]) fun c790 =>
           .br 0 c790
           (.done false)
           (.tt (.gh 10 (.drop [16]) (.gh 11 (.drop [17]) (.call 9006 (s23 r750.a3 (Int.tmod (wi64 p5.a0) (if (mlen tySPair r750.a3.fPairs) > (1 : Int) then (mlen tySPair r750.a3.fPairs) else (1 : Int))) (wi64 (Int.tmod p5.a1 5))) [] [] fun r791 =>
            .gh 12 (.drop [19]) (.call 10006 (s24 r750.a3 (Int.tmod (wi64 p5.a0) (if (mlen tySPair r750.a3.fPairs) > (1 : Int) then (mlen tySPair r750.a3.fPairs) else (1 : Int))) (wi64 (Int.tmod p5.a1 5))) [] [] fun r792 =>
            .cnd 11 [86]
            (.br 11005 (r791.2 != r792.2)
             (.done true)
             (.call 11007 (s13 r791.1 r792.1) [] [] fun r793 =>
              .done (!r793)))
            (fun (c794 : Bool) => [.bool c794]) fun c794 =>
            .br 0 c794
            (.done false)
            (.tt (.gh 10 (.drop [16]) (.gh 11 (.drop [17]) (.call 9006 (s23 r750.a3 (Int.tmod (wi64 p5.a0) (if (mlen tySPair r750.a3.fPairs) > (1 : Int) then (mlen tySPair r750.a3.fPairs) else (1 : Int))) p4) [] [] fun r795 =>
             .gh 12 (.drop [19]) (.call 10006 (s24 r750.a3 (Int.tmod (wi64 p5.a0) (if (mlen tySPair r750.a3.fPairs) > (1 : Int) then (mlen tySPair r750.a3.fPairs) else (1 : Int))) p4) [] [] fun r796 =>
             .cnd 11 [86]
             (.br 11005 (r795.2 != r796.2)
              (.done true)
              (.call 11007 (s13 r795.1 r796.1) [] [] fun r797 =>
               .done (!r797)))
             (fun (c798 : Bool) => [.bool c798]) fun c798 =>
             .br 0 c798
             (.done false)
             (.ff (.ff (.done true))))))))))))))))))))))))))))))))))))))))))))))))))))))))))))))))))))))))))))))
theorem k5 (p0 : SDraft1) (p1 : S2Tannoyref10Bend) (p2 : SList) (p3 : Int) (p4 : Int) (p5 : S2Uint8) : FnD Tryz.prog GG [0, 1, 2, 3, 4, 5, 6, 7, 8, 11, 12, 14, 16, 17, 18, 19, 20, 22, 26, 27, 28, 56, 57, 58, 86] Tryz.f5 [.agg [.sl false 6 (List.map tySDraft.c p0.fLocals), .sl false 6 (List.map tySDraft.c p0.fRemotes), .bool p0.fControlling, .sl false 2 (List.map tyS2Uint8.c p0.fSet)], .agg [.int .u8 p1.a0.fWhat, .int .u8 p1.a0.fAt, .int .i64 p1.a0.fN, .int .u8 p1.a0.fC.fWhat, .int .i64 p1.a0.fC.fN, .str p1.a0.fC.fS, .str p1.a0.fC.fA.fHost, .int .i64 p1.a0.fC.fA.fPort, .int .u8 p1.a1.fWhat, .int .u8 p1.a1.fAt, .int .i64 p1.a1.fN, .int .u8 p1.a1.fC.fWhat, .int .i64 p1.a1.fC.fN, .str p1.a1.fC.fS, .str p1.a1.fC.fA.fHost, .int .i64 p1.a1.fC.fA.fPort], .agg [.bool p2.fControlling, .sl false 8 (List.map tySCandidate.c p2.fLocals), .sl false 8 (List.map tySCandidate.c p2.fRemotes), .sl false 4 (List.map tySPair.c p2.fPairs)], .int .i64 p3, .int .i64 p4, .agg [.int .u8 p5.a0, .int .u8 p5.a1]] (g5 p0 p1 p2 p3 p4 p5) (fun r => .bool r) := by unfold FnD; kernel_rfl
noncomputable def s5 (p0 : SDraft1) (p1 : S2Tannoyref10Bend) (p2 : SList) (p3 : Int) (p4 : Int) (p5 : S2Uint8) : EV.Spec Tryz.prog GG (Bool) := .ofFn 5 mixed Tryz.func5 (k5 p0 p1 p2 p3 p4 p5)
end Go.Proofs.YtioobnkmohikjaaGreatDoor
namespace Go.Proofs.YtioobnkmohikjaaGreatDoor
open Go Go.EV
set_option maxRecDepth 100000
open Classical
theorem segC (L : SList) (hL : Few 14 14 40 L) (i st : Int) (u v : SList × Int) (hu : u = setF L i st) (hv : v = setF L i st) :
  Ok (.br 11005 (u.2 != v.2) (.done true) (.call 11007 (s13 u.1 v.1) [] [] fun r711 => .done (!r711)) : TT Bool) (fun c => c = false) := by
 subst hu hv
 have hf := setF_few L i st hL
 refine Ok.brF (by simp) (Ok.call (okSAME _ ?_ ?_ ?_) fun r hr => Ok.done (by rw [hr]; rfl))
 ·have := hf.1; omega
 ·have := hf.2.1; omega
 ·have := hf.2.2; omega
theorem SOk.fn {P : Program} {G : Nat → Option (List V)} {kp : List Nat} {f : FuncId} {fn : Func} {args : List V} {ρ : Type} {g : T P G ρ} {res : ρ → V} {hm : P.follows .mixedOrders = true} {hf : P.funcs[f]? = some fn} {k : FnD P G kp fn args g res} {Q : ρ → Prop} (h : Ok g Q) : SOk (.ofFn f hm hf k) Q := h
theorem one_ne (n : Nat) : (!((if (n : Int) > (1 : Int) then (n : Int) else (1 : Int)) == 0)) = true := by
 simp only [Bool.not_eq_true', beq_eq_false_iff_ne, ne_eq]
 split <;> omega
theorem gLSETS (d : SDraft1) (b : S2Tannoyref10Bend) (l : SList) (i st : Int) (w : S2Uint8) (h0 : 0 ≤ b.a0.fAt ∧ b.a0.fAt ≤ 255) (h1 : 0 ≤ b.a1.fAt ∧ b.a1.fAt ≤ 255) : Ok (g5 d b l i st w) (fun r => r = true) := by
 unfold g5
 simp only [mlen_eq]
 refine Ok.call okWAKES fun r hr => Ok.brF (by rw [hr]; rfl) (Ok.call (okLISTS d b l h0 h1) fun e he => ?_)
 obtain ⟨f0, f1, f2, f3⟩ := he
 iterate 4
  repeat (first | with_reducible refine Ok.gh ?_ | with_reducible refine Ok.tt ?_)
  refine Ok.chk (one_ne _) (Ok.chk (one_ne _) ?_)
  iterate 3
   repeat (first | with_reducible refine Ok.gh ?_ | with_reducible refine Ok.tt ?_)
   refine Ok.call (okSET _ _ _) fun r5 h5 => ?_
   repeat (with_reducible refine Ok.gh ?_)
   refine Ok.call (okRSET _ _ _) fun r6 h6 => Ok.cnd (R := fun c => c = false) (segC _ (by assumption) _ _ _ _ h5 h6) fun c hc => Ok.brF hc ?_
  refine Ok.ff ?_
 exact Ok.ff (Ok.done rfl)
theorem okLSETS (d : SDraft1) (b : S2Tannoyref10Bend) (l : SList) (i st : Int) (w : S2Uint8) (h0 : 0 ≤ b.a0.fAt ∧ b.a0.fAt ≤ 255) (h1 : 0 ≤ b.a1.fAt ∧ b.a1.fAt ≤ 255) : SOk (s5 d b l i st w) (fun r => r = true) := by
 unfold s5
 exact SOk.fn (gLSETS d b l i st w h0 h1)
end Go.Proofs.YtioobnkmohikjaaGreatDoor
namespace Go.Proofs.YtioobnkmohikjaaGreatDoor
open Go Go.EV Go.ChangeShapes
set_option maxRecDepth 100000
theorem own : ownKnob Tryz.prog.godebug = none := by kernel_rfl
abbrev laid1 : List (String × DataW Unit) := [("math/bits.deBruijn32tab", Rows.laid_math_bits_deBruijn32tab), ("math/bits.deBruijn64tab", Rows.laid_math_bits_deBruijn64tab), ("internal/strconv.uint64pow10", Rows.laid_internal_strconv_uint64pow10), ("unicode/utf8.acceptRanges", Rows.laid_unicode_utf8_acceptRanges), ("unicode/utf8.first", Rows.laid_unicode_utf8_first)]
theorem shaped1 (os : Os) : (World.laidAll Tryz.prog os laid1).Shaped Tryz.prog := World.shaped_of_ZipB (by kernel_rfl) (by kernel_rfl)
theorem laid_met (os : Os) (args : Array Value) : laidMetH Tryz.prog laid1 ((World.laidAll Tryz.prog os laid1).forCall (fun _ _ => 0) ⟨#[], args, []⟩).memory := by
 rw [MakeChecks.laidMetH_plain _ _ _ (by kernel_rfl)]
 exact laidMet_laidAll _ (by kernel_rfl) (by kernel_rfl)
def gh0 (w : World) : Gh := { loc := fun _ => none, own := fun _ => none, lim := fun B => match w.heap[B]? with | some (.cells cs _ _) => cs.size | _ => 0 }
theorem gh0_lim {w : World} {B o : Nat} {v : Value} (h : cellAt w B o = some v) : o < (gh0 w).lim B := by
 unfold cellAt World.cell? at h
 simp only [gh0]
 cases hb : w.heap[B]? with
 | none => simp [hb] at h
 | some x =>
  cases x with
  | cells cs t fz =>
   simp only [hb] at h
   simp only
   exact (Array.getElem?_eq_some_iff.1 (by simpa using h)).1
  | _ => simp [hb] at h
theorem globOk {w : World} (_ : laidMetH Tryz.prog laid1 w) : GlobOk GG (gh0 w) w := fun g cells hg => by
 unfold GG at hg
 cases hg
theorem keptBut_of_grow {w w' : World} {γ' : Gh} (h : Grow (gh0 w) w γ' w') (may : MemPlace → Prop) : w.keptBut w' may := by
 refine ⟨h.os, h.output, fun i hi => ?_⟩
 have := (h.free i hi rfl).1
 rw [this]
 cases w.heap[i]? with
 | none => trivial
 | some x =>
  cases x with
  | cells c t fr => exact ⟨rfl, rfl, rfl, fun _ _ => rfl⟩
  | map es clock => exact .inr ⟨rfl, rfl⟩
  | _ => rfl
theorem trodAll_six {H : Type} {enc : TypeId × Value → H} {P : Program} {w : World} {base : Nat} {spare : Nat → Bool} {held : Bool} {t t' t'' t3 t4 t5 : TypeId} {args : Array Value} {ds : List (DataW H)} {ps : List MemPlace} (h : DataW.TrodAll enc P w base spare held [t, t', t'', t3, t4, t5] args.toList ds ps) :
  ∃ v v' v'' v3 v4 v5 d d' d'' d3 d4 d5 p p' p'' p3 p4 p5, args = #[v, v', v'', v3, v4, v5] ∧ ds = [d, d', d'', d3, d4, d5] ∧ ps = p ++ (p' ++ (p'' ++ (p3 ++ (p4 ++ p5)))) ∧ DataW.Trod enc P w base spare held t v d p ∧ DataW.Trod enc P w base spare held t' v' d' p' ∧ DataW.Trod enc P w base spare held t'' v'' d'' p'' ∧
   DataW.Trod enc P w base spare held t3 v3 d3 p3 ∧ DataW.Trod enc P w base spare held t4 v4 d4 p4 ∧ DataW.Trod enc P w base spare held t5 v5 d5 p5 := by
 obtain ⟨v, vs, d, ds', p, q, hargs, rfl, rfl, hd, hrest⟩ := ChangeShapes.trodAll_cons h
 obtain ⟨v', vs', d', ds'', p', q', rfl, rfl, rfl, hd', hrest'⟩ := ChangeShapes.trodAll_cons hrest
 obtain ⟨v'', vs'', d'', ds''', p'', q'', rfl, rfl, rfl, hd'', hrest''⟩ := ChangeShapes.trodAll_cons hrest'
 obtain ⟨v3, vs3, d3, ds3, p3, q3, rfl, rfl, rfl, hd3, hrest3⟩ := ChangeShapes.trodAll_cons hrest''
 obtain ⟨v4, vs4, d4, ds4, p4, q4, rfl, rfl, rfl, hd4, hrest4⟩ := ChangeShapes.trodAll_cons hrest3
 obtain ⟨v5, vs5, d5, ds5, p5, q5, rfl, rfl, rfl, hd5, hrest5⟩ := ChangeShapes.trodAll_cons hrest4
 obtain ⟨rfl, rfl, rfl⟩ := ChangeShapes.trodAll_nil hrest5
 exact ⟨v, v', v'', v3, v4, v5, d, d', d'', d3, d4, d5, p, p', p'', p3, p4, p5, Array.toList_inj.1 hargs, rfl, by simp, hd, hd', hd'', hd3, hd4, hd5⟩
theorem trodAll_mk6 {H : Type} {enc : TypeId × Value → H} {P : Program} {w : World} {base : Nat} {spare : Nat → Bool} {held : Bool} {t t' t'' t3 t4 t5 : TypeId} {v v' v'' v3 v4 v5 : Value} {d d' d'' d3 d4 d5 : DataW H} {p p' p'' p3 p4 p5 : List MemPlace} (h : DataW.Trod enc P w base spare held t v d p) (h' : DataW.Trod enc P w base spare held t' v' d' p')
  (h'' : DataW.Trod enc P w base spare held t'' v'' d'' p'') (h3 : DataW.Trod enc P w base spare held t3 v3 d3 p3) (h4 : DataW.Trod enc P w base spare held t4 v4 d4 p4) (h5 : DataW.Trod enc P w base spare held t5 v5 d5 p5) :
  DataW.TrodAll enc P w base spare held [t, t', t'', t3, t4, t5] [v, v', v'', v3, v4, v5] [d, d', d'', d3, d4, d5] (p ++ (p' ++ (p'' ++ (p3 ++ (p4 ++ p5))))) := ⟨p, _, h, trodAll_cons_mk h' (trodAll_cons_mk h'' (ChangeShapes.trodAll_mk3 h3 h4 h5)), rfl⟩
end Go.Proofs.YtioobnkmohikjaaGreatDoor
namespace Go.Proofs.YtioobnkmohikjaaGreatDoor
open Go Go.EV Go.ChangeShapes
set_option maxRecDepth 100000
def CellsD (W : World) (l : List V) (cs : List Value) : Prop := cs.length = l.length ∧ ∀ (i : Nat) (c : V) (v : Value), l[i]? = some c → cs[i]? = some v → RepD (gh0 W).lim W c v
theorem CellsD.one {W : World} {c : V} {v : Value} (h : RepD (gh0 W).lim W c v) : CellsD W [c] [v] := ⟨rfl, fun i c' v' hc hv => by
 cases i with
 | zero => simp at hc hv; subst hc; subst hv; exact h
 | succ i => simp at hc⟩
theorem CellsD.append {W : World} {l m : List V} {cs ds : List Value} (h : CellsD W l cs) (k : CellsD W m ds) : CellsD W (l ++ m) (cs ++ ds) :=
  ⟨by simp [h.1, k.1], fun i c v hc hv => by
    by_cases hi : i < l.length
    · rw [List.getElem?_append_left hi] at hc
      rw [List.getElem?_append_left (by rw [h.1]; exact hi)] at hv
      exact h.2 i c v hc hv
    · rw [List.getElem?_append_right (by omega)] at hc
      rw [List.getElem?_append_right (by rw [h.1]; omega), h.1] at hv
      exact k.2 _ c v hc hv⟩
def Rd (t : TypeId) {α : Type} (c : α → List V) (I : α → Prop) : Prop :=
 ∀ (H : Type) (enc : TypeId × Value → H) (W : World) (fuel : Nat) (cs : List Value) (x : DataW H × List MemPlace), DataW.trod enc Tryz.prog W 0 (fun _ => true) true fuel t cs = some x → ∃ a : α, I a ∧ CellsD W (c a) cs
theorem rdInt {t : TypeId} {k : IntKind} (ht : Tryz.prog.underlying t = some (.int k)) : Rd t (fun n : Int => [.int k n]) (fun n => (Lit.int k n).wf = true) := fun H enc W fuel cs x h => by
 obtain ⟨n, rfl, _, hw⟩ := DataW.trod_int ht h
 exact ⟨n, hw, .one (.int k n)⟩
theorem rdBool {t : TypeId} (ht : Tryz.prog.underlying t = some .bool) : Rd t (fun b : Bool => [.bool b]) (fun _ => True) := fun H enc W fuel cs x h => by
 cases fuel with
 | zero => simp [DataW.trod] at h
 | succ n =>
  unfold DataW.trod at h
  rw [ht] at h
  split at h <;> first | exact ⟨_, trivial, .one (.bool _)⟩ | simp_all
theorem rdStr {t : TypeId} (ht : Tryz.prog.underlying t = some .string) : Rd t (fun s : ByteArray => [.str s]) (fun _ => True) := fun H enc W fuel cs x h => by
 cases fuel with
 | zero => simp [DataW.trod] at h
 | succ n =>
  unfold DataW.trod at h
  rw [ht] at h
  split at h <;> simp_all
  exact ⟨_, .one (.str _)⟩
theorem fld {H : Type} {enc : TypeId × Value → H} {W : World} {n : Nat} {fs : Array Field} {cs : List Value} {xs : List (DataW H × List MemPlace)} {t o z : Nat} {α : Type} {c : α → List V} {I : α → Prop}
  (hel : ∀ (i : Nat) (f : Field), fs[i]? = some f → DataW.trod enc Tryz.prog W 0 (fun _ => true) true n f.type ((cs.drop f.offset).take (Tryz.prog.cellsOf f.type)) = xs[i]?) (hn : xs.length = fs.size) (i : Nat)
  (hf : (fs[i]?).map (fun f => (f.type, f.offset)) = some (t, o)) (hz : Tryz.prog.cellsOf t = z) (r : Rd t c I) : ∃ a : α, I a ∧ CellsD W (c a) ((cs.drop o).take z) := by
 obtain ⟨f, h1, h2⟩ := Option.map_eq_some_iff.1 hf
 simp only [Prod.mk.injEq] at h2
 obtain ⟨rfl, rfl⟩ := h2
 have hi : i < xs.length := by rw [hn]; exact (Array.getElem?_eq_some_iff.1 h1).1
 have := hel i f h1
 rw [List.getElem?_eq_getElem hi, hz] at this
 exact r H enc W n _ _ this
theorem fldA {H : Type} {enc : TypeId × Value → H} {W : World} {n m : Nat} {cs : List Value} {xs : List (DataW H × List MemPlace)} {t z : Nat} {α : Type} {c : α → List V} {I : α → Prop}
  (hel : ∀ (i : Nat), i < m → DataW.trod enc Tryz.prog W 0 (fun _ => true) true n t ((cs.drop (i * Tryz.prog.cellsOf t)).take (Tryz.prog.cellsOf t)) = xs[i]?) (hn : xs.length = m) (i : Nat) (hi : i < m)
  (hz : Tryz.prog.cellsOf t = z) (r : Rd t c I) : ∃ a : α, I a ∧ CellsD W (c a) ((cs.drop (i * z)).take z) := by
 have := hel i hi
 rw [List.getElem?_eq_getElem (by omega), hz] at this
 exact r H enc W n _ _ this
theorem cells_at {W : World} {a : Addr} {z : Nat} {ci : List Value} (h : W.cells? 0 a z = some ci) : ci.length = z ∧ ∀ r, r < z → W.cell? (a.add r) = ci[r]? := by
 unfold World.cells? at h
 rw [if_pos (Nat.zero_le _)] at h
 exact ⟨by simpa using mapM_some_length h, fun r hr => mapM_some_get h r r (by simp [hr])⟩
theorem spot_of {W : World} {a : Addr} {z q : Nat} {ci : List Value} (hz : 0 < z) (h : W.cells? 0 (a.add (q * z)) z = some ci) (hq : q = 0) : a.spot = none := by
 obtain ⟨h1, h2⟩ := cells_at h
 have h3 := h2 0 hz
 have e : (a.add (q * z)).add 0 = a := by subst hq; simp [Addr.add]
 rw [e, List.getElem?_eq_getElem (by omega)] at h3
 exact World.cell?_spot h3
theorem rdSlice {t e z : Nat} {α : Type} {ty : Ty α} {I : α → Prop} (ht : Tryz.prog.underlying t = some (.slice e)) (hz : Tryz.prog.cellsOf e = z) (hpos : 0 < z) (hlen : ∀ a, (ty.c a).length = z) (r : Rd e ty.c I) :
  Rd t (fun l : List α => [.sl false z (l.map ty.c)]) (fun l => ∀ a, a ∈ l → I a) := fun H enc W fuel cs x h => by
 rcases DataW.trod_slice ht h with ⟨rfl, -⟩ | ⟨a, len, cap, elems, rest, n, rfl, rfl, -, -, hlc, -, hel, hE, hR, -⟩
 ·exact ⟨[], by simp, .one (.slNil false z)⟩
 rw [hz] at hE hR
 have build : ∀ m, m ≤ len → ∃ l : List α, l.length = m ∧ (∀ a, a ∈ l → I a) ∧ ∀ i x, l[i]? = some x → ∃ ci, W.cells? 0 (a.add (i * z)) z = some ci ∧ CellsD W (ty.c x) ci := by
  intro m
  induction m with
  | zero => intro _; exact ⟨[], rfl, by simp, by simp⟩
  | succ m ih =>
   intro hm
   obtain ⟨l, l1, l2, l3⟩ := ih (by omega)
   have := hE m (by omega)
   rw [List.getElem?_eq_getElem (by omega)] at this
   obtain ⟨ci, hci, htr⟩ := Option.bind_eq_some_iff.1 this
   obtain ⟨y, hy, hcd⟩ := r H enc W n ci _ htr
   refine ⟨l ++ [y], by simp [l1], fun b hb => ?_, fun i x hx => ?_⟩
   ·rcases List.mem_append.1 hb with hb | hb
    ·exact l2 b hb
    ·rw [List.mem_singleton.1 hb]; exact hy
   ·by_cases hi : i < l.length
    ·rw [List.getElem?_append_left hi] at hx; exact l3 i x hx
    ·rw [List.getElem?_append_right (by omega)] at hx
     have hi2 : i - l.length = 0 := by
      have := (List.getElem?_eq_some_iff.1 hx).1
      simp at this; omega
     rw [hi2] at hx; simp at hx; subst hx
     have : i = m := by omega
     subst this
     exact ⟨ci, hci, hcd⟩
 obtain ⟨l, hl, hI, hc⟩ := build len (Nat.le_refl _)
 refine ⟨l, hI, .one ?_⟩
 by_cases hcap : cap = 0
 ·have : l = [] := List.length_eq_zero_iff.1 (by omega)
  subst this
  have h0 : len = 0 := by simpa using hl.symm
  subst h0; subst hcap
  exact .slNil false z (some a)
 have hspot : a.spot = none := by
  by_cases h0 : len = 0
  ·obtain ⟨r1, r2⟩ := hR rfl
   have := r2 0 (by omega)
   rw [List.getElem?_eq_getElem (by omega)] at this
   obtain ⟨ci, hci, _⟩ := Option.bind_eq_some_iff.1 this
   exact spot_of hpos (q := len + 0) hci (by omega)
  ·have := hE 0 (by omega)
   rw [List.getElem?_eq_getElem (by omega)] at this
   obtain ⟨ci, hci, _⟩ := Option.bind_eq_some_iff.1 this
   exact spot_of hpos hci rfl
 obtain ⟨B, o, sp⟩ := a
 simp only at hspot
 subst hspot
 have hsz : ∀ q, q ∈ l.map ty.c → q.length = z := fun q hq => by
  obtain ⟨y, _, rfl⟩ := List.mem_map.1 hq; exact hlen y
 have key : ∀ (i : Nat) (c : V), (l.map ty.c).flatten[i]? = some c → ∃ v, cellAt W B (o + i) = some v ∧ RepD (gh0 W).lim W c v := fun i c hci => by
  have e1 : i = (i / z) * z + i % z := by rw [Nat.mul_comm]; exact (Nat.div_add_mod i z).symm
  have hm := Nat.mod_lt i hpos
  rw [e1, flatten_get _ hsz _ _ hm, List.getElem?_map] at hci
  cases hx : l[i / z]? with
  | none => rw [hx] at hci; simp at hci
  | some y =>
   rw [hx] at hci
   simp only [Option.map_some, Option.bind_some] at hci
   obtain ⟨ci, k1, k2⟩ := hc _ _ hx
   obtain ⟨k3, k4⟩ := cells_at k1
   have k5 := k4 (i % z) hm
   have hv : ci[i % z]? = some (ci[i % z]'(by omega)) := List.getElem?_eq_getElem _
   refine ⟨_, ?_, k2.2 _ _ _ hci hv⟩
   rw [hv] at k5
   rw [Addr.add_eq, Addr.add_eq] at k5
   unfold cellAt
   rw [show o + i = o + (i / z) * z + i % z by omega]
   exact k5
 have fin := RepD.sl (lim := (gh0 W).lim) (w := W) false z (l.map ty.c) B o cap (fun i => (cellAt W B (o + i)).getD default) (by simp; omega) hsz
  (fun i c hci => by obtain ⟨v, v1, v2⟩ := key i c hci; rw [v1]; exact ⟨gh0_lim v1, rfl⟩) (fun i c hci => by obtain ⟨v, v1, v2⟩ := key i c hci; rw [v1]; exact v2)
 rw [List.length_map, hl] at fin
 exact fin
noncomputable def fsOf (t : TypeId) : Array Field := match Tryz.prog.underlying t with | some (.struct f) => f | _ => #[]
theorem open_agg {H : Type} {enc : TypeId × Value → H} {W : World} {t : TypeId} {α : Type} {c : α → List V} {I : α → Prop} (r : Rd t c I) {v : Value} {d : DataW H} {p : List MemPlace} (hv : ∃ cs, v = .agg cs)
  (h : DataW.Trod enc Tryz.prog W 0 (fun _ => true) true t v d p) : ∃ a : α, I a ∧ Rep (gh0 W) W (ofL []) uTop (.agg (c a)) v := by
 obtain ⟨cs, rfl⟩ := hv
 obtain ⟨fuel, hf⟩ := h
 obtain ⟨a, hi, hc⟩ := r H enc W fuel _ _ hf
 refine ⟨a, hi, ?_⟩
 have := Rep.agg (γ := gh0 W) (w := W) (bs := ofL []) (u := uTop) (c a) cs.toList hc.1 (fun i x y hx hy => .data (hc.2 i x y hx hy))
 simpa using this
theorem agg_struct {W : World} {base : Nat} {t : TypeId} {v : Value} {fs : Array Field} (ht : Tryz.prog.underlying t = some (.struct fs)) (h : Value.okWide Tryz.prog W .any base t v) : ∃ cs, v = .agg cs := by
 simp only [Value.okWide, ht] at h
 obtain ⟨cs, h1, _⟩ := h
 exact ⟨cs, h1⟩
theorem agg_array {W : World} {base n e : Nat} {t : TypeId} {v : Value} (ht : Tryz.prog.underlying t = some (.array n e)) (h : Value.okWide Tryz.prog W .any base t v) : ∃ cs, v = .agg cs := by
 simp only [Value.okWide, ht] at h
 obtain ⟨cs, h1, _⟩ := h
 exact ⟨cs, h1⟩
theorem laidOut : laidOutB Tryz.prog = true := by kernel_rfl
theorem below_of_grow {w w' : World} {γ' : Gh} (h : Grow (gh0 w) w γ' w') : RowKit.Below w.heap.size w w' :=
 ⟨h.os, h.tape, h.output, h.size, fun k hk => (h.free k hk rfl).1⟩
theorem open_one {H : Type} {enc : TypeId × Value → H} {W : World} {t : TypeId} {α : Type} {c : α → List V} {I : α → Prop} (r : Rd t c I) {v : Value} {d : DataW H} {p : List MemPlace} (hv : v.cells = #[v])
  (h : DataW.Trod enc Tryz.prog W 0 (fun _ => true) true t v d p) : ∃ a : α, I a ∧ ∀ x, c a = [x] → Rep (gh0 W) W (ofL []) uTop x v := by
 obtain ⟨fuel, hf⟩ := h
 rw [hv] at hf
 obtain ⟨a, hi, hc⟩ := r H enc W fuel _ _ hf
 refine ⟨a, hi, fun x hx => ?_⟩
 rw [hx] at hc
 exact .data (hc.2 0 x v rfl rfl)
theorem int_one {W : World} {base : Nat} {t : TypeId} {k : IntKind} {v : Value} (ht : Tryz.prog.underlying t = some (.int k)) (h : Value.okWide Tryz.prog W .any base t v) : v.cells = #[v] := by
 obtain ⟨n, rfl⟩ := WideShapes.okWide_int ht h
 rfl
section
variable {H : Type} {enc : TypeId × Value → H} {P : Program} {w : World} {base : Nat} {spare : Nat → Bool} {held : Bool}
end
theorem w8_iff {n : Int} (h : (Lit.int .u8 n).wf = true) : 0 ≤ n ∧ n ≤ 255 := by
 simp [Lit.wf, IntKind.min, IntKind.max, IntKind.signed, IntKind.bits] at h; omega
end Go.Proofs.YtioobnkmohikjaaGreatDoor
namespace Go.Proofs.YtioobnkmohikjaaGreatDoor
open Go Go.EV
set_option maxRecDepth 100000
theorem u25 : Tryz.prog.underlying 25 = some (.struct (fsOf 25)) := by kernel_rfl
theorem z25 : Tryz.prog.cellsOf 25 = 4 := by kernel_rfl
theorem u22 : Tryz.prog.underlying 22 = some (.slice 76) := by kernel_rfl
theorem z22 : Tryz.prog.cellsOf 22 = 1 := by kernel_rfl
theorem u76 : Tryz.prog.underlying 76 = some (.struct (fsOf 76)) := by kernel_rfl
theorem z76 : Tryz.prog.cellsOf 76 = 6 := by kernel_rfl
theorem u5 : Tryz.prog.underlying 5 = some (.int .u8) := by kernel_rfl
theorem z5 : Tryz.prog.cellsOf 5 = 1 := by kernel_rfl
theorem u74 : Tryz.prog.underlying 74 = some (.int .u16) := by kernel_rfl
theorem z74 : Tryz.prog.cellsOf 74 = 1 := by kernel_rfl
theorem ln6 {α : Type} {l : List α} (h : l.length = 6) : ∃ v0 v1 v2 v3 v4 v5, l = [v0, v1, v2, v3, v4, v5] := by match l, h with | [v0, v1, v2, v3, v4, v5], _ => exact ⟨v0, v1, v2, v3, v4, v5, rfl⟩
def c76 (x : SDraft) : List V := [.int .u8 x.fKind, .int .u8 x.fComponent, .int .u8 x.fAddr, .int .u8 x.fBase, .int .u8 x.fServer, .int .u16 x.fPreference]
def Ok76 (x : SDraft) : Prop := (Lit.int .u8 x.fKind).wf = true ∧ (Lit.int .u8 x.fComponent).wf = true ∧ (Lit.int .u8 x.fAddr).wf = true ∧ (Lit.int .u8 x.fBase).wf = true ∧ (Lit.int .u8 x.fServer).wf = true ∧ (Lit.int .u16 x.fPreference).wf = true
theorem rd76 : Rd 76 c76 Ok76 := fun H enc W fuel cs x h => by
 obtain ⟨xs, m, rfl, -, hl, hn, hel⟩ := DataW.trod_struct u76 h
 rw [z76] at hl
 obtain ⟨v0, v1, v2, v3, v4, v5, rfl⟩ := ln6 hl
 obtain ⟨a0, i0, k0⟩ := fld hel hn 0 (t := 5) (o := 0) (by kernel_rfl) z5 (rdInt u5)
 obtain ⟨a1, i1, k1⟩ := fld hel hn 1 (t := 5) (o := 1) (by kernel_rfl) z5 (rdInt u5)
 obtain ⟨a2, i2, k2⟩ := fld hel hn 2 (t := 5) (o := 2) (by kernel_rfl) z5 (rdInt u5)
 obtain ⟨a3, i3, k3⟩ := fld hel hn 3 (t := 5) (o := 3) (by kernel_rfl) z5 (rdInt u5)
 obtain ⟨a4, i4, k4⟩ := fld hel hn 4 (t := 5) (o := 4) (by kernel_rfl) z5 (rdInt u5)
 obtain ⟨a5, i5, k5⟩ := fld hel hn 5 (t := 74) (o := 5) (by kernel_rfl) z74 (rdInt u74)
 exact ⟨⟨a0, a1, a2, a3, a4, a5⟩, ⟨i0, i1, i2, i3, i4, i5⟩, k0.append (k1.append (k2.append (k3.append (k4.append k5))))⟩
def Ok22 (l : List SDraft) : Prop := ∀ a, a ∈ l → Ok76 a
theorem rd22 : Rd 22 (fun l : List SDraft => [.sl false 6 (l.map tySDraft.c)]) Ok22 := rdSlice (ty := tySDraft) u22 z76 (by omega) (fun _ => rfl) rd76
theorem u4 : Tryz.prog.underlying 4 = some .bool := by kernel_rfl
theorem z4 : Tryz.prog.cellsOf 4 = 1 := by kernel_rfl
theorem u23 : Tryz.prog.underlying 23 = some (.slice 60) := by kernel_rfl
theorem z23 : Tryz.prog.cellsOf 23 = 1 := by kernel_rfl
theorem u60 : Tryz.prog.underlying 60 = some (.array 2 5) := by kernel_rfl
theorem z60 : Tryz.prog.cellsOf 60 = 2 := by kernel_rfl
theorem ln2 {α : Type} {l : List α} (h : l.length = 2) : ∃ v0 v1, l = [v0, v1] := by match l, h with | [v0, v1], _ => exact ⟨v0, v1, rfl⟩
def c60 (x : S2Uint8) : List V := [.int .u8 x.a0, .int .u8 x.a1]
def Ok60 (x : S2Uint8) : Prop := (Lit.int .u8 x.a0).wf = true ∧ (Lit.int .u8 x.a1).wf = true
theorem rd60 : Rd 60 c60 Ok60 := fun H enc W fuel cs x h => by
 obtain ⟨xs, m, rfl, -, hl, hn, hel⟩ := DataW.trod_array u60 h
 rw [z60] at hl
 obtain ⟨v0, v1, rfl⟩ := ln2 hl
 obtain ⟨a0, i0, k0⟩ := fldA hel hn 0 (by omega) z5 (rdInt u5)
 obtain ⟨a1, i1, k1⟩ := fldA hel hn 1 (by omega) z5 (rdInt u5)
 exact ⟨⟨a0, a1⟩, ⟨i0, i1⟩, k0.append k1⟩
def Ok23 (l : List S2Uint8) : Prop := ∀ a, a ∈ l → Ok60 a
theorem rd23 : Rd 23 (fun l : List S2Uint8 => [.sl false 2 (l.map tyS2Uint8.c)]) Ok23 := rdSlice (ty := tyS2Uint8) u23 z60 (by omega) (fun _ => rfl) rd60
theorem ln4 {α : Type} {l : List α} (h : l.length = 4) : ∃ v0 v1 v2 v3, l = [v0, v1, v2, v3] := by match l, h with | [v0, v1, v2, v3], _ => exact ⟨v0, v1, v2, v3, rfl⟩
def c25 (x : SDraft1) : List V := [.sl false 6 (List.map tySDraft.c x.fLocals), .sl false 6 (List.map tySDraft.c x.fRemotes), .bool x.fControlling, .sl false 2 (List.map tyS2Uint8.c x.fSet)]
def Ok25 (x : SDraft1) : Prop := Ok22 x.fLocals ∧ Ok22 x.fRemotes ∧ True ∧ Ok23 x.fSet
theorem rd25 : Rd 25 c25 Ok25 := fun H enc W fuel cs x h => by
 obtain ⟨xs, m, rfl, -, hl, hn, hel⟩ := DataW.trod_struct u25 h
 rw [z25] at hl
 obtain ⟨v0, v1, v2, v3, rfl⟩ := ln4 hl
 obtain ⟨a0, i0, k0⟩ := fld hel hn 0 (t := 22) (o := 0) (by kernel_rfl) z22 rd22
 obtain ⟨a1, i1, k1⟩ := fld hel hn 1 (t := 22) (o := 1) (by kernel_rfl) z22 rd22
 obtain ⟨a2, i2, k2⟩ := fld hel hn 2 (t := 4) (o := 2) (by kernel_rfl) z4 (rdBool u4)
 obtain ⟨a3, i3, k3⟩ := fld hel hn 3 (t := 23) (o := 3) (by kernel_rfl) z23 rd23
 exact ⟨⟨a0, a1, a2, a3⟩, ⟨i0, i1, i2, i3⟩, k0.append (k1.append (k2.append k3))⟩
theorem u49 : Tryz.prog.underlying 49 = some (.array 2 48) := by kernel_rfl
theorem z49 : Tryz.prog.cellsOf 49 = 16 := by kernel_rfl
theorem u48 : Tryz.prog.underlying 48 = some (.struct (fsOf 48)) := by kernel_rfl
theorem z48 : Tryz.prog.cellsOf 48 = 8 := by kernel_rfl
theorem u3 : Tryz.prog.underlying 3 = some (.int .i64) := by kernel_rfl
theorem z3 : Tryz.prog.cellsOf 3 = 1 := by kernel_rfl
theorem u29 : Tryz.prog.underlying 29 = some (.struct (fsOf 29)) := by kernel_rfl
theorem z29 : Tryz.prog.cellsOf 29 = 5 := by kernel_rfl
theorem u9 : Tryz.prog.underlying 9 = some .string := by kernel_rfl
theorem z9 : Tryz.prog.cellsOf 9 = 1 := by kernel_rfl
theorem u27 : Tryz.prog.underlying 27 = some (.struct (fsOf 27)) := by kernel_rfl
theorem z27 : Tryz.prog.cellsOf 27 = 2 := by kernel_rfl
def c27 (x : SAddr) : List V := [.str x.fHost, .int .i64 x.fPort]
def Ok27 (x : SAddr) : Prop := True ∧ (Lit.int .i64 x.fPort).wf = true
theorem rd27 : Rd 27 c27 Ok27 := fun H enc W fuel cs x h => by
 obtain ⟨xs, m, rfl, -, hl, hn, hel⟩ := DataW.trod_struct u27 h
 rw [z27] at hl
 obtain ⟨v0, v1, rfl⟩ := ln2 hl
 obtain ⟨a0, i0, k0⟩ := fld hel hn 0 (t := 9) (o := 0) (by kernel_rfl) z9 (rdStr u9)
 obtain ⟨a1, i1, k1⟩ := fld hel hn 1 (t := 3) (o := 1) (by kernel_rfl) z3 (rdInt u3)
 exact ⟨⟨a0, a1⟩, ⟨i0, i1⟩, k0.append k1⟩
theorem ln5 {α : Type} {l : List α} (h : l.length = 5) : ∃ v0 v1 v2 v3 v4, l = [v0, v1, v2, v3, v4] := by match l, h with | [v0, v1, v2, v3, v4], _ => exact ⟨v0, v1, v2, v3, v4, rfl⟩
def c29 (x : SBend) : List V := [.int .u8 x.fWhat, .int .i64 x.fN, .str x.fS, .str x.fA.fHost, .int .i64 x.fA.fPort]
def Ok29 (x : SBend) : Prop := (Lit.int .u8 x.fWhat).wf = true ∧ (Lit.int .i64 x.fN).wf = true ∧ True ∧ Ok27 x.fA
theorem rd29 : Rd 29 c29 Ok29 := fun H enc W fuel cs x h => by
 obtain ⟨xs, m, rfl, -, hl, hn, hel⟩ := DataW.trod_struct u29 h
 rw [z29] at hl
 obtain ⟨v0, v1, v2, v3, v4, rfl⟩ := ln5 hl
 obtain ⟨a0, i0, k0⟩ := fld hel hn 0 (t := 5) (o := 0) (by kernel_rfl) z5 (rdInt u5)
 obtain ⟨a1, i1, k1⟩ := fld hel hn 1 (t := 3) (o := 1) (by kernel_rfl) z3 (rdInt u3)
 obtain ⟨a2, i2, k2⟩ := fld hel hn 2 (t := 9) (o := 2) (by kernel_rfl) z9 (rdStr u9)
 obtain ⟨a3, i3, k3⟩ := fld hel hn 3 (t := 27) (o := 3) (by kernel_rfl) z27 rd27
 exact ⟨⟨a0, a1, a2, a3⟩, ⟨i0, i1, i2, i3⟩, k0.append (k1.append (k2.append k3))⟩
theorem ln8 {α : Type} {l : List α} (h : l.length = 8) : ∃ v0 v1 v2 v3 v4 v5 v6 v7, l = [v0, v1, v2, v3, v4, v5, v6, v7] := by match l, h with | [v0, v1, v2, v3, v4, v5, v6, v7], _ => exact ⟨v0, v1, v2, v3, v4, v5, v6, v7, rfl⟩
def c48 (x : SBend1) : List V := [.int .u8 x.fWhat, .int .u8 x.fAt, .int .i64 x.fN, .int .u8 x.fC.fWhat, .int .i64 x.fC.fN, .str x.fC.fS, .str x.fC.fA.fHost, .int .i64 x.fC.fA.fPort]
def Ok48 (x : SBend1) : Prop := (Lit.int .u8 x.fWhat).wf = true ∧ (Lit.int .u8 x.fAt).wf = true ∧ (Lit.int .i64 x.fN).wf = true ∧ Ok29 x.fC
theorem rd48 : Rd 48 c48 Ok48 := fun H enc W fuel cs x h => by
 obtain ⟨xs, m, rfl, -, hl, hn, hel⟩ := DataW.trod_struct u48 h
 rw [z48] at hl
 obtain ⟨v0, v1, v2, v3, v4, v5, v6, v7, rfl⟩ := ln8 hl
 obtain ⟨a0, i0, k0⟩ := fld hel hn 0 (t := 5) (o := 0) (by kernel_rfl) z5 (rdInt u5)
 obtain ⟨a1, i1, k1⟩ := fld hel hn 1 (t := 5) (o := 1) (by kernel_rfl) z5 (rdInt u5)
 obtain ⟨a2, i2, k2⟩ := fld hel hn 2 (t := 3) (o := 2) (by kernel_rfl) z3 (rdInt u3)
 obtain ⟨a3, i3, k3⟩ := fld hel hn 3 (t := 29) (o := 3) (by kernel_rfl) z29 rd29
 exact ⟨⟨a0, a1, a2, a3⟩, ⟨i0, i1, i2, i3⟩, k0.append (k1.append (k2.append k3))⟩
theorem ln16 {α : Type} {l : List α} (h : l.length = 16) : ∃ v0 v1 v2 v3 v4 v5 v6 v7 v8 v9 v10 v11 v12 v13 v14 v15, l = [v0, v1, v2, v3, v4, v5, v6, v7, v8, v9, v10, v11, v12, v13, v14, v15] := by match l, h with | [v0, v1, v2, v3, v4, v5, v6, v7, v8, v9, v10, v11, v12, v13, v14, v15], _ => exact ⟨v0, v1, v2, v3, v4, v5, v6, v7, v8, v9, v10, v11, v12, v13, v14, v15, rfl⟩
def c49 (x : S2Tannoyref10Bend) : List V := [.int .u8 x.a0.fWhat, .int .u8 x.a0.fAt, .int .i64 x.a0.fN, .int .u8 x.a0.fC.fWhat, .int .i64 x.a0.fC.fN, .str x.a0.fC.fS, .str x.a0.fC.fA.fHost, .int .i64 x.a0.fC.fA.fPort, .int .u8 x.a1.fWhat, .int .u8 x.a1.fAt, .int .i64 x.a1.fN, .int .u8 x.a1.fC.fWhat, .int .i64 x.a1.fC.fN, .str x.a1.fC.fS, .str x.a1.fC.fA.fHost, .int .i64 x.a1.fC.fA.fPort]
def Ok49 (x : S2Tannoyref10Bend) : Prop := Ok48 x.a0 ∧ Ok48 x.a1
theorem rd49 : Rd 49 c49 Ok49 := fun H enc W fuel cs x h => by
 obtain ⟨xs, m, rfl, -, hl, hn, hel⟩ := DataW.trod_array u49 h
 rw [z49] at hl
 obtain ⟨v0, v1, v2, v3, v4, v5, v6, v7, v8, v9, v10, v11, v12, v13, v14, v15, rfl⟩ := ln16 hl
 obtain ⟨a0, i0, k0⟩ := fldA hel hn 0 (by omega) z48 rd48
 obtain ⟨a1, i1, k1⟩ := fldA hel hn 1 (by omega) z48 rd48
 exact ⟨⟨a0, a1⟩, ⟨i0, i1⟩, k0.append k1⟩
theorem u41 : Tryz.prog.underlying 41 = some (.struct (fsOf 41)) := by kernel_rfl
theorem z41 : Tryz.prog.cellsOf 41 = 4 := by kernel_rfl
theorem u31 : Tryz.prog.underlying 31 = some (.slice 34) := by kernel_rfl
theorem z31 : Tryz.prog.cellsOf 31 = 1 := by kernel_rfl
theorem u34 : Tryz.prog.underlying 34 = some (.struct (fsOf 34)) := by kernel_rfl
theorem z34 : Tryz.prog.cellsOf 34 = 8 := by kernel_rfl
def c34 (x : SCandidate) : List V := [.int .i64 x.fKind, .int .i64 x.fComponent, .int .i64 x.fPriority, .str x.fFoundation, .str x.fAddr.fHost, .int .i64 x.fAddr.fPort, .str x.fBase.fHost, .int .i64 x.fBase.fPort]
def Ok34 (x : SCandidate) : Prop := (Lit.int .i64 x.fKind).wf = true ∧ (Lit.int .i64 x.fComponent).wf = true ∧ (Lit.int .i64 x.fPriority).wf = true ∧ True ∧ Ok27 x.fAddr ∧ Ok27 x.fBase
theorem rd34 : Rd 34 c34 Ok34 := fun H enc W fuel cs x h => by
 obtain ⟨xs, m, rfl, -, hl, hn, hel⟩ := DataW.trod_struct u34 h
 rw [z34] at hl
 obtain ⟨v0, v1, v2, v3, v4, v5, v6, v7, rfl⟩ := ln8 hl
 obtain ⟨a0, i0, k0⟩ := fld hel hn 0 (t := 3) (o := 0) (by kernel_rfl) z3 (rdInt u3)
 obtain ⟨a1, i1, k1⟩ := fld hel hn 1 (t := 3) (o := 1) (by kernel_rfl) z3 (rdInt u3)
 obtain ⟨a2, i2, k2⟩ := fld hel hn 2 (t := 3) (o := 2) (by kernel_rfl) z3 (rdInt u3)
 obtain ⟨a3, i3, k3⟩ := fld hel hn 3 (t := 9) (o := 3) (by kernel_rfl) z9 (rdStr u9)
 obtain ⟨a4, i4, k4⟩ := fld hel hn 4 (t := 27) (o := 4) (by kernel_rfl) z27 rd27
 obtain ⟨a5, i5, k5⟩ := fld hel hn 5 (t := 27) (o := 6) (by kernel_rfl) z27 rd27
 exact ⟨⟨a0, a1, a2, a3, a4, a5⟩, ⟨i0, i1, i2, i3, i4, i5⟩, k0.append (k1.append (k2.append (k3.append (k4.append k5))))⟩
def Ok31 (l : List SCandidate) : Prop := ∀ a, a ∈ l → Ok34 a
theorem rd31 : Rd 31 (fun l : List SCandidate => [.sl false 8 (l.map tySCandidate.c)]) Ok31 := rdSlice (ty := tySCandidate) u31 z34 (by omega) (fun _ => rfl) rd34
theorem u39 : Tryz.prog.underlying 39 = some (.slice 68) := by kernel_rfl
theorem z39 : Tryz.prog.cellsOf 39 = 1 := by kernel_rfl
theorem u68 : Tryz.prog.underlying 68 = some (.struct (fsOf 68)) := by kernel_rfl
theorem z68 : Tryz.prog.cellsOf 68 = 4 := by kernel_rfl
def c68 (x : SPair) : List V := [.int .i64 x.fLocal, .int .i64 x.fRemote, .int .i64 x.fPriority, .int .i64 x.fState]
def Ok68 (x : SPair) : Prop := (Lit.int .i64 x.fLocal).wf = true ∧ (Lit.int .i64 x.fRemote).wf = true ∧ (Lit.int .i64 x.fPriority).wf = true ∧ (Lit.int .i64 x.fState).wf = true
theorem rd68 : Rd 68 c68 Ok68 := fun H enc W fuel cs x h => by
 obtain ⟨xs, m, rfl, -, hl, hn, hel⟩ := DataW.trod_struct u68 h
 rw [z68] at hl
 obtain ⟨v0, v1, v2, v3, rfl⟩ := ln4 hl
 obtain ⟨a0, i0, k0⟩ := fld hel hn 0 (t := 3) (o := 0) (by kernel_rfl) z3 (rdInt u3)
 obtain ⟨a1, i1, k1⟩ := fld hel hn 1 (t := 3) (o := 1) (by kernel_rfl) z3 (rdInt u3)
 obtain ⟨a2, i2, k2⟩ := fld hel hn 2 (t := 3) (o := 2) (by kernel_rfl) z3 (rdInt u3)
 obtain ⟨a3, i3, k3⟩ := fld hel hn 3 (t := 3) (o := 3) (by kernel_rfl) z3 (rdInt u3)
 exact ⟨⟨a0, a1, a2, a3⟩, ⟨i0, i1, i2, i3⟩, k0.append (k1.append (k2.append k3))⟩
def Ok39 (l : List SPair) : Prop := ∀ a, a ∈ l → Ok68 a
theorem rd39 : Rd 39 (fun l : List SPair => [.sl false 4 (l.map tySPair.c)]) Ok39 := rdSlice (ty := tySPair) u39 z68 (by omega) (fun _ => rfl) rd68
def c41 (x : SList) : List V := [.bool x.fControlling, .sl false 8 (List.map tySCandidate.c x.fLocals), .sl false 8 (List.map tySCandidate.c x.fRemotes), .sl false 4 (List.map tySPair.c x.fPairs)]
def Ok41 (x : SList) : Prop := True ∧ Ok31 x.fLocals ∧ Ok31 x.fRemotes ∧ Ok39 x.fPairs
theorem rd41 : Rd 41 c41 Ok41 := fun H enc W fuel cs x h => by
 obtain ⟨xs, m, rfl, -, hl, hn, hel⟩ := DataW.trod_struct u41 h
 rw [z41] at hl
 obtain ⟨v0, v1, v2, v3, rfl⟩ := ln4 hl
 obtain ⟨a0, i0, k0⟩ := fld hel hn 0 (t := 4) (o := 0) (by kernel_rfl) z4 (rdBool u4)
 obtain ⟨a1, i1, k1⟩ := fld hel hn 1 (t := 31) (o := 1) (by kernel_rfl) z31 rd31
 obtain ⟨a2, i2, k2⟩ := fld hel hn 2 (t := 31) (o := 2) (by kernel_rfl) z31 rd31
 obtain ⟨a3, i3, k3⟩ := fld hel hn 3 (t := 39) (o := 3) (by kernel_rfl) z39 rd39
 exact ⟨⟨a0, a1, a2, a3⟩, ⟨i0, i1, i2, i3⟩, k0.append (k1.append (k2.append k3))⟩
end Go.Proofs.YtioobnkmohikjaaGreatDoor
namespace Go.Proofs.YtioobnkmohikjaaGreatDoor
open Go Go.EV
set_option maxRecDepth 100000
def BendsOk (b : S2Tannoyref10Bend) : Prop := (0 ≤ b.a0.fAt ∧ b.a0.fAt ≤ 255) ∧ (0 ≤ b.a1.fAt ∧ b.a1.fAt ≤ 255)
theorem bends_of {b : S2Tannoyref10Bend} (h : Ok49 b) : BendsOk b := ⟨w8_iff h.1.2.1, w8_iff h.2.2.1⟩
end Go.Proofs.YtioobnkmohikjaaGreatDoor
