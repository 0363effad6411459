/- What Out says: the ports, the bindings' place, and what becomes of it. Conditions: lists no longer than a machine holds. -/
import Derived.Test.YtdiagiflihpidaaDoorE1
namespace Go.Proofs.YtdiagiflihpidaaDoor
open Go Go.EV
set_option maxRecDepth 100000

-- ports

def Ports (n : SNat) : Prop := 1 ≤ n.fLow ∧ n.fHigh ≤ 65535 ∧ n.fLow ≤ n.fHigh ∧ n.fHigh < n.fLow + 64
def first (n : SNat) (own : Int) : Int := if n.fLow ≤ own ∧ own ≤ n.fHigh then own else n.fLow
/-- The k-th port that is tried. -/
def portAt (n : SNat) (own k : Int) : Int := if first n own + k ≤ n.fHigh then first n own + k else first n own + k - (n.fHigh - n.fLow + 1)
def Taken (l : List SBinding) (p : Int) : Prop := ∃ b, b ∈ l ∧ b.fPort = p

def FreeQ (n : SNat) (own : Int) (r : Option Int) : Prop :=
  (∃ k : Int, 0 ≤ k ∧ k ≤ n.fHigh - n.fLow ∧ r = some (portAt n own k) ∧ ¬ Taken n.fTable (portAt n own k) ∧ ∀ j, 0 ≤ j → j < k → Taken n.fTable (portAt n own j)) ∨
  (r = none ∧ ∀ j, 0 ≤ j → j ≤ n.fHigh - n.fLow → Taken n.fTable (portAt n own j))

theorem first_in {n : SNat} (h : Ports n) (own : Int) : n.fLow ≤ first n own ∧ first n own ≤ n.fHigh := by
  unfold first
  obtain ⟨_, _, h3, _⟩ := h
  split <;> omega

theorem port_in {n : SNat} (h : Ports n) {own k : Int} (h0 : 0 ≤ k) (hk : k ≤ n.fHigh - n.fLow) : n.fLow ≤ portAt n own k ∧ portAt n own k ≤ n.fHigh := by
  have := first_in h own
  unfold portAt
  split <;> omega

theorem port_next {n : SNat} (h : Ports n) {own k : Int} (h0 : 0 ≤ k) (hk : k ≤ n.fHigh - n.fLow) : (if n.fHigh < portAt n own k + 1 then n.fLow else portAt n own k + 1) = portAt n own (k + 1) := by
  have := first_in h own
  unfold portAt
  split <;> split <;> split <;> omega

theorem port_mod {n : SNat} (h : Ports n) {own k : Int} (h0 : 0 ≤ k) (hk : k ≤ n.fHigh - n.fLow) : n.fLow + Int.tmod (first n own - n.fLow + k) (n.fHigh - n.fLow + 1) = portAt n own k := by
  have hf := first_in h own
  have hp : portAt n own k = n.fLow + (if first n own - n.fLow + k < n.fHigh - n.fLow + 1 then first n own - n.fLow + k else first n own - n.fLow + k - (n.fHigh - n.fLow + 1)) := by
    unfold portAt
    split <;> split <;> omega
  rw [hp, Int.tmod_eq_emod_of_nonneg (by omega)]
  congr 1
  split
  · exact Int.emod_eq_of_lt (by omega) (by omega)
  · rw [← Int.sub_emod_right]
    exact Int.emod_eq_of_lt (by omega) (by omega)

theorem free_eq {n : SNat} {own : Int} {r q : Option Int} (hr : FreeQ n own r) (hq : FreeQ n own q) : r = q := by
  rcases hr with ⟨i, i0, i1, i2, i3, i4⟩ | ⟨i2, i3⟩ <;> rcases hq with ⟨j, j0, j1, j2, j3, j4⟩ | ⟨j2, j3⟩
  · have : i = j := by
      rcases Int.lt_trichotomy i j with h | h | h
      · exact absurd (j4 i i0 h) i3
      · exact h
      · exact absurd (i4 j j0 h) j3
    rw [i2, j2, this]
  · exact absurd (j3 i i0 i1) i3
  · exact absurd (i3 j j0 j1) j3
  · rw [i2, j2]

theorem ok60 (n : SNat) (own : Int) (hl : Small n.fTable) (hd : Ports n) : SOk (s60 n own) (fun r => ∃ o, FreeQ n own o ∧ r = o.getD 0 ∧ (r = 0 ↔ o = none)) := by
  have hdd := hd
  obtain ⟨d1, d2, d3, d4⟩ := hd
  have hf := first_in hdd own
  show Ok (g60 n own) _
  unfold g60
  rw [wi64_id (n := n.fHigh - n.fLow) (by omega) (by omega), wi64_id (n := n.fHigh - n.fLow + 1) (by omega) (by omega)]
  refine Ok.cnd (R := fun c => (c = true ↔ n.fLow ≤ own ∧ own ≤ n.fHigh)) ?_ fun c hc => ?_
  · refine Ok.br (fun h => Ok.done ?_) (fun h => Ok.done ?_)
    · simp at h; simp [h]
    · simp at h ⊢; intro; omega
  refine Ok.bind (R := fun x => x = first n own) ?_ fun e he => ?_
  · refine Ok.br (fun h => Ok.done ?_) (fun h => Ok.done ?_)
    · unfold first; rw [if_pos (hc.1 h)]
    · unfold first; rw [if_neg (fun h2 => by rw [hc.2 h2] at h; simp at h)]
  subst he
  rw [wi64_id (n := first n own - n.fLow) (by omega) (by omega)]
  refine Ok.bind2 (R := fun e => match e with | .inl p => ∃ k : Int, 0 ≤ k ∧ k ≤ n.fHigh - n.fLow ∧ p = portAt n own k ∧ ¬ Taken n.fTable (portAt n own k) ∧ ∀ j, 0 ≤ j → j < k → Taken n.fTable (portAt n own j) | .inr _ => ∀ j, 0 ≤ j → j ≤ n.fHigh - n.fLow → Taken n.fTable (portAt n own j)) ?_ (fun p hp => Ok.done ?_) (fun _ hp => Ok.done ?_)
  · refine Ok.lp (fun i => (0 ≤ i ∧ i ≤ n.fHigh - n.fLow + 1) ∧ ∀ j, 0 ≤ j → j < i → Taken n.fTable (portAt n own j)) (fun i => 64 - i.toNat) ⟨⟨by simp, by omega⟩, fun j h0 h1 => by omega⟩ (fuel (by simp)) fun i hi => ?_
    obtain ⟨⟨h0, h1⟩, h2⟩ := hi
    refine Ok.br (fun hc => ?_) (fun hc => Ok.done ?_)
    · rw [decide_eq_true_eq] at hc
      rw [wi64_id (n := first n own - n.fLow + i) (by omega) (by omega)]
      have hp := port_mod hdd (own := own) h0 (by omega)
      have hpi := port_in hdd (own := own) h0 (by omega)
      rw [hp, wi64_id (n := portAt n own i) (by omega) (by omega)]
      refine Ok.chk (by simp; omega) (Ok.call (ok89 _ _ hl) fun c hcc => Ok.br (fun hb => Ok.done ?_) (fun hb => Ok.done ?_))
      · simp at hb; subst hb
        exact ⟨i, h0, by omega, rfl, fun ht => by simpa using hcc.2 ht, h2⟩
      · simp at hb; subst hb
        rw [wi64_id (n := i + 1) (by omega) (by omega)]
        refine ⟨⟨⟨by omega, by omega⟩, fun j j0 j1 => ?_⟩, by simp only; omega⟩
        rcases Int.lt_or_le j i with h | h
        · exact h2 j j0 h
        · have : j = i := by omega
          subst this; exact hcc.1 rfl
    · rw [decide_eq_false_iff_not] at hc
      exact fun j j0 j1 => h2 j j0 (by omega)
  · obtain ⟨k, k0, k1, rfl, k2, k3⟩ := hp
    have := port_in hdd (own := own) k0 k1
    refine ⟨some (portAt n own k), .inl ⟨k, k0, k1, rfl, k2, k3⟩, rfl, ?_⟩
    simp; omega
  · exact ⟨none, .inr ⟨rfl, hp⟩, rfl, by simp⟩

theorem okRound (n : SNat) (p : Int) (hl : Small n.fTable) : Ok (gRound n p) (fun c => (c = true ↔ Taken n.fTable p)) := by
  unfold gRound
  refine Ok.bind2 (R := fun e => match e with | .inl _ => ∃ b, b ∈ n.fTable ∧ b.fPort = p | .inr _ => ¬ ∃ b, b ∈ n.fTable ∧ b.fPort = p) ?_ (fun e he => Ok.done ⟨fun _ => he, fun _ => rfl⟩) (fun e he => Ok.done ⟨fun h => by simp at h, fun h => absurd h he⟩)
  refine Ok.lp (fun i => 0 ≤ i ∧ i ≤ (n.fTable.length : Int) ∧ ∀ j, j < i.toNat → ∀ b, n.fTable[j]? = some b → b.fPort ≠ p) (fun i => n.fTable.length - i.toNat) ⟨by simp, by simp, by simp⟩ (fuel (by simp; omega)) fun i hi => ?_
  obtain ⟨h0, h1, h2⟩ := hi
  refine Ok.br (fun hc => ?_) (fun hc => Ok.done ?_)
  · rw [mlen_eq, decide_eq_true_eq] at hc
    obtain ⟨y, hy⟩ := at_of h0 hc
    refine Ok.row (by simpa using h0) hy (Ok.br (fun h3 => Ok.done ?_) (fun h3 => Ok.done ?_))
    · exact ⟨y, List.mem_of_getElem? hy, by simpa using h3⟩
    · rw [wi64_succ h0 hc hl]
      refine ⟨⟨by omega, by omega, ?_⟩, by simp only; omega⟩
      rw [toNat_succ h0]
      refine upto_succ h2 fun b hb => ?_
      rw [hy] at hb; simp only [Option.some.injEq] at hb; subst hb; simpa using h3
  · rw [mlen_eq, decide_eq_false_iff_not] at hc
    rintro ⟨b, hb, hp⟩
    obtain ⟨j, hj⟩ := List.mem_iff_getElem?.1 hb
    exact h2 j (by have := (List.getElem?_eq_some_iff.1 hj).1; omega) b hj hp

theorem ok87 (r : SRouter) (own : Int) (hl : Small r.fNat.fTable) (hd : Ports r.fNat) : SOk (s87 r own) (FreeQ r.fNat own) := by
  obtain ⟨n⟩ := r
  simp only at hl hd
  have hdd := hd
  obtain ⟨d1, d2, d3, d4⟩ := hd
  have hf := first_in hdd own
  show ∃ o, freeM n own = some o ∧ FreeQ n own o
  have h0 : Ok (gI0 n own) (fun c => c = portAt n own 0) := by
    unfold gI0
    have hp : portAt n own 0 = first n own := by unfold portAt; split <;> omega
    rw [hp]
    refine Ok.cnd (R := fun c => (c = true ↔ ¬ (n.fLow ≤ own ∧ own ≤ n.fHigh))) ?_ fun c hc => ?_
    · refine Ok.br (fun h => Ok.done ?_) (fun h => Ok.done ?_)
      · simp at h ⊢; intro; omega
      · simp at h ⊢; omega
    · refine Ok.br (fun h => Ok.done ?_) (fun h => Ok.done ?_)
      · unfold first; rw [if_neg (hc.1 h)]
      · unfold first; rw [if_pos (Classical.byContradiction fun h2 => by rw [hc.2 h2] at h; simp at h)]
  obtain ⟨c, hc, rfl⟩ := h0
  unfold freeM
  rw [hc]
  have hs : itSize n = n.fHigh - n.fLow + 1 := by
    unfold itSize
    rw [wi64_id (n := n.fHigh - n.fLow) (by omega) (by omega), wi64_id (by omega) (by omega)]
  refine iter_inv (fun y => (0 ≤ y.2 ∧ y.2 ≤ n.fHigh - n.fLow + 1) ∧ y.1 = portAt n own y.2 ∧ ∀ j, 0 ≤ j → j < y.2 → Taken n.fTable (portAt n own j)) (fun y => 64 - y.2.toNat) (FreeQ n own) (fun y hy => ?_) FUEL _ ⟨⟨by simp, by simp; omega⟩, rfl, fun j j0 j1 => by simp only at j1; omega⟩ (fuel (by simp))
  obtain ⟨cur, k⟩ := y
  obtain ⟨⟨k0, k1⟩, hcur, k2⟩ := hy
  simp only at k0 k1 hcur k2
  subst hcur
  unfold itStep
  rw [hs]
  by_cases hk : k < n.fHigh - n.fLow + 1
  · obtain ⟨t, ht, htt⟩ := okRound n (portAt n own k) hl
    simp only [decide_eq_true hk, cond_true, ht]
    cases t with
    | true =>
      have hpi := port_in hdd (own := own) k0 (by omega)
      have h5 : Ok (gI5 n (portAt n own k)) (fun c => c = portAt n own (k + 1)) := by
        unfold gI5
        rw [wi64_id (n := portAt n own k + 1) (by omega) (by omega), ← port_next hdd k0 (by omega)]
        refine Ok.br (fun h => Ok.done ?_) (fun h => Ok.done ?_)
        · rw [if_pos (by simpa using h)]
        · rw [if_neg (by simpa using h)]
      obtain ⟨c2, hc2, rfl⟩ := h5
      simp only [cond_true, hc2]
      refine ⟨_, rfl, ?_⟩
      rw [wi64_id (n := k + 1) (by omega) (by omega)]
      refine ⟨⟨⟨by simp only; omega, by simp only; omega⟩, rfl, fun j j0 j1 => ?_⟩, by simp only; omega⟩
      simp only at j1
      rcases Int.lt_or_le j k with h | h
      · exact k2 j j0 h
      · have : j = k := by omega
        subst this; exact htt.1 rfl
    | false =>
      simp only [cond_false]
      exact ⟨_, rfl, .inl ⟨k, k0, by omega, rfl, fun h => by simpa using htt.2 h, k2⟩⟩
  · simp only [decide_eq_false hk, cond_false]
    exact ⟨_, rfl, .inr ⟨rfl, fun j j0 j1 => k2 j j0 (by omega)⟩⟩

-- the binding

theorem ok86 (x : SBinding) (a p : SAddr) : SOk (s86 x a p) (fun c => (c = true ↔ x.fInside = a ∧ x.fPeer = p)) := by
  show Ok (g86 x a p) _
  unfold g86
  refine Ok.cnd (R := fun c => (c = true ↔ x.fInside = a ∧ x.fPeer = p)) ?_ fun c hc => Ok.done hc
  refine Ok.br (fun h => Ok.done ?_) (fun h => Ok.done ?_)
  · rw [eA_iff] at h; rw [eA_iff]; simp [h]
  · constructor
    · intro h2; simp at h2
    · intro h2; rw [eA_iff.2 h2.1] at h; simp at h

theorem ok115_1 (l : List SBinding) (a p : SAddr) (hl : Small l) : SOk (s115_1 l a p) (FindQ l fun x => x.fInside = a ∧ x.fPeer = p) := by
  show Ok (g115_1 l a p) _
  unfold g115_1
  refine Ok.bind2 (R := fun e => match e with | .inl i => 0 ≤ i ∧ ∃ x, l[i.toNat]? = some x ∧ x.fInside = a ∧ x.fPeer = p | .inr _ => ∀ b, b ∈ l → ¬ (b.fInside = a ∧ b.fPeer = p)) ?_ (fun e he => Ok.done (.inl he)) (fun e he => Ok.done (.inr ⟨by omega, he⟩))
  refine Ok.lp (fun i => 0 ≤ i ∧ i ≤ (l.length : Int) ∧ ∀ j, j < i.toNat → ∀ b, l[j]? = some b → ¬ (b.fInside = a ∧ b.fPeer = p)) (fun i => l.length - i.toNat) ⟨by simp, by simp, by simp⟩ (fuel (by simp; omega)) fun i hi => ?_
  obtain ⟨h0, h1, h2⟩ := hi
  refine Ok.br (fun hc => ?_) (fun hc => Ok.done ?_)
  · rw [mlen_eq, decide_eq_true_eq] at hc
    obtain ⟨y, hy⟩ := at_of h0 hc
    refine Ok.row (by simpa using h0) hy (Ok.call (ok86 _ _ _) fun c hcc => ?_)
    refine Ok.br (fun h3 => Ok.done ?_) (fun h3 => Ok.done ?_)
    · exact ⟨h0, y, hy, hcc.1 h3⟩
    · rw [wi64_succ h0 hc hl]
      refine ⟨⟨by omega, by omega, ?_⟩, by simp only; omega⟩
      rw [toNat_succ h0]
      refine upto_succ h2 fun b hb => ?_
      rw [hy] at hb; simp only [Option.some.injEq] at hb; subst hb
      intro e; rw [hcc.2 e] at h3; simp at h3
  · rw [mlen_eq, decide_eq_false_iff_not] at hc
    intro b hb
    obtain ⟨j, hj⟩ := List.mem_iff_getElem?.1 hb
    exact h2 j (by have := (List.getElem?_eq_some_iff.1 hj).1; omega) b hj

theorem ok85 (r : SRouter) (a p : SAddr) (hl : Small r.fNat.fTable) : SOk (s85 r a p) (FindQ r.fNat.fTable fun x => x.fInside = a ∧ x.fPeer = p) := by
  show Ok (g85 r a p) _
  unfold g85
  exact Ok.call (ok115_1 _ _ _ hl) fun i hi => Ok.done hi

open Classical in
/-- Whom a binding lets in when it has let something out. -/
noncomputable def newOpen (n : SNat) (b : SAddr) (o : List SAddr) : List SAddr :=
  if n.fFilter = 1 ∨ keyOf n.fFilter b ∈ o then o else (o ++ [keyOf n.fFilter b]).drop (o.length + 1 - 16)

noncomputable def upd (n : SNat) (b : SAddr) (x : SBinding) : SBinding := ⟨x.fInside, x.fPeer, x.fPort, wi64 (n.fNow + n.fTimeout), newOpen n b x.fOpen⟩

/-- The binding, its place, and the table that holds it. -/
def Base (n : SNat) (a b : SAddr) (t : List SBinding) (j : Nat) (x : SBinding) : Prop :=
  (t = n.fTable ∧ n.fTable[j]? = some x ∧ x.fInside = a ∧ x.fPeer = keyOf n.fMapping b) ∨
  ((∀ y, y ∈ n.fTable → ¬ (y.fInside = a ∧ y.fPeer = keyOf n.fMapping b)) ∧ ∃ p, FreeQ n a.fPort (some p) ∧ x = ⟨a, keyOf n.fMapping b, p, 0, []⟩ ∧ t = n.fTable ++ [x] ∧ j = n.fTable.length)

def NoBase (n : SNat) (a b : SAddr) : Prop := (∀ y, y ∈ n.fTable → ¬ (y.fInside = a ∧ y.fPeer = keyOf n.fMapping b)) ∧ FreeQ n a.fPort none

theorem Base.at {n : SNat} {a b : SAddr} {t : List SBinding} {j : Nat} {x : SBinding} (h : Base n a b t j x) : t[j]? = some x := by
  rcases h with ⟨rfl, h, _⟩ | ⟨_, p, _, _, rfl, rfl⟩
  · exact h
  · simp

theorem Base.len {n : SNat} {a b : SAddr} {t : List SBinding} {j : Nat} {x : SBinding} (h : Base n a b t j x) : t.length ≤ n.fTable.length + 1 := by
  rcases h with ⟨rfl, _⟩ | ⟨_, p, _, _, rfl, rfl⟩
  · omega
  · simp

theorem Base.mem {n : SNat} {a b : SAddr} {t : List SBinding} {j : Nat} {x : SBinding} (h : Base n a b t j x) : ∀ y, y ∈ t → y ∈ n.fTable ∨ y.fOpen = [] := by
  rcases h with ⟨rfl, _⟩ | ⟨_, p, _, rfl, rfl, rfl⟩
  · exact fun y hy => .inl hy
  · intro y hy
    rcases List.mem_append.1 hy with hy | hy
    · exact .inl hy
    · rw [List.mem_singleton.1 hy]; exact .inr rfl

/-- No two of them are alike. -/
def Apart (l : List SBinding) : Prop := l.Pairwise fun y b => ¬ Alike b y

theorem apart_of_all {n : SNat} {l : List SBinding} (h : AllB n l) : Apart l := by
  refine List.pairwise_iff_getElem.2 fun i j hi hj hij => ?_
  exact (h j l[j] (List.getElem?_eq_getElem hj)).2.2 i hij l[i] (List.getElem?_eq_getElem hi)

theorem apart_keep {l : List SBinding} (h : Apart l) (now : Int) : Apart (keep now l) := List.Pairwise.filter _ h

theorem apart_idx {l : List SBinding} (h : Apart l) {i j : Nat} {x y : SBinding} (hx : l[i]? = some x) (hy : l[j]? = some y) (ha : Alike x y) : i = j := by
  obtain ⟨i1, i2⟩ := List.getElem?_eq_some_iff.1 hx
  obtain ⟨j1, j2⟩ := List.getElem?_eq_some_iff.1 hy
  have hp := List.pairwise_iff_getElem.1 h
  rcases Nat.lt_trichotomy i j with hlt | heq | hgt
  · have := hp i j i1 j1 hlt
    rw [i2, j2] at this
    exact absurd ha.symm this
  · exact heq
  · have := hp j i j1 i1 hgt
    rw [i2, j2] at this
    exact absurd ha this

theorem base_eq {n : SNat} {a b : SAddr} {t t' : List SBinding} {j j' : Nat} {x x' : SBinding} (hn : Apart n.fTable) (h : Base n a b t j x) (h' : Base n a b t' j' x') : t = t' ∧ j = j' ∧ x = x' := by
  rcases h with ⟨rfl, h1, h2, h3⟩ | ⟨h0, p, h1, rfl, rfl, rfl⟩ <;> rcases h' with ⟨rfl, k1, k2, k3⟩ | ⟨k0, q, k1, rfl, rfl, rfl⟩
  · have hj := apart_idx hn h1 k1 (.inr ⟨by rw [h2, k2], by rw [h3, k3]⟩)
    subst hj
    rw [h1] at k1
    exact ⟨rfl, rfl, Option.some.inj k1⟩
  · exact absurd ⟨h2, h3⟩ (k0 x (List.mem_of_getElem? h1))
  · exact absurd ⟨k2, k3⟩ (h0 x' (List.mem_of_getElem? k1))
  · have := free_eq h1 k1
    simp only [Option.some.injEq] at this
    subst this
    exact ⟨rfl, rfl, rfl⟩

theorem base_none {n : SNat} {a b : SAddr} {t : List SBinding} {j : Nat} {x : SBinding} (h : Base n a b t j x) (h' : NoBase n a b) : False := by
  rcases h with ⟨rfl, h1, h2, h3⟩ | ⟨_, p, h1, _⟩
  · exact h'.1 x (List.mem_of_getElem? h1) ⟨h2, h3⟩
  · exact absurd (free_eq h1 h'.2) (by simp)

def OutQ (n : SNat) (now : Int) (a b : SAddr) (r : SNat × SAddr × Int) : Prop :=
  (¬ Valid n ∧ r = (nat0, addr0, 130)) ∨ (Valid n ∧ ¬ (Time n now [a, b] ∧ a.fHost ≠ n.fHost) ∧ r = (nat0, addr0, 2)) ∨
  (Valid n ∧ (Time n now [a, b] ∧ a.fHost ≠ n.fHost) ∧ ((NoBase (atT n now) a b ∧ r = (nat0, addr0, 4)) ∨
    ∃ t j x, Base (atT n now) a b t j x ∧ r = (⟨n.fMapping, n.fFilter, n.fTimeout, n.fHairpin, n.fHost, n.fLow, n.fHigh, now, t.set j (upd (atT n now) b x)⟩, ⟨n.fHost, x.fPort⟩, 0)))

theorem out_eq {n : SNat} {now : Int} {a b : SAddr} {r q : SNat × SAddr × Int} (hr : OutQ n now a b r) (hq : OutQ n now a b q) : r = q := by
  rcases hr with ⟨h1, h2⟩ | ⟨h1, h2, h3⟩ | ⟨h1, h2, h3⟩ <;> rcases hq with ⟨k1, k2⟩ | ⟨k1, k2, k3⟩ | ⟨k1, k2, k3⟩
  · rw [h2, k2]
  · exact absurd k1 h1
  · exact absurd k1 h1
  · exact absurd h1 k1
  · rw [h3, k3]
  · exact absurd k2 h2
  · exact absurd h1 k1
  · exact absurd h2 k2
  · have ha : Apart (atT n now).fTable := apart_keep (apart_of_all h1.2) now
    rcases h3 with ⟨x1, x2⟩ | ⟨t, j, x, x1, x2⟩ <;> rcases k3 with ⟨y1, y2⟩ | ⟨t', j', y, y1, y2⟩
    · rw [x2, y2]
    · exact (base_none y1 x1).elim
    · exact (base_none x1 y1).elim
    · obtain ⟨rfl, rfl, rfl⟩ := base_eq ha x1 y1
      rw [x2, y2]

theorem newOpen_len (n : SNat) (b : SAddr) {o : List SAddr} {k : Nat} (h : o.length ≤ k) (hk : 16 ≤ k) : (newOpen n b o).length ≤ k := by
  unfold newOpen
  split
  · exact h
  · simp; omega

theorem out_small {n : SNat} {now : Int} {a b : SAddr} {r : SNat × SAddr × Int} (hl : SmallN n.fTable) (hlt : n.fTable.length ≤ 1000) (hr : OutQ n now a b r) : SmallN r.1.fTable := by
  rcases hr with ⟨_, h⟩ | ⟨_, _, h⟩ | ⟨_, _, ⟨_, h⟩ | ⟨t, j, x, hb, h⟩⟩ <;> rw [h]
  · exact smallN_nat0
  · exact smallN_nat0
  · exact smallN_nat0
  · have hk := smallN_keep hl now
    have hm : ∀ y, y ∈ t → Small y.fOpen := fun y hy => by
      rcases hb.mem y hy with h | h
      · exact hk.2 y h
      · rw [h]; simp
    have hl2 := hb.len
    have h3 : (atT n now).fTable.length ≤ n.fTable.length := List.length_filter_le _ _
    refine ⟨by simp; omega, fun y hy => ?_⟩
    rcases List.mem_or_eq_of_mem_set hy with hy | rfl
    · exact hm y hy
    · exact newOpen_len _ _ (hm x (List.mem_of_getElem? hb.at)) (by omega)

end Go.Proofs.YtdiagiflihpidaaDoor
