/- What In and the reference's In say. Conditions: lists no longer than a machine holds. -/
import Derived.Test.YtdiagiflihpidaaDoorC5
import Derived.Test.YtdiagiflihpidaaDoorD1
namespace Go.Proofs.YtdiagiflihpidaaDoor
open Go Go.EV
set_option maxRecDepth 100000

def addr0 : SAddr := ⟨ByteArray.empty, 0⟩

/-- The key of an address. -/
def keyOf (k : Int) (a : SAddr) : SAddr := if k = 1 then ⟨ByteArray.empty, 0⟩ else if k = 2 then ⟨a.fHost, 0⟩ else a

/-- Does a binding let an address in? -/
def Lets (n : SNat) (b : SBinding) (a : SAddr) : Prop := n.fFilter = 1 ∨ keyOf n.fFilter a ∈ b.fOpen

def InQ (n : SNat) (now : Int) (a b : SAddr) (r : SNat × SAddr × Int) : Prop :=
  (¬ Valid n ∧ r = (nat0, addr0, 130)) ∨ (Valid n ∧ ¬ (Time n now [a, b] ∧ b.fHost = n.fHost) ∧ r = (nat0, addr0, 2)) ∨
  (Valid n ∧ (Time n now [a, b] ∧ b.fHost = n.fHost) ∧ ((∃ x, x ∈ keep now n.fTable ∧ x.fPort = b.fPort ∧ Lets n x a ∧ r = (atT n now, x.fInside, 0)) ∨ ((∀ x, x ∈ keep now n.fTable → x.fPort = b.fPort → ¬ Lets n x a) ∧ r = (nat0, addr0, 4))))

theorem uniq_of {n : SNat} {l : List SBinding} (h : AllB n l) {b b' : SBinding} (hb : b ∈ l) (hb' : b' ∈ l) (hp : b.fPort = b'.fPort) : b = b' := by
  obtain ⟨i, hi⟩ := List.mem_iff_getElem?.1 hb
  obtain ⟨j, hj⟩ := List.mem_iff_getElem?.1 hb'
  rcases Nat.lt_trichotomy i j with h1 | h1 | h1
  · exact absurd (.inl hp.symm) ((h j b' hj).2.2 i h1 b hi)
  · subst h1; rw [hi] at hj; exact Option.some.inj hj
  · exact absurd (.inl hp) ((h i b hi).2.2 j h1 b' hj)

theorem keep_mem {now : Int} {l : List SBinding} {b : SBinding} (h : b ∈ keep now l) : b ∈ l := (List.mem_filter.1 h).1

theorem small_keep {l : List SBinding} (h : Small l) (now : Int) : Small (keep now l) := Nat.le_trans (List.length_filter_le _ _) h

theorem in_eq {n : SNat} {now : Int} {a b : SAddr} {r q : SNat × SAddr × Int} (hr : InQ n now a b r) (hq : InQ n now a b q) : r = q := by
  rcases hr with ⟨h1, h2⟩ | ⟨h1, h2, h3⟩ | ⟨h1, h2, h3⟩ <;> rcases hq with ⟨k1, k2⟩ | ⟨k1, k2, k3⟩ | ⟨k1, k2, k3⟩
  · rw [h2, k2]
  · exact absurd k1 h1
  · exact absurd k1 h1
  · exact absurd h1 k1
  · rw [h3, k3]
  · exact absurd k2 h2
  · exact absurd h1 k1
  · exact absurd h2 k2
  · rcases h3 with ⟨x, x1, x2, x3, x4⟩ | ⟨x1, x2⟩ <;> rcases k3 with ⟨y, y1, y2, y3, y4⟩ | ⟨y1, y2⟩
    · have : x = y := uniq_of h1.2 (keep_mem x1) (keep_mem y1) (by rw [x2, y2])
      subst this; rw [x4, y4]
    · exact absurd x3 (y1 x x1 x2)
    · exact absurd y3 (x1 y y1 y2)
    · rw [x2, y2]

theorem in_small {n : SNat} {now : Int} {a b : SAddr} {r : SNat × SAddr × Int} (hl : SmallN n.fTable) (hr : InQ n now a b r) : SmallN r.1.fTable := by
  rcases hr with ⟨_, h⟩ | ⟨_, _, h⟩ | ⟨_, _, ⟨x, _, _, _, h⟩ | ⟨_, h⟩⟩ <;> rw [h]
  · exact smallN_nat0
  · exact smallN_nat0
  · exact smallN_keep hl now
  · exact smallN_nat0

theorem ok117 (l : List SAddr) (x : SAddr) (hl : Small l) : SOk (s117 l x) (fun i => (0 ≤ i ↔ x ∈ l)) := by
  show Ok (g117 l x) _
  unfold g117
  refine Ok.bind2 (R := fun e => match e with | .inl i => 0 ≤ i ∧ x ∈ l | .inr _ => ¬ x ∈ l) ?_ (fun e he => Ok.done ⟨fun _ => he.2, fun _ => he.1⟩) (fun e he => Ok.done ⟨fun h => by simp at h, fun h => absurd h he⟩)
  refine Ok.lp (fun i => 0 ≤ i ∧ i ≤ (l.length : Int) ∧ ∀ j, j < i.toNat → l[j]? ≠ some x) (fun i => l.length - i.toNat) ⟨by simp, by simp, by simp⟩ (fuel (by simp; omega)) fun i hi => ?_
  obtain ⟨h0, h1, h2⟩ := hi
  refine Ok.br (fun hc => ?_) (fun hc => Ok.done ?_)
  · rw [mlen_eq, decide_eq_true_eq] at hc
    obtain ⟨y, hy⟩ := at_of h0 hc
    refine Ok.row (by simpa using h0) hy (Ok.br (fun h3 => Ok.done ?_) (fun h3 => Ok.done ?_))
    · rw [eA_iff] at h3; subst h3
      exact ⟨h0, List.mem_of_getElem? hy⟩
    · rw [wi64_succ h0 hc hl]
      refine ⟨⟨by omega, by omega, ?_⟩, by simp only; omega⟩
      rw [toNat_succ h0]
      refine upto_succ h2 ?_
      rw [hy]; intro e
      simp only [Option.some.injEq] at e
      rw [(eA_iff (a := x) (b := y)).2 e.symm] at h3; simp at h3
  · rw [mlen_eq, decide_eq_false_iff_not] at hc
    intro hm
    obtain ⟨j, hj⟩ := List.mem_iff_getElem?.1 hm
    exact h2 j (by have := (List.getElem?_eq_some_iff.1 hj).1; omega) hj

theorem ok88 (l : List SAddr) (x : SAddr) (hl : Small l) : SOk (s88 l x) (fun c => (c = true ↔ x ∈ l)) := by
  show Ok (g88 l x) _
  unfold g88
  exact Ok.call (ok117 l x hl) fun i hi => Ok.done (by simp [hi])

/-- The index of the first of which something holds. -/
def FindQ (l : List SBinding) (p : SBinding → Prop) (i : Int) : Prop := (0 ≤ i ∧ ∃ x, l[i.toNat]? = some x ∧ p x) ∨ (i < 0 ∧ ∀ b, b ∈ l → ¬ p b)

theorem ok115_2 (l : List SBinding) (a : SAddr) (hl : Small l) : SOk (s115_2 l a) (FindQ l fun b => b.fPort = a.fPort) := by
  show Ok (g115_2 l a) _
  unfold g115_2
  refine Ok.bind2 (R := fun e => match e with | .inl i => 0 ≤ i ∧ ∃ x, l[i.toNat]? = some x ∧ x.fPort = a.fPort | .inr _ => ∀ b, b ∈ l → ¬ b.fPort = a.fPort) ?_ (fun e he => Ok.done (.inl he)) (fun e he => Ok.done (.inr ⟨by omega, he⟩))
  refine Ok.lp (fun i => 0 ≤ i ∧ i ≤ (l.length : Int) ∧ ∀ j, j < i.toNat → ∀ b, l[j]? = some b → ¬ b.fPort = a.fPort) (fun i => l.length - i.toNat) ⟨by simp, by simp, by simp⟩ (fuel (by simp; omega)) fun i hi => ?_
  obtain ⟨h0, h1, h2⟩ := hi
  refine Ok.br (fun hc => ?_) (fun hc => Ok.done ?_)
  · rw [mlen_eq, decide_eq_true_eq] at hc
    obtain ⟨y, hy⟩ := at_of h0 hc
    refine Ok.row (by simpa using h0) hy (Ok.call (R := fun c => (c = true ↔ y.fPort = a.fPort)) (Ok.done (by simp) : Ok (g90 y a) _) fun c hcc => ?_)
    refine Ok.br (fun h3 => Ok.done ?_) (fun h3 => Ok.done ?_)
    · exact ⟨h0, y, hy, hcc.1 h3⟩
    · rw [wi64_succ h0 hc hl]
      refine ⟨⟨by omega, by omega, ?_⟩, by simp only; omega⟩
      rw [toNat_succ h0]
      refine upto_succ h2 fun b hb => ?_
      rw [hy] at hb; simp only [Option.some.injEq] at hb; subst hb
      intro e; rw [hcc.2 e] at h3; simp at h3
  · rw [mlen_eq, decide_eq_false_iff_not] at hc
    intro b hb
    obtain ⟨j, hj⟩ := List.mem_iff_getElem?.1 hb
    exact h2 j (by have := (List.getElem?_eq_some_iff.1 hj).1; omega) b hj

theorem ok146 (a : SAddr) : SOk (s146 a) (fun y => y = keyOf 1 a) := by
  show Ok (g146 a) _
  unfold g146
  exact Ok.done rfl
theorem ok147 (a : SAddr) : SOk (s147 a) (fun y => y = keyOf 2 a) := by
  show Ok (g147 a) _
  unfold g147
  exact Ok.done rfl
theorem ok148 (a : SAddr) : SOk (s148 a) (fun y => y = keyOf 3 a) := by
  show Ok (g148 a) _
  unfold g148
  exact Ok.done rfl

theorem ok62_1 (r : SRouter) (a b : SAddr) (hf : 1 ≤ r.fNat.fFilter ∧ r.fNat.fFilter ≤ 3) (hl : SmallN r.fNat.fTable) (hu : ∀ x y, x ∈ r.fNat.fTable → y ∈ r.fNat.fTable → x.fPort = y.fPort → x = y) :
    SOk (s62_1 r a b) (fun q => (∃ x, x ∈ r.fNat.fTable ∧ x.fPort = b.fPort ∧ Lets r.fNat x a ∧ q = (x.fInside, 0)) ∨ ((∀ x, x ∈ r.fNat.fTable → x.fPort = b.fPort → ¬ Lets r.fNat x a) ∧ q = (addr0, 4))) := by
  show Ok (g62_1 r a b) _
  unfold g62_1
  refine Ok.view (R := FindQ r.fNat.fTable fun x => x.fPort = b.fPort) (Ok.call (ok115_2 _ _ hl.1) fun i hi => Ok.done hi : Ok (g85_2 r b) _) fun i hi => ?_
  rcases hi with ⟨h0, x, hx, hp⟩ | ⟨h0, hnone⟩
  · have hxm := List.mem_of_getElem? hx
    refine Ok.cnd (R := fun c => (c = false ↔ Lets r.fNat x a)) ?_ fun c hc => ?_
    · refine Ok.br (fun h => by simp at h; omega) (fun _ => Ok.br (fun h => ?_) (fun h => Ok.done ?_))
      · simp at h
        refine Ok.row (by simpa using h0) hx ?_
        have h23 : r.fNat.fFilter = 2 ∨ r.fNat.fFilter = 3 := by omega
        rcases h23 with h2 | h2
        · refine Ok.ceq (by rw [h2]; rfl) ?_
          rw [h2]
          simp only [show ((2 : Int) == 0) = false from rfl, show ((2 : Int) == 1) = false from rfl, show ((2 : Int) == 2) = true from rfl, cond_false, cond_true]
          refine Ok.call (ok147 a) fun y hy => Ok.call (ok88 _ _ (hl.2 x hxm)) fun c hc => Ok.done ?_
          rw [hy] at hc
          simp only [Lets, h2]
          cases c <;> simp_all
        · refine Ok.ceq (by rw [h2]; rfl) ?_
          rw [h2]
          simp only [show ((3 : Int) == 0) = false from rfl, show ((3 : Int) == 1) = false from rfl, show ((3 : Int) == 2) = false from rfl, show ((3 : Int) == 3) = true from rfl, cond_false, cond_true]
          refine Ok.call (ok148 a) fun y hy => Ok.call (ok88 _ _ (hl.2 x hxm)) fun c hc => Ok.done ?_
          rw [hy] at hc
          simp only [Lets, h2]
          cases c <;> simp_all
      · simp at h; simp [Lets, h]
    · refine Ok.br (fun h => Ok.done (.inr ⟨fun y hy hyp => ?_, rfl⟩)) (fun h => Ok.row (by simpa using h0) hx (Ok.done (.inl ⟨x, hxm, hp, hc.1 h, rfl⟩)))
      have : y = x := hu y x hy hxm (by rw [hyp, hp])
      subst this
      intro hlets
      rw [hc.2 hlets] at h; simp at h
  · refine Ok.cnd (R := fun c => c = true) (Ok.br (fun _ => Ok.done rfl) (fun h => by simp at h; omega)) fun c hc => ?_
    refine Ok.br (fun _ => Ok.done (.inr ⟨fun y hy hyp => absurd hyp (hnone y hy), rfl⟩)) (fun h => by rw [hc] at h; simp at h)

theorem ok27 (n : SNat) (now : Int) (a b : SAddr) (hl : SmallN n.fTable) : SOk (s27 n now a b) (InQ n now a b) := by
  show Ok (g27 n now a b) _
  unfold g27 InQ
  refine Ok.call2 (ok56_1 n now [a, b] hl (by simp)) (fun e he => ?_) (fun t ht => ?_)
  · have he' : (e = 130 ∧ ¬ Valid n) ∨ (e = 2 ∧ Valid n ∧ ¬ Time n now [a, b]) := by
      rcases he with ⟨h1, h2⟩ | ⟨h1, h2, h3⟩ | ⟨_, _, h3⟩
      · simp at h2; exact .inl ⟨h2, h1⟩
      · simp at h3; exact .inr ⟨h3, h1, h2⟩
      · simp at h3
    have hne : e ≠ 0 := by rcases he' with h | h <;> omega
    refine Ok.cnd (R := fun c => c = false) ?_ fun c hc => ?_
    · refine Ok.br (fun h => absurd (by simpa using h) hne) (fun _ => Ok.done rfl)
    · refine Ok.bind (R := fun x => x = e) (Ok.br (fun h => by rw [hc] at h; simp at h) (fun _ => Ok.done rfl)) fun x hx => ?_
      subst hx
      refine Ok.br (fun _ => Ok.done ?_) (fun h => absurd (by simpa using h) hne)
      rcases he' with ⟨rfl, h1⟩ | ⟨rfl, h1, h2⟩
      · exact .inl ⟨h1, rfl⟩
      · exact .inr (.inl ⟨h1, fun h => h2 h.1, rfl⟩)
  · rcases ht with ⟨_, h2⟩ | ⟨_, _, h3⟩ | ⟨hv, htm, h3⟩
    · simp at h2
    · simp at h3
    simp at h3; subst h3
    refine Ok.bind (R := fun x => x = if b.fHost = n.fHost then 0 else 2) ?_ fun x hx => ?_
    · refine Ok.br (fun h => Ok.done ?_) (fun h => Ok.done ?_)
      · simp at h; simp [h]
      · simp at h; simp [h]
    · refine Ok.br (fun h => Ok.done ?_) (fun h => ?_)
      · by_cases hh : b.fHost = n.fHost
        · rw [if_pos hh] at hx; subst hx; simp at h
        · rw [if_neg hh] at hx; subst hx
          exact .inr (.inl ⟨hv, fun h => hh h.2, rfl⟩)
      · have hh : b.fHost = n.fHost := by
          by_cases hh : b.fHost = n.fHost
          · exact hh
          · rw [if_neg hh] at hx; subst hx; simp at h
        refine Ok.view (ok62_1 ⟨atT n now⟩ a b hv.1.2.1 (smallN_keep hl now) (fun x y hx hy hp => uniq_of hv.2 (keep_mem hx) (keep_mem hy) hp)) fun q hq => ?_
        rcases hq with ⟨x, x1, x2, x3, rfl⟩ | ⟨x1, rfl⟩
        · refine Ok.br (fun h => by simp at h) (fun _ => Ok.gh (Ok.done (.inr (.inr ⟨hv, ⟨htm, hh⟩, .inl ⟨x, x1, x2, x3, rfl⟩⟩))))
        · refine Ok.br (fun _ => Ok.done (.inr (.inr ⟨hv, ⟨htm, hh⟩, .inr ⟨x1, rfl⟩⟩))) (fun h => by simp at h)

theorem ok28 (n : SNat) (now : Int) (a b : SAddr) (hl : SmallN n.fTable) : SOk (s28 n now a b) (InQ n now a b) := by
  show Ok (g28 n now a b) _
  unfold g28 InQ
  refine Ok.view (ok18 n now [a, b] hl (by simp)) fun e he => ?_
  refine Ok.br (fun h => Ok.done ?_) (fun h => ?_)
  · rcases he with ⟨h1, h2⟩ | ⟨h1, h2, h3⟩ | ⟨_, _, h3⟩
    · subst h2; exact .inl ⟨h1, rfl⟩
    · subst h3; exact .inr (.inl ⟨h1, fun h => h2 h.1, rfl⟩)
    · subst h3; simp at h
  · rcases he with ⟨h1, h2⟩ | ⟨h1, h2, h3⟩ | ⟨hv, htm, h3⟩
    · subst h2; simp at h
    · subst h3; simp at h
    refine Ok.br (fun h2 => Ok.done ?_) (fun h2 => ?_)
    · simp at h2; exact .inr (.inl ⟨hv, fun h => h2 h.2, rfl⟩)
    · have hh : b.fHost = n.fHost := by simpa using h2
      refine Ok.call (ok21 n now hl) fun t ht => ?_
      have hts : Small t := by rw [ht]; exact small_keep hl.1 now
      refine Ok.bind2 (R := fun e => match e with | .inl q => ∃ x, x ∈ t ∧ x.fPort = b.fPort ∧ Lets n x a ∧ q = (x.fInside.fHost, x.fInside.fPort) | .inr _ => ∀ x, x ∈ t → x.fPort = b.fPort → ¬ Lets n x a) ?_ (fun q hq => ?_) (fun _ hq => Ok.done ?_)
      · refine Ok.lp (fun i => 0 ≤ i ∧ i ≤ (t.length : Int) ∧ ∀ j, j < i.toNat → ∀ x, t[j]? = some x → x.fPort = b.fPort → ¬ Lets n x a) (fun i => t.length - i.toNat) ⟨by simp, by simp, by simp⟩ (fuel (by simp; omega)) fun i hi => ?_
        obtain ⟨h0, h1, h3⟩ := hi
        refine Ok.br (fun hc => ?_) (fun hc => Ok.done ?_)
        · rw [decide_eq_true_eq] at hc
          obtain ⟨y, hy⟩ := at_of h0 hc
          have hym := List.mem_of_getElem? hy
          have hyo : Small y.fOpen := hl.2 y (by rw [ht] at hym; exact keep_mem hym)
          refine Ok.chk (by simp; omega) (Ok.row rfl (by rw [Nat.zero_add]; exact hy) ?_)
          refine Ok.cnd (R := fun c => (c = true ↔ y.fPort = b.fPort ∧ Lets n y a)) ?_ fun c hcc => ?_
          · refine Ok.br (fun h4 => Ok.br (fun h5 => Ok.done ?_) (fun h5 => Ok.call (ok59 _ _) fun k hk => Ok.call (ok61 _ _ hyo) fun c hcc => Ok.done ?_)) (fun h4 => Ok.done ?_)
            · simp at h4 h5; simp [h4, Lets, h5]
            · simp at h4 h5
              have hk2 : k = keyOf n.fFilter a := hk
              rw [hcc, hk2]
              simp only [Lets, h4, h5, true_and, false_or]
            · simp at h4; simp [h4]
          · refine Ok.br (fun h4 => Ok.done ?_) (fun h4 => Ok.done ?_)
            · obtain ⟨k1, k2⟩ := hcc.1 h4
              exact ⟨y, hym, k1, k2, rfl⟩
            · rw [wi64_succ h0 hc hts]
              refine ⟨⟨by omega, by omega, ?_⟩, by simp only; omega⟩
              rw [toNat_succ h0]
              refine upto_succ h3 fun x hx hp hlets => ?_
              rw [hy] at hx; simp only [Option.some.injEq] at hx; subst hx
              rw [hcc.2 ⟨hp, hlets⟩] at h4; simp at h4
        · rw [decide_eq_false_iff_not] at hc
          intro x hx
          obtain ⟨j, hj⟩ := List.mem_iff_getElem?.1 hx
          exact h3 j (by have := (List.getElem?_eq_some_iff.1 hj).1; omega) x hj
      · obtain ⟨x, x1, x2, x3, rfl⟩ := hq
        subst ht
        exact Ok.gh (Ok.done (.inr (.inr ⟨hv, ⟨htm, hh⟩, .inl ⟨x, x1, x2, x3, rfl⟩⟩)))
      · subst ht
        exact .inr (.inr ⟨hv, ⟨htm, hh⟩, .inr ⟨hq, rfl⟩⟩)

/-- A comparison of what is one and the same. -/
theorem cmp_cnd {ρ : Type} {Q : ρ → Prop} {r : SNat × SAddr × Int} {id a1 a2 a3 : Nat} {ts : List Nat} {L1 L2 : List (Nat × Nat)} {E : Bool → List V} {k : Bool → TT ρ} (hs : SmallN r.1.fTable) (hk : Ok (k false) Q) :
    Ok (.cnd id ts (.br a1 (r.2.2 != r.2.2) (.done true) (.br a2 (!((decide (r.2.1.fHost = r.2.1.fHost)) && ((r.2.1.fPort == r.2.1.fPort) && true))) (.done true) (.call a3 (s22 r.1 r.1) L1 L2 fun c => .done (!c)))) E k) Q := by
  refine Ok.cnd (R := fun c => c = false) ?_ fun c hc => by rw [hc]; exact hk
  refine Ok.br (fun h => by simp at h) (fun _ => Ok.br (fun h => by simp at h) (fun _ => Ok.call (ok22 _ hs) fun c hc => Ok.done (by simp [hc])))

end Go.Proofs.YtdiagiflihpidaaDoor
