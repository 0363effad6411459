/- What a guide is worth, by rules: 'Ok g Q' says that the guide comes to a result of which Q holds. No conditions.
   What the functions of nat and of its reference say of a NAT's validity: one condition for both. Conditions: lists no longer than a machine holds.
   What nat and its reference say of whole NATs: one condition, Valid, for both. Conditions: lists no longer than a machine holds.
   What the reference says of whole NATs. Conditions: lists no longer than a machine holds.
   Errors, Check, start, Expire, At and Same of a NAT. Conditions: lists no longer than a machine holds.
   The NATs that the laws look at: they come to be, and are small. Conditions: a number of eight bits is one.
   tannoylaw13.NatChecks answers true. Conditions: a number of eight bits is one.
   tannoylaw13.NatChecks answers true. Conditions: a number of eight bits is one. -/
import Derived.Test.YtdiagiflihpidaaDoorA6
import Derived.Test.YtdiagiflihpidaaDoorC4
import Derived.KernelRfl

namespace Go.EV
open Go

def Ok {P : Program} {G : Nat → Option (List V)} {ρ : Type} (g : T P G ρ) (Q : ρ → Prop) : Prop := ∃ r, g.run = some r ∧ Q r

/-- .. of a contract. -/
def SOk {P : Program} {G : Nat → Option (List V)} {ρ : Type} (s : Spec P G ρ) (Q : ρ → Prop) : Prop := ∃ r, s.o = some r ∧ Q r

section
variable {P : Program} {G : Nat → Option (List V)} {ρ : Type} {Q : ρ → Prop}

theorem Ok.mono {g : T P G ρ} {R : ρ → Prop} (h : Ok g R) (hq : ∀ r, R r → Q r) : Ok g Q := let ⟨r, h1, h2⟩ := h; ⟨r, h1, hq r h2⟩
theorem SOk.mono {s : Spec P G ρ} {R : ρ → Prop} (h : SOk s R) (hq : ∀ r, R r → Q r) : SOk s Q := let ⟨r, h1, h2⟩ := h; ⟨r, h1, hq r h2⟩
theorem SOk.of {s : Spec P G ρ} {r : ρ} (h : s.o = some r) : SOk s (fun x => x = r) := ⟨r, h, rfl⟩
theorem SOk.eq {s : Spec P G ρ} {r : ρ} (h : SOk s (fun x => x = r)) : s.o = some r := by obtain ⟨x, h1, rfl⟩ := h; exact h1

theorem Ok.done {r : ρ} (h : Q r) : Ok (.done r : T P G ρ) Q := ⟨r, rfl, h⟩

theorem Ok.br {a : Nat} {c : Bool} {x y : T P G ρ} (h1 : c = true → Ok x Q) (h2 : c = false → Ok y Q) : Ok (.br a c x y) Q := by
  cases c with
  | true => obtain ⟨r, e, hq⟩ := h1 rfl; exact ⟨r, e, hq⟩
  | false => obtain ⟨r, e, hq⟩ := h2 rfl; exact ⟨r, e, hq⟩

theorem Ok.tt {k : T P G ρ} (h : Ok k Q) : Ok (.tt k) Q := h
theorem Ok.ff {k : T P G ρ} (h : Ok k Q) : Ok (.ff k) Q := h
theorem Ok.re {a : Nat} {w : ReW} {k : T P G ρ} (h : Ok k Q) : Ok (.re a w k) Q := h
theorem Ok.gh {a : Nat} {w : GhW} {k : T P G ρ} (h : Ok k Q) : Ok (.gh a w k) Q := h

theorem Ok.chk {a : Nat} {c : Bool} {k : T P G ρ} (hc : c = true) (h : Ok k Q) : Ok (.chk a c k) Q := by
  subst hc; obtain ⟨r, e, hq⟩ := h; exact ⟨r, e, hq⟩

theorem Ok.row {α : Type} {a : Nat} {ty : Ty α} {l : List α} {j : Nat} {c : Bool} {k : α → T P G ρ} {x : α} (hc : c = true) (hx : l[j]? = some x) (h : Ok (k x) Q) : Ok (.row a ty l j c k) Q := by
  subst hc; obtain ⟨r, e, hq⟩ := h
  exact ⟨r, by simp only [T.run, cond_true, hx]; exact e, hq⟩

theorem Ok.rowt {α : Type} {a col : Nat} {ty : Ty α} {l : List α} {j : Nat} {k : α → T P G ρ} {x : α} (hx : l[j]? = some x) (h : Ok (k x) Q) : Ok (.rowt a ty l j col k) Q := by
  obtain ⟨r, e, hq⟩ := h
  exact ⟨r, by simp only [T.run, hx]; exact e, hq⟩

theorem Ok.rowg {α β : Type} {a b d : Nat} {ty : Ty α} {l : List α} {j col z : Nat} {ty2 : Ty β} {o : α → List β} {hc : ∀ x, (ty.c x)[col]? = some (.sl true z ((o x).map ty2.c))} {hs : ∀ y, ty2.c y = ty2.d y} {k : α → T P G ρ} {x : α} (hx : l[j]? = some x) (h : Ok (k x) Q) : Ok (.rowg a b d ty l j col z ty2 o hc hs k) Q := by
  obtain ⟨r, e, hq⟩ := h
  exact ⟨r, by simp only [T.run, hx]; exact e, hq⟩

theorem Ok.hrow {α : Type} {a : Nat} {ty : Ty α} {l : List α} {hole : List V} {j : Nat} {k : T P G ρ} (hj : j < l.length) (h : Ok k Q) : Ok (.hrow a ty l hole j k) Q := by
  obtain ⟨r, e, hq⟩ := h
  exact ⟨r, by simp only [T.run, List.getElem?_eq_getElem hj]; exact e, hq⟩

theorem Ok.cutg {α : Type} {a b : Nat} {ty : Ty α} {l : List α} {n : Nat} {hs : ∀ y, ty.c y = ty.d y} {k : T P G ρ} (hn : n ≤ l.length) (h : Ok k Q) : Ok (.cutg a b ty l n hs k) Q := by
  obtain ⟨r, e, hq⟩ := h
  exact ⟨r, by simp only [T.run, decide_eq_true hn, cond_true]; exact e, hq⟩

theorem Ok.nst0 {α β : Type} {a : Nat} {ty : Ty α} {l : List α} {hole : List V} {j col : Nat} {y : α} {ty2 : Ty β} {o : List β} {k : T P G ρ} (hj : j < l.length) (h : Ok k Q) : Ok (.nst a ty l hole j col y ty2 o none k) Q := by
  obtain ⟨r, e, hq⟩ := h
  exact ⟨r, by simp only [T.run, List.getElem?_eq_getElem hj]; exact e, hq⟩

theorem Ok.nst1 {α β : Type} {a : Nat} {ty : Ty α} {l : List α} {hole : List V} {j col n : Nat} {y : α} {ty2 : Ty β} {o : List β} {k : T P G ρ} (hj : j < l.length) (hn : n ≤ o.length) (h : Ok k Q) : Ok (.nst a ty l hole j col y ty2 o (some n) k) Q := by
  obtain ⟨r, e, hq⟩ := h
  exact ⟨r, by simp only [T.run, List.getElem?_eq_getElem hj, decide_eq_true hn, cond_true]; exact e, hq⟩

theorem Ok.app {α : Type} {a : Nat} {ty : Ty α} {l x : List α} {bytes : Nat} {fl : Bool} {hf : fl = true → ∀ y, ty.c y = ty.d y} {k : T P G ρ} (hn : (l.length + x.length) * bytes ≤ 140737488355328) (h : Ok k Q) : Ok (.app a ty l x bytes fl hf k) Q := by
  obtain ⟨r, e, hq⟩ := h
  exact ⟨r, by simp only [T.run, decide_eq_true hn, cond_true]; exact e, hq⟩

theorem Ok.appn {α β : Type} {a : Nat} {ty : Ty α} {l : List α} {y : α} {col d2 : Nat} {ty2 : Ty β} {o : List β} {bytes : Nat} {k : T P G ρ} (hn : (l.length + 1) * bytes ≤ 140737488355328) (h : Ok k Q) : Ok (.appn a ty l y col d2 ty2 o bytes k) Q := by
  obtain ⟨r, e, hq⟩ := h
  exact ⟨r, by simp only [T.run, decide_eq_true hn, cond_true]; exact e, hq⟩

theorem Ok.call {α : Type} {a : Nat} {s : Spec P G α} {Li Lo : List (Nat × Nat)} {k : α → T P G ρ} {R : α → Prop} (hs : SOk s R) (h : ∀ r, R r → Ok (k r) Q) : Ok (.call a s Li Lo k) Q := by
  obtain ⟨x, e1, hr⟩ := hs
  obtain ⟨r, e, hq⟩ := h x hr
  exact ⟨r, by simp only [T.run, e1]; exact e, hq⟩

theorem Ok.view {α : Type} {a : Nat} {s : Spec P G α} {vs : List VwW} {k : α → T P G ρ} {R : α → Prop} (hs : SOk s R) (h : ∀ r, R r → Ok (k r) Q) : Ok (.view a s vs k) Q := by
  obtain ⟨x, e1, hr⟩ := hs
  obtain ⟨r, e, hq⟩ := h x hr
  exact ⟨r, by simp only [T.run, e1]; exact e, hq⟩

theorem Ok.call2 {α β : Type} {a : Nat} {s : Spec P G (α ⊕ β)} {Li Lo : List (Nat × Nat)} {k : α → T P G ρ} {k2 : β → T P G ρ} {R : α ⊕ β → Prop} (hs : SOk s R) (h : ∀ r, R (.inl r) → Ok (k r) Q) (h2 : ∀ r, R (.inr r) → Ok (k2 r) Q) : Ok (.call2 a s Li Lo k k2) Q := by
  obtain ⟨x, e1, hr⟩ := hs
  cases x with
  | inl x => obtain ⟨r, e, hq⟩ := h x hr; exact ⟨r, by simp only [T.run, e1]; exact e, hq⟩
  | inr x => obtain ⟨r, e, hq⟩ := h2 x hr; exact ⟨r, by simp only [T.run, e1]; exact e, hq⟩

theorem Ok.cnd {ε : Type} {id : Nat} {ts : List Nat} {first : T P G ε} {E : ε → List V} {k : ε → T P G ρ} {R : ε → Prop} (hf : Ok first R) (h : ∀ e, R e → Ok (k e) Q) : Ok (.cnd id ts first E k) Q := by
  obtain ⟨x, e1, hr⟩ := hf
  obtain ⟨r, e, hq⟩ := h x hr
  exact ⟨r, by simp only [T.run, e1]; exact e, hq⟩

theorem Ok.bind {ε : Type} {j : Nat} {first : T P G ε} {E : ε → Ext} {k : ε → T P G ρ} {R : ε → Prop} (hf : Ok first R) (h : ∀ e, R e → Ok (k e) Q) : Ok (.bind j first E k) Q := by
  obtain ⟨x, e1, hr⟩ := hf
  obtain ⟨r, e, hq⟩ := h x hr
  exact ⟨r, by simp only [T.run, e1]; exact e, hq⟩

theorem Ok.bind2 {ε ζ : Type} {j : Nat} {first : T P G (ε ⊕ ζ)} {E : ε → Ext} {E2 : ζ → Ext} {k : ε → T P G ρ} {k2 : ζ → T P G ρ} {R : ε ⊕ ζ → Prop} (hf : Ok first R) (h : ∀ e, R (.inl e) → Ok (k e) Q) (h2 : ∀ e, R (.inr e) → Ok (k2 e) Q) : Ok (.bind2 j first E E2 k k2) Q := by
  obtain ⟨x, e1, hr⟩ := hf
  cases x with
  | inl x => obtain ⟨r, e, hq⟩ := h x hr; exact ⟨r, by simp only [T.run, e1]; exact e, hq⟩
  | inr x => obtain ⟨r, e, hq⟩ := h2 x hr; exact ⟨r, by simp only [T.run, e1]; exact e, hq⟩

theorem Ok.ceq {a : Nat} {n : Int} {vs : List Int} {k : Int → T P G ρ} (hn : vs.contains n = true) (h : Ok (k n) Q) : Ok (.ceq a n vs k) Q := by
  obtain ⟨r, e, hq⟩ := h
  exact ⟨r, by simp only [T.run, hn, cond_true]; exact e, hq⟩

theorem iter_inv {σ ε : Type} {f : σ → Option (σ ⊕ ε)} (I : σ → Prop) (μ : σ → Nat) (R : ε → Prop)
    (step : ∀ x, I x → ∃ r, f x = some r ∧ (match r with | .inl y => I y ∧ μ y < μ x | .inr e => R e)) : ∀ n x, I x → μ x < n → ∃ e, iter f n x = some e ∧ R e
  | 0, x, _, h => absurd h (Nat.not_lt_zero _)
  | n + 1, x, hx, h => by
    have e1 : iter f (n + 1) x = (match f x with | none => none | some (.inl y) => iter f n y | some (.inr e) => some e) := rfl
    rw [e1]
    obtain ⟨r, hr, hq⟩ := step x hx
    rw [hr]
    cases r with
    | inl y => exact iter_inv I μ R step n y hq.1 (by have := hq.2; omega)
    | inr e => exact ⟨e, rfl, hq⟩

/-- What a round comes to. -/
def Rnd {σ ε : Type} (I : σ → Prop) (μ : σ → Nat) (m : Nat) (R : ε → Prop) : σ ⊕ ε → Prop
  | .inl y => I y ∧ μ y < m
  | .inr e => R e

theorem Ok.lp {σ ε : Type} {S : σ → Ext} {body : σ → T P G (σ ⊕ ε)} {x : σ} {R : ε → Prop} (I : σ → Prop) (μ : σ → Nat) (hx : I x) (hm : μ x < FUEL) (step : ∀ y, I y → Ok (body y) (Rnd I μ (μ y) R)) : Ok (.lp S body x) R := by
  refine iter_inv I μ R (fun y hy => ?_) FUEL x hx hm
  obtain ⟨r, h1, h2⟩ := step y hy
  refine ⟨r, h1, ?_⟩
  cases r <;> exact h2
end

end Go.EV

namespace Go.Proofs.YtdiagiflihpidaaDoor
open Go Go.EV
set_option maxRecDepth 100000

theorem wi64_id {n : Int} (h1 : -9223372036854775808 ≤ n) (h2 : n ≤ 9223372036854775807) : wi64 n = n := by
  unfold wi64 IntKind.wrap
  simp [IntKind.signed, IntKind.bits]
  omega

theorem fuel {n : Nat} (h : n ≤ 140737488355329) : n < FUEL := by unfold FUEL; omega

-- addresses

theorem eA_iff {a b : SAddr} : (decide (a.fHost = b.fHost) && ((a.fPort == b.fPort) && true)) = true ↔ a = b := by
  cases a; cases b; simp

def Usable (a : SAddr) (n : Int) : Prop := ((a.fHost.size : Int) = n ∧ (n = 4 ∨ n = 16)) ∧ 1 ≤ a.fPort ∧ a.fPort ≤ 65535

theorem ok118 (h : ByteArray) : SOk (s118 h) (fun r => (r.2 = 0 ↔ ((h.size : Int) = 4 ∨ (h.size : Int) = 16))) := by
  show Ok (g118 h) _
  unfold g118
  refine Ok.cnd (R := fun c => (c = true ↔ ¬ ((h.size : Int) = 4 ∨ (h.size : Int) = 16))) ?_ fun c hc => ?_
  · refine Ok.br (fun h1 => Ok.done ?_) (fun h1 => Ok.done ?_)
    · simp at h1 ⊢; omega
    · simp at h1 ⊢; omega
  · refine Ok.br (fun h1 => Ok.done ?_) (fun h1 => Ok.done ?_)
    · simp [hc.1 h1]
    · subst h1; simp at hc ⊢; omega

theorem ok94 (a : SAddr) : SOk (s94 a) (fun r => (r = 0 ↔ ((a.fHost.size : Int) = 4 ∨ (a.fHost.size : Int) = 16) ∧ 0 ≤ a.fPort ∧ a.fPort ≤ 65535)) := by
  show Ok (g94 a) _
  unfold g94
  refine Ok.call (ok118 _) fun r hr => ?_
  refine Ok.cnd (R := fun c => (c = true ↔ ¬ (((a.fHost.size : Int) = 4 ∨ (a.fHost.size : Int) = 16) ∧ 0 ≤ a.fPort ∧ a.fPort ≤ 65535))) ?_ fun c hc => ?_
  · refine Ok.br (fun h1 => Ok.done ?_) (fun h1 => Ok.br (fun h2 => Ok.done ?_) (fun h2 => Ok.done ?_))
    · simp at h1 ⊢; rw [hr] at h1; omega
    · simp at h2 ⊢; omega
    · simp at h1 h2 ⊢; rw [hr] at h1; omega
  · refine Ok.br (fun h1 => Ok.done ?_) (fun h1 => Ok.done ?_)
    · simp; have := hc.1 h1; omega
    · subst h1; simp at hc ⊢; omega

theorem ok84 (r : SRouter) (a : SAddr) : SOk (s84 r a) (fun b => (b = true ↔ Usable a (r.fNat.fHost.size : Int))) := by
  show Ok (g84 r a) _
  unfold g84
  refine Ok.cnd (R := fun c => (c = true ↔ Usable a (r.fNat.fHost.size : Int))) ?_ fun c hc => Ok.done hc
  refine Ok.call (ok94 _) fun x hx => ?_
  unfold Usable
  refine Ok.br (fun h1 => Ok.br (fun h2 => Ok.done ?_) (fun h2 => Ok.done ?_)) (fun h1 => Ok.done ?_)
  · simp at h1 h2 ⊢; rw [hx] at h1; omega
  · simp at h1 h2 ⊢; omega
  · simp at h1 ⊢; rw [hx] at h1; omega

theorem ok54 (a : SAddr) (n : Int) : SOk (s54 a n) (fun b => (b = true ↔ Usable a n)) := by
  show Ok (g54 a n) _
  unfold g54
  refine Ok.cnd (R := fun c => (c = true ↔ Usable a n)) ?_ fun c hc => Ok.done hc
  unfold Usable
  refine Ok.br (fun h1 => Ok.br (fun h2 => Ok.br (fun h3 => Ok.done ?_) (fun h3 => Ok.done ?_)) (fun h2 => Ok.br (fun h3 => Ok.br (fun h4 => Ok.done ?_) (fun h4 => Ok.done ?_)) (fun h3 => Ok.done ?_))) (fun h1 => Ok.done ?_)
  all_goals (simp at *; omega)

/-- An address that is the key of a usable one. -/
def IsKey (k : Int) (a : SAddr) (n : Int) : Prop :=
  (k = 1 ∧ a = ⟨ByteArray.empty, 0⟩) ∨ (k = 2 ∧ a.fPort = 0 ∧ Usable ⟨a.fHost, 1⟩ n) ∨ (k ≠ 1 ∧ k ≠ 2 ∧ Usable a n)

theorem empty_iff (a : SAddr) : (decide (a.fHost = ByteArray.empty) && ((a.fPort == 0) && true)) = true ↔ a = ⟨ByteArray.empty, 0⟩ := eA_iff (b := ⟨ByteArray.empty, 0⟩)

theorem ok111 (r : SRouter) (k : Int) (a : SAddr) : SOk (s111 r k a) (fun b => (b = true ↔ IsKey k a (r.fNat.fHost.size : Int))) := by
  show Ok (g111 r k a) _
  unfold g111 IsKey
  refine Ok.br (fun h1 => Ok.done ?_) (fun h1 => Ok.br (fun h2 => ?_) (fun h2 => ?_))
  · rw [empty_iff]; simp at h1; simp [h1]
  · simp at h1 h2
    subst h2
    refine Ok.cnd (R := fun c => (c = true ↔ a.fPort = 0 ∧ Usable ⟨a.fHost, 1⟩ (r.fNat.fHost.size : Int))) ?_ fun c hc => Ok.done (by simp [hc])
    refine Ok.br (fun h3 => ?_) (fun h3 => Ok.done ?_)
    · refine Ok.call (ok84 _ _) fun x hx => Ok.done ?_
      simp at h3; simp [h3, hx]
    · simp at h3; simp [h3]
  · simp at h1 h2
    refine Ok.call (ok84 _ _) fun x hx => Ok.done ?_
    simp [h1, h2, hx]

theorem ok59 (k : Int) (a : SAddr) : SOk (s59 k a) (fun b => b = if k = 1 then ⟨ByteArray.empty, 0⟩ else if k = 2 then ⟨a.fHost, 0⟩ else a) := by
  show Ok (g59 k a) _
  unfold g59
  refine Ok.br (fun h1 => Ok.done ?_) (fun h1 => Ok.br (fun h2 => Ok.done ?_) (fun h2 => Ok.done ?_)) <;> simp at * <;> simp [*]

theorem ok108 (k : Int) (a : SAddr) (n : Int) : SOk (s108 k a n) (fun b => (b = true ↔ IsKey k a n)) := by
  show Ok (g108 k a n) _
  unfold g108 IsKey
  refine Ok.bind (R := fun e => e = if k = 2 then 1 else a.fPort) ?_ fun e he => ?_
  · refine Ok.br (fun h1 => Ok.done ?_) (fun h1 => Ok.done ?_) <;> simp at h1 <;> simp [h1]
  · refine Ok.br (fun h1 => Ok.done ?_) (fun h1 => ?_)
    · rw [empty_iff]; simp at h1; simp [h1]
    · simp at h1
      refine Ok.cnd (R := fun c => (c = true ↔ (k = 2 ∧ a.fPort = 0 ∧ Usable ⟨a.fHost, 1⟩ n) ∨ (k ≠ 2 ∧ Usable a n))) ?_ fun c hc => Ok.done (by simp [hc, h1])
      refine Ok.call (ok54 _ _) fun x hx => ?_
      refine Ok.br (fun h2 => ?_) (fun h2 => Ok.done ?_)
      · refine Ok.call (ok59 _ _) fun y hy => Ok.done ?_
        rw [eA_iff (a := y) (b := a), hy]
        have hu := hx.1 h2
        by_cases h3 : k = 2
        · subst h3
          simp at he; subst he
          cases a with
          | mk ho po => simp [h1]; simp at hu; constructor
                        · intro e; exact ⟨e.symm, hu⟩
                        · intro e; exact e.1.symm
        · simp [h3] at he; subst he
          simp [h1, h3]; exact hu
      · have hu : ¬ Usable ⟨a.fHost, e⟩ n := fun hh => by rw [hx.2 hh] at h2; simp at h2
        by_cases h3 : k = 2
        · subst h3
          simp at he; subst he
          simp; intro _ ; exact hu
        · simp [h3] at he; subst he
          simp [h3]; exact hu

end Go.Proofs.YtdiagiflihpidaaDoor

namespace Go.Proofs.YtdiagiflihpidaaDoor
open Go Go.EV
set_option maxRecDepth 100000

/-- A list that a machine holds. -/
abbrev Small {α : Type} (l : List α) : Prop := l.length ≤ 1000000

theorem at_of {α : Type} {l : List α} {i : Int} (h0 : 0 ≤ i) (h : i < (l.length : Int)) : ∃ y, l[i.toNat]? = some y :=
  ⟨l[i.toNat]'(by omega), List.getElem?_eq_getElem (by omega)⟩

theorem mem_take_iff {α : Type} {l : List α} {i : Nat} {x : α} : x ∈ l.take i ↔ ∃ j, j < i ∧ l[j]? = some x := by
  constructor
  · intro h
    obtain ⟨j, hj⟩ := List.mem_iff_getElem?.1 h
    rw [List.getElem?_take] at hj
    split at hj
    · rename_i hlt; exact ⟨j, hlt, hj⟩
    · simp at hj
  · rintro ⟨j, hj, hx⟩
    exact List.mem_iff_getElem?.2 ⟨j, by rw [List.getElem?_take, if_pos hj]; exact hx⟩

theorem wi64_succ {i : Int} {n : Nat} (h0 : 0 ≤ i) (h : i < n) (hn : n ≤ 1000000) : wi64 (i + 1) = i + 1 := wi64_id (by omega) (by omega)

theorem toNat_succ {i : Int} (h0 : 0 ≤ i) : (i + 1).toNat = i.toNat + 1 := by omega

/-- Nothing so far, and nothing here: nothing as far as here. -/
theorem upto_succ {p : Nat → Prop} {i : Nat} (h : ∀ j, j < i → p j) (hi : p i) : ∀ j, j < i + 1 → p j := fun j hj => by
  rcases Nat.lt_or_ge j i with h1 | h1
  · exact h j h1
  · have : j = i := by omega
    subst this; exact hi

-- lists of addresses

theorem ok126 (a b : SAddr) : SOk (s126 a b) (fun c => (c = true ↔ b = a)) := by
  show Ok (g126 a b) _
  unfold g126
  refine Ok.call (R := fun c => (c = true ↔ b = a)) ?_ fun c hc => Ok.done hc
  show Ok (g114 b a) _
  unfold g114
  exact Ok.done eA_iff

theorem ok128 (l : List SAddr) (x : SAddr) (hl : Small l) : SOk (s128 l x) (fun i => (0 ≤ i ↔ x ∈ l)) := by
  show Ok (g128 l x) _
  unfold g128
  refine Ok.bind2 (R := fun e => match e with | .inl i => 0 ≤ i ∧ x ∈ l | .inr _ => x ∉ l) ?_ (fun e he => Ok.done ⟨fun _ => he.2, fun _ => he.1⟩) (fun e he => Ok.done ⟨fun h => by simp at h, fun h => absurd h he⟩)
  refine Ok.lp (fun i => 0 ≤ i ∧ i ≤ (l.length : Int) ∧ ∀ j, j < i.toNat → l[j]? ≠ some x) (fun i => l.length - i.toNat) ⟨by simp, by simp, by simp⟩ (fuel (by simp; omega)) fun i hi => ?_
  obtain ⟨h0, h1, h2⟩ := hi
  refine Ok.br (fun hc => ?_) (fun hc => Ok.done ?_)
  · rw [mlen_eq, decide_eq_true_eq] at hc
    obtain ⟨y, hy⟩ := at_of h0 hc
    refine Ok.row (by simpa using h0) hy ?_
    refine Ok.call (ok126 _ _) fun c hcc => ?_
    refine Ok.br (fun h3 => Ok.done ?_) (fun h3 => Ok.done ?_)
    · exact ⟨h0, by rw [hcc.1 h3]; exact List.mem_of_getElem? hy⟩
    · rw [wi64_succ h0 hc hl]
      refine ⟨⟨by omega, by omega, ?_⟩, by simp only; omega⟩
      rw [toNat_succ h0]
      refine upto_succ h2 ?_
      rw [hy]; intro e
      have := hcc.2 (by simpa using e.symm)
      rw [this] at h3; simp at h3
  · rw [mlen_eq, decide_eq_false_iff_not] at hc
    intro hm
    obtain ⟨j, hj⟩ := List.mem_iff_getElem?.1 hm
    exact h2 j (by have := (List.getElem?_eq_some_iff.1 hj).1; omega) hj

theorem ok125 (l : List SAddr) (x : SAddr) (hl : Small l) : SOk (s125 l x) (fun c => (c = true ↔ x ∈ l)) := by
  show Ok (g125 l x) _
  unfold g125
  exact Ok.call (ok128 l x hl) fun i hi => Ok.done (by simp [hi])

/-- All are keys, no two alike. -/
def AllK (k : Int) (l : List SAddr) (n : Int) : Prop := ∀ (i : Nat) (a : SAddr), l[i]? = some a → IsKey k a n ∧ ∀ j, j < i → l[j]? ≠ some a

theorem ok113 (a : SAddr) (r : SRouter) : SOk (s113 a r) (fun b => (b = true ↔ IsKey r.fNat.fFilter a (r.fNat.fHost.size : Int))) := by
  show Ok (g113 a r) _
  unfold g113
  exact Ok.call (ok111 _ _ _) fun c hc => Ok.done hc

theorem ok112 (l : List SAddr) (r : SRouter) (hl : Small l) : SOk (s112 l r) (fun b => (b = true ↔ AllK r.fNat.fFilter l (r.fNat.fHost.size : Int))) := by
  show Ok (g112 l r) _
  unfold g112
  refine Ok.bind2 (R := fun e => match e with | .inl _ => ¬ AllK r.fNat.fFilter l (r.fNat.fHost.size : Int) | .inr _ => AllK r.fNat.fFilter l (r.fNat.fHost.size : Int)) ?_ (fun e he => Ok.done ⟨fun h => by simp at h, fun h => absurd h he⟩) (fun e he => Ok.done ⟨fun _ => he, fun _ => rfl⟩)
  refine Ok.lp (fun i => 0 ≤ i ∧ i ≤ (l.length : Int) ∧ ∀ j, j < i.toNat → ∀ a, l[j]? = some a → IsKey r.fNat.fFilter a (r.fNat.fHost.size : Int) ∧ ∀ m, m < j → l[m]? ≠ some a) (fun i => l.length - i.toNat) ⟨by simp, by simp, by simp⟩ (fuel (by simp; omega)) fun i hi => ?_
  obtain ⟨h0, h1, h2⟩ := hi
  refine Ok.br (fun hc => ?_) (fun hc => Ok.done ?_)
  · rw [mlen_eq, decide_eq_true_eq] at hc
    obtain ⟨y, hy⟩ := at_of h0 hc
    refine Ok.row (by simpa using h0) hy ?_
    refine Ok.cnd (R := fun c => (c = false ↔ IsKey r.fNat.fFilter y (r.fNat.fHost.size : Int) ∧ ∀ m, m < i.toNat → l[m]? ≠ some y)) ?_ fun c hcc => ?_
    · refine Ok.call (ok113 _ _) fun c hcc => ?_
      refine Ok.br (fun h3 => Ok.done ?_) (fun h3 => ?_)
      · have : ¬ IsKey r.fNat.fFilter y (r.fNat.fHost.size : Int) := fun h => by rw [hcc.2 h] at h3; simp at h3
        exact ⟨fun h => by simp at h, fun h => absurd h.1 this⟩
      · refine Ok.chk (by rw [mlenn_eq]; simp; omega) (Ok.re (Ok.view (ok125 _ _ (by simp; omega)) fun d hd => Ok.done ?_))
        have hk : IsKey r.fNat.fFilter y (r.fNat.fHost.size : Int) := hcc.1 (by simpa using h3)
        rw [mem_take_iff] at hd
        constructor
        · intro e
          refine ⟨hk, fun m hm hx => ?_⟩
          rw [hd.2 ⟨m, hm, hx⟩] at e; simp at e
        · intro e
          cases d with
          | false => rfl
          | true => obtain ⟨m, hm, hx⟩ := hd.1 rfl; exact absurd hx (e.2 m hm)
    · refine Ok.br (fun h3 => Ok.done ?_) (fun h3 => Ok.done ?_)
      · intro hall
        have := hcc.2 (hall i.toNat y hy)
        rw [this] at h3; simp at h3
      · rw [wi64_succ h0 hc hl]
        refine ⟨⟨by omega, by omega, ?_⟩, by simp only; omega⟩
        rw [toNat_succ h0]
        refine upto_succ h2 fun a ha => ?_
        rw [hy] at ha; simp only [Option.some.injEq] at ha; subst ha
        exact hcc.1 h3
  · rw [mlen_eq, decide_eq_false_iff_not] at hc
    refine fun (j : Nat) a hj => ?_
    exact h2 j (by have := (List.getElem?_eq_some_iff.1 hj).1; omega) a hj

-- bindings

def BindOk (n : SNat) (b : SBinding) : Prop :=
  Usable b.fInside (n.fHost.size : Int) ∧ b.fInside.fHost ≠ n.fHost ∧ IsKey n.fMapping b.fPeer (n.fHost.size : Int) ∧ n.fLow ≤ b.fPort ∧ b.fPort ≤ n.fHigh ∧ n.fNow < b.fUntil ∧ b.fUntil ≤ wi64 (n.fNow + n.fTimeout)

def OpenOk (n : SNat) (l : List SAddr) : Prop :=
  (n.fFilter = 1 ∧ l.length = 0) ∨ (n.fFilter ≠ 1 ∧ 1 ≤ l.length ∧ l.length ≤ 16 ∧ AllK n.fFilter l (n.fHost.size : Int))

def Alike (a b : SBinding) : Prop := a.fPort = b.fPort ∨ (a.fInside = b.fInside ∧ a.fPeer = b.fPeer)

theorem Alike.symm {a b : SBinding} (h : Alike a b) : Alike b a := by
  rcases h with h | ⟨h1, h2⟩
  · exact .inl h.symm
  · exact .inr ⟨h1.symm, h2.symm⟩

theorem ok82 (r : SRouter) (b : SBinding) (hl : Small b.fOpen) : SOk (s82 r b) (fun c => (c = true ↔ BindOk r.fNat b ∧ OpenOk r.fNat b.fOpen)) := by
  show Ok (g82 r b) _
  unfold g82
  refine Ok.cnd (R := fun c => (c = false ↔ BindOk r.fNat b)) ?_ fun c hc => ?_
  · unfold BindOk
    refine Ok.call (ok84 _ _) fun x hx => ?_
    refine Ok.br (fun h1 => Ok.done ?_) (fun h1 => ?_)
    · simp at h1; subst h1; simp at hx; simp [hx]
    simp at h1; subst h1; simp at hx
    refine Ok.br (fun h2 => Ok.done ?_) (fun h2 => ?_)
    · simp at h2; simp [h2]
    simp at h2
    refine Ok.call (ok111 _ _ _) fun y hy => ?_
    refine Ok.br (fun h3 => Ok.done ?_) (fun h3 => ?_)
    · simp at h3; subst h3; simp at hy; simp [hy]
    simp at h3; subst h3; simp at hy
    refine Ok.br (fun h4 => Ok.done ?_) (fun h4 => Ok.br (fun h5 => Ok.done ?_) (fun h5 => Ok.br (fun h6 => Ok.done ?_) (fun h6 => Ok.done ?_)))
    · simp at h4 ⊢; intros; omega
    · simp at h4 h5 ⊢; intros; omega
    · simp at h4 h5 h6 ⊢; intros; omega
    · simp at h4 h5 h6 ⊢; simp [hx, h2, hy]; omega
  · refine Ok.br (fun h1 => Ok.done ?_) (fun h1 => ?_)
    · have : ¬ BindOk r.fNat b := fun h => by rw [hc.2 h] at h1; simp at h1
      simp [this]
    · have hb := hc.1 h1
      refine Ok.br (fun h2 => Ok.done ?_) (fun h2 => ?_)
      · rw [mlen_eq]; simp at h2; simp [hb, OpenOk, h2]
      · simp at h2
        refine Ok.cnd (R := fun c => (c = true ↔ OpenOk r.fNat b.fOpen)) ?_ fun d hd => Ok.done (by simp [hd, hb])
        unfold OpenOk
        rw [mlen_eq]
        refine Ok.br (fun h3 => Ok.br (fun h4 => ?_) (fun h4 => Ok.done ?_)) (fun h3 => Ok.done ?_)
        · refine Ok.view (ok112 _ _ hl) fun d hd => Ok.done ?_
          simp at h3 h4
          rw [hd]
          constructor
          · intro h; exact .inr ⟨h2, by omega, by omega, h⟩
          · rintro (h | h)
            · exact absurd h.1 h2
            · exact h.2.2.2
        · simp at h4 ⊢; constructor
          · intro h; exact absurd h h2
          · intros; omega
        · simp at h3 ⊢; constructor
          · intro h; exact absurd h h2
          · intros; omega

theorem ok83 (a b : SBinding) : SOk (s83 a b) (fun c => (c = true ↔ Alike a b)) := by
  show Ok (g83 a b) _
  unfold g83 Alike
  refine Ok.cnd (R := fun c => (c = true ↔ a.fPort = b.fPort ∨ (a.fInside = b.fInside ∧ a.fPeer = b.fPeer))) ?_ fun c hc => Ok.done hc
  refine Ok.br (fun h1 => Ok.done ?_) (fun h1 => Ok.br (fun h2 => Ok.done ?_) (fun h2 => Ok.done ?_))
  · simp at h1; simp [h1]
  · simp at h1; rw [eA_iff] at h2; rw [eA_iff]; simp [h1, h2]
  · simp at h1
    have : a.fInside ≠ b.fInside := fun e => by rw [(eA_iff (a := a.fInside) (b := b.fInside)).2 e] at h2; simp at h2
    simp [h1, this]

theorem ok110 (a b : SBinding) : SOk (s110 a b) (fun c => (c = true ↔ Alike b a)) := by
  show Ok (g110 a b) _
  unfold g110
  exact Ok.call (ok83 _ _) fun c hc => Ok.done hc

theorem ok115 (l : List SBinding) (x : SBinding) (hl : Small l) : SOk (s115 l x) (fun i => (0 ≤ i ↔ ∃ y, y ∈ l ∧ Alike x y)) := by
  show Ok (g115 l x) _
  unfold g115
  refine Ok.bind2 (R := fun e => match e with | .inl i => 0 ≤ i ∧ ∃ y, y ∈ l ∧ Alike x y | .inr _ => ¬ ∃ y, y ∈ l ∧ Alike x y) ?_ (fun e he => Ok.done ⟨fun _ => he.2, fun _ => he.1⟩) (fun e he => Ok.done ⟨fun h => by simp at h, fun h => absurd h he⟩)
  refine Ok.lp (fun i => 0 ≤ i ∧ i ≤ (l.length : Int) ∧ ∀ j, j < i.toNat → ∀ y, l[j]? = some y → ¬ Alike x y) (fun i => l.length - i.toNat) ⟨by simp, by simp, by simp⟩ (fuel (by simp; omega)) fun i hi => ?_
  obtain ⟨h0, h1, h2⟩ := hi
  refine Ok.br (fun hc => ?_) (fun hc => Ok.done ?_)
  · rw [mlen_eq, decide_eq_true_eq] at hc
    obtain ⟨y, hy⟩ := at_of h0 hc
    refine Ok.row (by simpa using h0) hy ?_
    refine Ok.call (ok110 _ _) fun c hcc => ?_
    refine Ok.br (fun h3 => Ok.done ?_) (fun h3 => Ok.done ?_)
    · exact ⟨h0, y, List.mem_of_getElem? hy, hcc.1 h3⟩
    · rw [wi64_succ h0 hc hl]
      refine ⟨⟨by omega, by omega, ?_⟩, by simp only; omega⟩
      rw [toNat_succ h0]
      refine upto_succ h2 fun z hz => ?_
      rw [hy] at hz; simp only [Option.some.injEq] at hz; subst hz
      intro e
      rw [hcc.2 e] at h3; simp at h3
  · rw [mlen_eq, decide_eq_false_iff_not] at hc
    rintro ⟨y, hm, ha⟩
    obtain ⟨j, hj⟩ := List.mem_iff_getElem?.1 hm
    exact h2 j (by have := (List.getElem?_eq_some_iff.1 hj).1; omega) y hj ha

theorem ok109 (l : List SBinding) (x : SBinding) (hl : Small l) : SOk (s109 l x) (fun c => (c = true ↔ ∃ y, y ∈ l ∧ Alike x y)) := by
  show Ok (g109 l x) _
  unfold g109
  exact Ok.call (ok115 l x hl) fun i hi => Ok.done (by simp [hi])

/-- A binding in its place. -/
def At1 (n : SNat) (l : List SBinding) (i : Nat) (b : SBinding) : Prop :=
  BindOk n b ∧ OpenOk n b.fOpen ∧ ∀ j, j < i → ∀ y, l[j]? = some y → ¬ Alike b y

def AllB (n : SNat) (l : List SBinding) : Prop := ∀ (i : Nat) (b : SBinding), l[i]? = some b → At1 n l i b

/-- NATs that a machine holds. -/
def SmallN (l : List SBinding) : Prop := Small l ∧ ∀ b, b ∈ l → Small b.fOpen

theorem ok81 (l : List SBinding) (r : SRouter) (hl : SmallN l) : SOk (s81 l r) (fun c => (c = true ↔ AllB r.fNat l)) := by
  show Ok (g81 l r) _
  unfold g81
  refine Ok.bind2 (R := fun e => match e with | .inl _ => ¬ AllB r.fNat l | .inr _ => AllB r.fNat l) ?_ (fun e he => Ok.done ⟨fun h => by simp at h, fun h => absurd h he⟩) (fun e he => Ok.done ⟨fun _ => he, fun _ => rfl⟩)
  refine Ok.lp (fun i => 0 ≤ i ∧ i ≤ (l.length : Int) ∧ ∀ j, j < i.toNat → ∀ b, l[j]? = some b → At1 r.fNat l j b) (fun i => l.length - i.toNat) ⟨by simp, by simp, by simp⟩ (fuel (by have := hl.1; simp; omega)) fun i hi => ?_
  obtain ⟨h0, h1, h2⟩ := hi
  refine Ok.br (fun hc => ?_) (fun hc => Ok.done ?_)
  · rw [mlen_eq, decide_eq_true_eq] at hc
    obtain ⟨y, hy⟩ := at_of h0 hc
    refine Ok.row (by simpa using h0) hy ?_
    refine Ok.cnd (R := fun c => (c = false ↔ At1 r.fNat l i.toNat y)) ?_ fun c hcc => ?_
    · refine Ok.call (ok82 _ _ (hl.2 y (List.mem_of_getElem? hy))) fun c hcc => ?_
      refine Ok.br (fun h3 => Ok.done ?_) (fun h3 => ?_)
      · have : ¬ (BindOk r.fNat y ∧ OpenOk r.fNat y.fOpen) := fun h => by rw [hcc.2 h] at h3; simp at h3
        exact ⟨fun h => by simp at h, fun h => absurd ⟨h.1, h.2.1⟩ this⟩
      · refine Ok.chk (by rw [mlenn_eq]; simp; omega) (Ok.re (Ok.view (ok109 _ _ (by have := hl.1; simp; omega)) fun d hd => Ok.done ?_))
        have hk := hcc.1 (by simpa using h3)
        constructor
        · intro e
          refine ⟨hk.1, hk.2, fun m hm z hz ha => ?_⟩
          rw [hd.2 ⟨z, mem_take_iff.2 ⟨m, hm, hz⟩, ha⟩] at e; simp at e
        · intro e
          cases d with
          | false => rfl
          | true =>
            obtain ⟨z, hz, ha⟩ := hd.1 rfl
            obtain ⟨m, hm, hx⟩ := mem_take_iff.1 hz
            exact absurd ha (e.2.2 m hm z hx)
    · refine Ok.br (fun h3 => Ok.done ?_) (fun h3 => Ok.done ?_)
      · intro hall
        have := hcc.2 (hall i.toNat y hy)
        rw [this] at h3; simp at h3
      · rw [wi64_succ h0 hc hl.1]
        refine ⟨⟨by omega, by omega, ?_⟩, by simp only; omega⟩
        rw [toNat_succ h0]
        refine upto_succ h2 fun a ha => ?_
        rw [hy] at ha; simp only [Option.some.injEq] at ha; subst ha
        exact hcc.1 h3
  · rw [mlen_eq, decide_eq_false_iff_not] at hc
    refine fun (j : Nat) a hj => ?_
    exact h2 j (by have := (List.getElem?_eq_some_iff.1 hj).1; omega) a hj

-- whole NATs

theorem ok80 (k : Int) : SOk (s80 k) (fun c => (c = true ↔ 1 ≤ k ∧ k ≤ 3)) := by
  show Ok (g80 k) _
  unfold g80
  refine Ok.cnd (R := fun c => (c = true ↔ 1 ≤ k ∧ k ≤ 3)) ?_ fun c hc => Ok.done hc
  refine Ok.br (fun h1 => Ok.done ?_) (fun h1 => Ok.done ?_)
  · simp at h1 ⊢; omega
  · simp at h1 ⊢; omega

def Head (n : SNat) : Prop :=
  (1 ≤ n.fMapping ∧ n.fMapping ≤ 3) ∧ (1 ≤ n.fFilter ∧ n.fFilter ≤ 3) ∧ (1 ≤ n.fTimeout ∧ n.fTimeout ≤ 3600000) ∧ ((n.fHost.size : Int) = 4 ∨ (n.fHost.size : Int) = 16) ∧
  (1 ≤ n.fLow ∧ n.fHigh ≤ 65535 ∧ n.fLow ≤ n.fHigh ∧ n.fHigh < n.fLow + 64) ∧ (0 ≤ n.fNow ∧ n.fNow ≤ 1099511627776)

/-- What nat and its reference hold for valid. -/
def Valid (n : SNat) : Prop := Head n ∧ AllB n n.fTable

theorem ok55 (r : SRouter) (hl : SmallN r.fNat.fTable) : SOk (s55 r) (fun c => (c = true ↔ Valid r.fNat)) := by
  show Ok (g55 r) _
  unfold g55 Valid Head
  refine Ok.cnd (R := fun c => (c = false ↔ (1 ≤ r.fNat.fMapping ∧ r.fNat.fMapping ≤ 3) ∧ (1 ≤ r.fNat.fFilter ∧ r.fNat.fFilter ≤ 3) ∧ (1 ≤ r.fNat.fTimeout ∧ r.fNat.fTimeout ≤ 3600000) ∧ ((r.fNat.fHost.size : Int) = 4 ∨ (r.fNat.fHost.size : Int) = 16))) ?_ fun c hc => ?_
  · refine Ok.call (ok80 _) fun x hx => ?_
    refine Ok.br (fun h1 => Ok.done ?_) (fun h1 => ?_)
    · simp at h1; subst h1; simp at hx ⊢; intros; omega
    simp at h1; subst h1; simp at hx
    refine Ok.call (ok80 _) fun y hy => ?_
    refine Ok.br (fun h2 => Ok.done ?_) (fun h2 => ?_)
    · simp at h2; subst h2; simp at hy ⊢; intros; omega
    simp at h2; subst h2; simp at hy
    refine Ok.br (fun h3 => Ok.done ?_) (fun h3 => Ok.br (fun h4 => Ok.done ?_) (fun h4 => Ok.br (fun h5 => Ok.done ?_) (fun h5 => Ok.done ?_)))
    all_goals (simp at *; omega)
  · refine Ok.br (fun h1 => Ok.done ?_) (fun h1 => ?_)
    · subst h1; simp at hc ⊢; intros; omega
    have h2 := hc.1 h1
    refine Ok.cnd (R := fun c => (c = false ↔ (1 ≤ r.fNat.fLow ∧ r.fNat.fHigh ≤ 65535 ∧ r.fNat.fLow ≤ r.fNat.fHigh ∧ r.fNat.fHigh < r.fNat.fLow + 64) ∧ (0 ≤ r.fNat.fNow ∧ r.fNat.fNow ≤ 1099511627776))) ?_ fun d hd => ?_
    · refine Ok.br (fun h3 => Ok.done ?_) (fun h3 => Ok.br (fun h4 => Ok.done ?_) (fun h4 => Ok.br (fun h5 => Ok.done ?_) (fun h5 => ?_)))
      · simp at *; omega
      · simp at *; omega
      · simp at *; omega
      · simp at h3 h4 h5
        rw [wi64_id (n := r.fNat.fLow + 64) (by omega) (by omega)]
        refine Ok.br (fun h6 => Ok.done ?_) (fun h6 => Ok.br (fun h7 => Ok.done ?_) (fun h7 => Ok.done ?_))
        all_goals (simp at *; omega)
    · refine Ok.br (fun h3 => Ok.done ?_) (fun h3 => ?_)
      · subst h3; simp at hd ⊢; intros; omega
      have h4 := hd.1 h3
      refine Ok.call (ok81 _ _ hl) fun e he => Ok.done ?_
      rw [he]
      exact ⟨fun h => ⟨⟨h2.1, h2.2.1, h2.2.2.1, h2.2.2.2, h4.1, h4.2⟩, h⟩, fun h => h.2⟩

end Go.Proofs.YtdiagiflihpidaaDoor

namespace Go.Proofs.YtdiagiflihpidaaDoor
open Go Go.EV
set_option maxRecDepth 100000

theorem ok79 (n : SNat) (i : Nat) (x : SBinding) (hx : n.fTable[i]? = some x) (hl : SmallN n.fTable) : SOk (s79 n (i : Int)) (fun c => (c = true ↔ At1 n n.fTable i x)) := by
  have hi : i < n.fTable.length := (List.getElem?_eq_some_iff.1 hx).1
  have hlo : Small x.fOpen := hl.2 x (List.mem_of_getElem? hx)
  have hl1 : Small n.fTable := hl.1
  show Ok (g79 n (i : Int)) _
  unfold g79
  refine Ok.row (by simp) (by simpa using hx) ?_
  refine Ok.cnd (R := fun c => (c = false ↔ BindOk n x)) ?_ fun c hc => ?_
  · unfold BindOk
    refine Ok.call (ok54 _ _) fun a ha => ?_
    refine Ok.br (fun h1 => Ok.done ?_) (fun h1 => ?_)
    · simp at h1; subst h1; simp at ha; simp [ha]
    simp at h1; subst h1; simp at ha
    refine Ok.br (fun h2 => Ok.done ?_) (fun h2 => ?_)
    · simp at h2; simp [h2]
    simp at h2
    refine Ok.call (ok108 _ _ _) fun y hy => ?_
    refine Ok.br (fun h3 => Ok.done ?_) (fun h3 => ?_)
    · simp at h3; subst h3; simp at hy; simp [hy]
    simp at h3; subst h3; simp at hy
    refine Ok.br (fun h4 => Ok.done ?_) (fun h4 => Ok.br (fun h5 => Ok.done ?_) (fun h5 => Ok.br (fun h6 => Ok.done ?_) (fun h6 => Ok.done ?_)))
    · simp at h4 ⊢; intros; omega
    · simp at h4 h5 ⊢; intros; omega
    · simp at h4 h5 h6 ⊢; intros; omega
    · simp at h4 h5 h6 ⊢; simp [ha, h2, hy]; omega
  · refine Ok.br (fun h1 => Ok.done ?_) (fun h1 => ?_)
    · have : ¬ BindOk n x := fun h => by rw [hc.2 h] at h1; simp at h1
      exact ⟨fun h => by simp at h, fun h => absurd h.1 this⟩
    have hb := hc.1 h1
    refine Ok.bind2 (R := fun e => match e with | .inl _ => ¬ (∀ j, j < i → ∀ y, n.fTable[j]? = some y → ¬ Alike x y) | .inr t => t = (x.fInside.fHost, x.fInside.fPort, x.fPeer.fHost, x.fPeer.fPort, x.fPort, x.fUntil, x.fOpen) ∧ ∀ j, j < i → ∀ y, n.fTable[j]? = some y → ¬ Alike x y) ?_ (fun e he => Ok.done ⟨fun h => by simp at h, fun h => absurd h.2.2 he⟩) (fun e he => ?_)
    · refine Ok.lp (fun k => 0 ≤ k ∧ k ≤ (i : Int) ∧ ∀ j, j < k.toNat → ∀ y, n.fTable[j]? = some y → ¬ Alike x y) (fun k => i - k.toNat) ⟨by simp, by simp, by simp⟩ (fuel (by simp; omega)) fun k hk => ?_
      obtain ⟨h0, h2, h3⟩ := hk
      refine Ok.br (fun hc2 => ?_) (fun hc2 => Ok.done ?_)
      · rw [decide_eq_true_eq] at hc2
        obtain ⟨y, hy⟩ := at_of (l := n.fTable) h0 (by omega)
        refine Ok.cnd (R := fun c => (c = true ↔ Alike x y)) ?_ fun c hcc => ?_
        · refine Ok.row (by simpa using h0) hy (Ok.br (fun h4 => Ok.done ?_) (fun h4 => Ok.row (by simpa using h0) hy (Ok.br (fun h5 => Ok.row (by simpa using h0) hy (Ok.done ?_)) (fun h5 => Ok.done ?_))))
          · simp at h4; simp [Alike, h4]
          · simp at h4; rw [eA_iff] at h5; rw [eA_iff]
            have h4' : ¬ x.fPort = y.fPort := fun e => h4 e.symm
            simp [Alike, h4', h5, eq_comm]
          · simp at h4
            have h4' : ¬ x.fPort = y.fPort := fun e => h4 e.symm
            have : ¬ x.fInside = y.fInside := fun e => by rw [(eA_iff (a := y.fInside) (b := x.fInside)).2 e.symm] at h5; simp at h5
            simp [Alike, h4', this]
        · refine Ok.br (fun h4 => Ok.done ?_) (fun h4 => Ok.done ?_)
          · intro hall
            exact hall k.toNat (by omega) y hy (hcc.1 h4)
          · rw [wi64_succ h0 (n := i) hc2 (by omega)]
            refine ⟨⟨by omega, by omega, ?_⟩, by simp only; omega⟩
            rw [toNat_succ h0]
            refine upto_succ h3 fun z hz => ?_
            rw [hy] at hz; simp only [Option.some.injEq] at hz; subst hz
            intro e
            rw [hcc.2 e] at h4; simp at h4
      · rw [decide_eq_false_iff_not] at hc2
        refine ⟨rfl, fun j hj => h3 j (by omega)⟩
    · obtain ⟨rfl, hnone⟩ := he
      refine Ok.br (fun h2 => Ok.done ?_) (fun h2 => ?_)
      · simp at h2
        rw [mlen_eq]
        simp [At1, hb, OpenOk, h2]
        intro _; exact hnone
      · simp at h2
        refine Ok.bind2 (R := fun e => match e with | .inl _ => ¬ AllK n.fFilter x.fOpen (n.fHost.size : Int) | .inr t => t = (x.fInside.fHost, x.fInside.fPort, x.fPeer.fHost, x.fPeer.fPort, x.fPort, x.fUntil, x.fOpen) ∧ AllK n.fFilter x.fOpen (n.fHost.size : Int)) ?_ (fun e he => Ok.done ⟨fun h => by simp at h, fun h => ?_⟩) (fun e he => ?_)
        · refine Ok.lp (fun t => ∃ k : Int, t = (x.fInside.fHost, x.fInside.fPort, x.fPeer.fHost, x.fPeer.fPort, x.fPort, x.fUntil, x.fOpen, k) ∧ 0 ≤ k ∧ k ≤ (x.fOpen.length : Int) ∧ ∀ j, j < k.toNat → ∀ a, x.fOpen[j]? = some a → IsKey n.fFilter a (n.fHost.size : Int) ∧ ∀ m, m < j → x.fOpen[m]? ≠ some a) (fun t => x.fOpen.length - t.2.2.2.2.2.2.2.toNat) ⟨0, rfl, by simp, by simp, by simp⟩ (fuel (by simp; omega)) fun t ht => ?_
          obtain ⟨k, rfl, h0, h3, h4⟩ := ht
          refine Ok.br (fun hc2 => ?_) (fun hc2 => Ok.done ?_)
          · rw [mlen_eq, decide_eq_true_eq] at hc2
            simp only at hc2
            obtain ⟨y, hy⟩ := at_of h0 hc2
            refine Ok.row (by simpa using h0) hy ?_
            refine Ok.call (ok108 _ _ _) fun c hcc => ?_
            refine Ok.br (fun h5 => Ok.done ?_) (fun h5 => ?_)
            · simp at h5; subst h5; simp at hcc
              intro hall
              exact hcc (hall k.toNat y hy).1
            simp at h5; subst h5; simp at hcc
            refine Ok.bind2 (R := fun e => match e with | .inl _ => ∃ m, m < k.toNat ∧ x.fOpen[m]? = some y | .inr _ => ∀ m, m < k.toNat → x.fOpen[m]? ≠ some y) ?_ (fun e he => Ok.done ?_) (fun e he => Ok.done ?_)
            · refine Ok.lp (fun q => 0 ≤ q ∧ q ≤ k ∧ ∀ m, m < q.toNat → x.fOpen[m]? ≠ some y) (fun q => k.toNat - q.toNat) ⟨by simp, h0, by simp⟩ (fuel (by simp; omega)) fun q hq => ?_
              obtain ⟨q0, q1, q2⟩ := hq
              refine Ok.br (fun hc3 => ?_) (fun hc3 => Ok.done ?_)
              · rw [decide_eq_true_eq] at hc3
                simp only at hc3
                obtain ⟨z, hz⟩ := at_of (l := x.fOpen) q0 (by omega)
                refine Ok.row (by simpa using q0) hz (Ok.row (by simpa using h0) hy (Ok.br (fun h6 => Ok.done ?_) (fun h6 => Ok.done ?_)))
                · rw [eA_iff] at h6; subst h6
                  exact ⟨q.toNat, by omega, hz⟩
                · rw [wi64_succ q0 (n := k.toNat) (by omega) (by omega)]
                  refine ⟨⟨by omega, by omega, ?_⟩, by simp only; omega⟩
                  rw [toNat_succ q0]
                  refine upto_succ q2 ?_
                  rw [hz]; intro e
                  simp only [Option.some.injEq] at e
                  rw [(eA_iff (a := z) (b := y)).2 e] at h6; simp at h6
              · rw [decide_eq_false_iff_not] at hc3
                simp only at hc3
                intro m hm; exact q2 m (by omega)
            · intro hall
              obtain ⟨m, hm, hmy⟩ := he
              exact (hall k.toNat y hy).2 m hm hmy
            · rw [wi64_succ h0 hc2 hlo]
              refine ⟨⟨k + 1, rfl, by omega, by omega, ?_⟩, by simp only; omega⟩
              rw [toNat_succ h0]
              refine upto_succ h4 fun a ha => ?_
              rw [hy] at ha; simp only [Option.some.injEq] at ha; subst ha
              exact ⟨hcc, he⟩
          · rw [mlen_eq, decide_eq_false_iff_not] at hc2
            simp only at hc2
            refine ⟨rfl, fun j a hj => h4 j (by have := (List.getElem?_eq_some_iff.1 hj).1; omega) a hj⟩
        · rcases h.2.1 with h3 | h3
          · exact absurd h3.1 h2
          · exact (he h3.2.2.2).elim
        · obtain ⟨rfl, hall⟩ := he
          refine Ok.cnd (R := fun c => (c = true ↔ 1 ≤ x.fOpen.length ∧ x.fOpen.length ≤ 16)) ?_ fun c hcc => Ok.done ?_
          · simp only [mlen_eq]
            refine Ok.br (fun h3 => Ok.done ?_) (fun h3 => Ok.done ?_)
            · simp at h3 ⊢; omega
            · simp at h3 ⊢; omega
          · rw [hcc]
            constructor
            · intro h; exact ⟨hb, .inr ⟨h2, h.1, h.2, hall⟩, hnone⟩
            · rintro ⟨_, h3, _⟩
              rcases h3 with h3 | h3
              · exact absurd h3.1 h2
              · exact ⟨h3.2.1, h3.2.2.1⟩

theorem ok53 (n : SNat) (hl : SmallN n.fTable) : SOk (s53 n) (fun c => (c = true ↔ Valid n)) := by
  show Ok (g53 n) _
  unfold g53 Valid Head
  refine Ok.cnd (R := fun c => (c = false ↔ (1 ≤ n.fMapping ∧ n.fMapping ≤ 3) ∧ (1 ≤ n.fFilter ∧ n.fFilter ≤ 3) ∧ (1 ≤ n.fTimeout ∧ n.fTimeout ≤ 3600000) ∧ ((n.fHost.size : Int) = 4 ∨ (n.fHost.size : Int) = 16))) ?_ fun c hc => ?_
  · refine Ok.br (fun h1 => Ok.done ?_) (fun h1 => Ok.br (fun h2 => Ok.done ?_) (fun h2 => Ok.br (fun h3 => Ok.done ?_) (fun h3 => Ok.br (fun h4 => Ok.done ?_) (fun h4 => Ok.br (fun h5 => Ok.done ?_) (fun h5 => Ok.br (fun h6 => Ok.done ?_) (fun h6 => Ok.br (fun h7 => Ok.done ?_) (fun h7 => Ok.done ?_)))))))
    all_goals (simp at *; omega)
  · refine Ok.br (fun h1 => Ok.done ?_) (fun h1 => ?_)
    · subst h1; simp at hc ⊢; intros; omega
    have h2 := hc.1 h1
    refine Ok.cnd (R := fun c => (c = false ↔ (1 ≤ n.fLow ∧ n.fHigh ≤ 65535 ∧ n.fLow ≤ n.fHigh ∧ n.fHigh < n.fLow + 64) ∧ (0 ≤ n.fNow ∧ n.fNow ≤ 1099511627776))) ?_ fun d hd => ?_
    · refine Ok.br (fun h3 => Ok.done ?_) (fun h3 => Ok.br (fun h4 => Ok.done ?_) (fun h4 => Ok.br (fun h5 => Ok.done ?_) (fun h5 => Ok.br (fun h5' => Ok.done ?_) (fun h5' => ?_))))
      · simp at *; omega
      · simp at *; omega
      · simp at *; omega
      · simp at *; omega
      · simp at h3 h4 h5 h5'
        rw [wi64_id (n := n.fHigh - n.fLow) (by omega) (by omega)]
        refine Ok.br (fun h6 => Ok.done ?_) (fun h6 => Ok.br (fun h7 => Ok.done ?_) (fun h7 => Ok.done ?_))
        all_goals (simp at *; omega)
    · refine Ok.br (fun h3 => Ok.done ?_) (fun h3 => ?_)
      · subst h3; simp at hd ⊢; intros; omega
      have h4 := hd.1 h3
      have hhead : (1 ≤ n.fMapping ∧ n.fMapping ≤ 3) ∧ (1 ≤ n.fFilter ∧ n.fFilter ≤ 3) ∧ (1 ≤ n.fTimeout ∧ n.fTimeout ≤ 3600000) ∧ ((n.fHost.size : Int) = 4 ∨ (n.fHost.size : Int) = 16) ∧ (1 ≤ n.fLow ∧ n.fHigh ≤ 65535 ∧ n.fLow ≤ n.fHigh ∧ n.fHigh < n.fLow + 64) ∧ (0 ≤ n.fNow ∧ n.fNow ≤ 1099511627776) := ⟨h2.1, h2.2.1, h2.2.2.1, h2.2.2.2, h4.1, h4.2⟩
      refine Ok.bind2 (R := fun e => match e with | .inl _ => ¬ AllB n n.fTable | .inr _ => AllB n n.fTable) ?_ (fun e he => Ok.done ⟨fun h => by simp at h, fun h => absurd h.2 he⟩) (fun e he => Ok.done ⟨fun _ => ⟨hhead, he⟩, fun _ => rfl⟩)
      refine Ok.lp (fun i => 0 ≤ i ∧ i ≤ (n.fTable.length : Int) ∧ ∀ j, j < i.toNat → ∀ b, n.fTable[j]? = some b → At1 n n.fTable j b) (fun i => n.fTable.length - i.toNat) ⟨by simp, by simp, by simp⟩ (fuel (by have := hl.1; simp; omega)) fun i hi => ?_
      obtain ⟨h0, h1, h2⟩ := hi
      refine Ok.br (fun hc => ?_) (fun hc => Ok.done ?_)
      · rw [mlen_eq, decide_eq_true_eq] at hc
        obtain ⟨y, hy⟩ := at_of h0 hc
        have hk := ok79 n i.toNat y hy hl
        rw [show ((i.toNat : Nat) : Int) = i by omega] at hk
        refine Ok.call hk fun c hcc => ?_
        refine Ok.br (fun h3 => Ok.done ?_) (fun h3 => Ok.done ?_)
        · simp at h3; subst h3; simp at hcc
          intro hall; exact hcc (hall i.toNat y hy)
        · simp at h3; subst h3; simp at hcc
          rw [wi64_succ h0 hc hl.1]
          refine ⟨⟨by omega, by omega, ?_⟩, by simp only; omega⟩
          rw [toNat_succ h0]
          refine upto_succ h2 fun a ha => ?_
          rw [hy] at ha; simp only [Option.some.injEq] at ha; subst ha
          exact hcc
      · rw [mlen_eq, decide_eq_false_iff_not] at hc
        refine fun (j : Nat) a hj => ?_
        exact h2 j (by have := (List.getElem?_eq_some_iff.1 hj).1; omega) a hj

end Go.Proofs.YtdiagiflihpidaaDoor

namespace Go.Proofs.YtdiagiflihpidaaDoor
open Go Go.EV
set_option maxRecDepth 100000

/-- What has not expired. -/
def keep (now : Int) (l : List SBinding) : List SBinding := l.filter fun b => decide (now < b.fUntil)

theorem keep_succ {now : Int} {l : List SBinding} {i : Nat} {y : SBinding} (hy : l[i]? = some y) : keep now (l.take (i + 1)) = keep now (l.take i) ++ (if now < y.fUntil then [y] else []) := by
  unfold keep
  rw [List.take_add_one, hy, List.filter_append]
  simp only [Option.toList_some, List.filter_cons, List.filter_nil]
  by_cases h : now < y.fUntil <;> simp [h]

theorem keep_len (now : Int) (l : List SBinding) (i : Nat) : (keep now (l.take i)).length ≤ i := by
  unfold keep
  have := List.length_filter_le (fun b => decide (now < b.fUntil)) (l.take i)
  simp at this; omega

theorem take_all {α : Type} {l : List α} {i : Nat} (h : l.length ≤ i) : l.take i = l := List.take_of_length_le h

theorem ok57 (b : SBinding) (hl : Small b.fOpen) : SOk (s57 b) (fun r => r = b.fOpen) := by
  show Ok (g57 b) _
  unfold g57
  exact Ok.app (by simp; omega) (Ok.done rfl)

theorem ok64 (l : List SAddr) (hl : Small l) : SOk (s64 l) (fun _ => True) := by
  show Ok (g64 l) _
  unfold g64
  exact Ok.app (by simp; omega) (Ok.done trivial)

/-- A time and addresses that a NAT takes. -/
def Time (n : SNat) (now : Int) (l : List SAddr) : Prop := n.fNow ≤ now ∧ now ≤ 1099511627776 ∧ ∀ a, a ∈ l → Usable a (n.fHost.size : Int)

theorem mem_upto {l : List SAddr} {p : SAddr → Prop} {i : Int} (hc : ¬ i < (l.length : Int)) (h : ∀ j, j < i.toNat → ∀ a, l[j]? = some a → p a) : ∀ a, a ∈ l → p a := fun a ha => by
  obtain ⟨j, hj⟩ := List.mem_iff_getElem?.1 ha
  exact h j (by have := (List.getElem?_eq_some_iff.1 hj).1; omega) a hj

def ErrQ (n : SNat) (now : Int) (l : List SAddr) (r : Int) : Prop := (¬ Valid n ∧ r = 130) ∨ (Valid n ∧ ¬ Time n now l ∧ r = 2) ∨ (Valid n ∧ Time n now l ∧ r = 0)

theorem ok18 (n : SNat) (now : Int) (l : List SAddr) (hl : SmallN n.fTable) (hs : Small l) : SOk (s18 n now l) (ErrQ n now l) := by
  show Ok (g18 n now l) _
  unfold g18 ErrQ
  refine Ok.call (ok53 n hl) fun v hv => ?_
  refine Ok.br (fun h1 => Ok.done ?_) (fun h1 => ?_)
  · simp at h1; subst h1; simp at hv; exact .inl ⟨hv, rfl⟩
  simp at h1; subst h1; simp at hv
  refine Ok.cnd (R := fun c => (c = false ↔ n.fNow ≤ now ∧ now ≤ 1099511627776)) ?_ fun c hc => ?_
  · refine Ok.br (fun h2 => Ok.done ?_) (fun h2 => Ok.done ?_)
    · simp at h2 ⊢; omega
    · simp at h2 ⊢; omega
  refine Ok.br (fun h2 => Ok.done ?_) (fun h2 => ?_)
  · refine .inr (.inl ⟨hv, fun ht => ?_, rfl⟩)
    rw [hc.2 ⟨ht.1, ht.2.1⟩] at h2; simp at h2
  have ht := hc.1 h2
  refine Ok.bind2 (R := fun e => match e with | .inl _ => ¬ ∀ a, a ∈ l → Usable a (n.fHost.size : Int) | .inr _ => ∀ a, a ∈ l → Usable a (n.fHost.size : Int)) ?_ (fun e he => Ok.done ?_) (fun e he => Ok.done ?_)
  · refine Ok.lp (fun i => 0 ≤ i ∧ i ≤ (l.length : Int) ∧ ∀ j, j < i.toNat → ∀ a, l[j]? = some a → Usable a (n.fHost.size : Int)) (fun i => l.length - i.toNat) ⟨by simp, by simp, by simp⟩ (fuel (by simp; omega)) fun i hi => ?_
    obtain ⟨h0, h1, h3⟩ := hi
    refine Ok.br (fun hc => ?_) (fun hc => Ok.done ?_)
    · rw [mlen_eq, decide_eq_true_eq] at hc
      obtain ⟨y, hy⟩ := at_of h0 hc
      refine Ok.row (by simpa using h0) hy ?_
      refine Ok.call (ok54 _ _) fun c hcc => ?_
      refine Ok.br (fun h4 => Ok.done ?_) (fun h4 => Ok.done ?_)
      · simp at h4; subst h4; simp at hcc
        intro hall; exact hcc (hall y (List.mem_of_getElem? hy))
      · simp at h4; subst h4; simp at hcc
        rw [wi64_succ h0 hc hs]
        refine ⟨⟨by omega, by omega, ?_⟩, by simp only; omega⟩
        rw [toNat_succ h0]
        refine upto_succ h3 fun a ha => ?_
        rw [hy] at ha; simp only [Option.some.injEq] at ha; subst ha; exact hcc
    · rw [mlen_eq, decide_eq_false_iff_not] at hc
      exact mem_upto hc h3
  · exact .inr (.inl ⟨hv, fun h => he h.2.2, rfl⟩)
  · exact .inr (.inr ⟨hv, ⟨ht.1, ht.2, he⟩, rfl⟩)

theorem ok19 (n : SNat) (hl : SmallN n.fTable) : SOk (s19 n) (fun r => (¬ Valid n ∧ r = 130) ∨ (Valid n ∧ r = 0)) := by
  show Ok (g19 n) _
  unfold g19
  refine Ok.view (ok55 ⟨n⟩ hl) fun v hv => ?_
  refine Ok.br (fun h1 => Ok.done ?_) (fun h1 => Ok.done ?_)
  · simp at h1; subst h1; simp at hv; exact .inl ⟨hv, rfl⟩
  · simp at h1; subst h1; simp at hv; exact .inr ⟨hv, rfl⟩

def StartQ (n : SNat) (now : Int) (l : List SAddr) (r : Int ⊕ List SBinding) : Prop :=
  (¬ Valid n ∧ r = .inl 130) ∨ (Valid n ∧ ¬ Time n now l ∧ r = .inl 2) ∨ (Valid n ∧ Time n now l ∧ r = .inr (keep now n.fTable))

theorem ok56 (n : SNat) (now : Int) (l : List SAddr) (hl : SmallN n.fTable) (hs : Small l) : SOk (s56 n now l) (StartQ n now l) := by
  have hl1 := hl.1
  show Ok (g56 n now l) _
  unfold g56 StartQ
  refine Ok.view (ok55 ⟨n⟩ hl) fun v hv => ?_
  refine Ok.br (fun h1 => Ok.done ?_) (fun h1 => ?_)
  · simp at h1; subst h1; simp at hv; exact .inl ⟨hv, rfl⟩
  simp at h1; subst h1; simp at hv
  refine Ok.cnd (R := fun c => (c = false ↔ n.fNow ≤ now ∧ now ≤ 1099511627776)) ?_ fun c hc => ?_
  · refine Ok.br (fun h2 => Ok.done ?_) (fun h2 => Ok.done ?_)
    · simp at h2 ⊢; omega
    · simp at h2 ⊢; omega
  refine Ok.br (fun h2 => Ok.done ?_) (fun h2 => ?_)
  · refine .inr (.inl ⟨hv, fun ht => ?_, rfl⟩)
    rw [hc.2 ⟨ht.1, ht.2.1⟩] at h2; simp at h2
  have ht := hc.1 h2
  refine Ok.bind2 (R := fun e => match e with | .inl _ => ¬ ∀ a, a ∈ l → Usable a (n.fHost.size : Int) | .inr _ => ∀ a, a ∈ l → Usable a (n.fHost.size : Int)) ?_ (fun e he => Ok.done ?_) (fun e he => ?_)
  · refine Ok.lp (fun i => 0 ≤ i ∧ i ≤ (l.length : Int) ∧ ∀ j, j < i.toNat → ∀ a, l[j]? = some a → Usable a (n.fHost.size : Int)) (fun i => l.length - i.toNat) ⟨by simp, by simp, by simp⟩ (fuel (by simp; omega)) fun i hi => ?_
    obtain ⟨h0, h1, h3⟩ := hi
    refine Ok.br (fun hc => ?_) (fun hc => Ok.done ?_)
    · rw [mlen_eq, decide_eq_true_eq] at hc
      obtain ⟨y, hy⟩ := at_of h0 hc
      refine Ok.row (by simpa using h0) hy ?_
      refine Ok.view (ok84 ⟨n⟩ _) fun c hcc => ?_
      refine Ok.br (fun h4 => Ok.done ?_) (fun h4 => Ok.done ?_)
      · simp at h4; subst h4; simp at hcc
        intro hall; exact hcc (hall y (List.mem_of_getElem? hy))
      · simp at h4; subst h4; simp at hcc
        rw [wi64_succ h0 hc hs]
        refine ⟨⟨by omega, by omega, ?_⟩, by simp only; omega⟩
        rw [toNat_succ h0]
        refine upto_succ h3 fun a ha => ?_
        rw [hy] at ha; simp only [Option.some.injEq] at ha; subst ha; exact hcc
    · rw [mlen_eq, decide_eq_false_iff_not] at hc
      exact mem_upto hc h3
  · exact .inr (.inl ⟨hv, fun h => he h.2.2, rfl⟩)
  · refine Ok.gh (Ok.bind (R := fun e => e = keep now n.fTable) ?_ fun e hk => Ok.done (.inr (.inr ⟨hv, ⟨ht.1, ht.2, he⟩, by rw [hk]⟩)))
    refine Ok.lp (fun t => ∃ i : Int, t = (keep now (n.fTable.take i.toNat), i) ∧ 0 ≤ i ∧ i ≤ (n.fTable.length : Int)) (fun t => n.fTable.length - t.2.toNat) ⟨0, by simp [keep], by simp, by simp⟩ (fuel (by simp; omega)) fun t hi => ?_
    obtain ⟨i, rfl, h0, h1⟩ := hi
    refine Ok.br (fun hc => ?_) (fun hc => Ok.done ?_)
    · rw [mlen_eq, decide_eq_true_eq] at hc
      simp only at hc
      obtain ⟨y, hy⟩ := at_of h0 hc
      refine Ok.row (by simpa using h0) hy ?_
      refine Ok.br (fun h4 => ?_) (fun h4 => Ok.done ?_)
      · refine Ok.call (ok64 _ (hl.2 y (List.mem_of_getElem? hy))) fun _ _ => ?_
        refine Ok.appn ?_ (Ok.gh (Ok.gh (Ok.done ?_)))
        · have := keep_len now n.fTable i.toNat
          simp only; omega
        · simp only
          rw [wi64_succ h0 hc hl1]
          refine ⟨⟨i + 1, ?_, by omega, by omega⟩, by simp only; omega⟩
          rw [toNat_succ h0, keep_succ hy, if_pos (by simpa using h4)]
      · simp only
        rw [wi64_succ h0 hc hl1]
        refine ⟨⟨i + 1, ?_, by omega, by omega⟩, by simp only; omega⟩
        rw [toNat_succ h0, keep_succ hy, if_neg (by simpa using h4)]; simp
    · rw [mlen_eq, decide_eq_false_iff_not] at hc
      simp only at hc
      show keep now (n.fTable.take i.toNat) = _
      rw [take_all (by omega)]

theorem ok56_1 (n : SNat) (now : Int) (l : List SAddr) (hl : SmallN n.fTable) (hs : Small l) : SOk (s56_1 n now l) (StartQ n now l) := by
  have hl1 := hl.1
  show Ok (g56_1 n now l) _
  unfold g56_1 StartQ
  refine Ok.view (ok55 ⟨n⟩ hl) fun v hv => ?_
  refine Ok.br (fun h1 => Ok.done ?_) (fun h1 => ?_)
  · simp at h1; subst h1; simp at hv; exact .inl ⟨hv, rfl⟩
  simp at h1; subst h1; simp at hv
  refine Ok.cnd (R := fun c => (c = false ↔ n.fNow ≤ now ∧ now ≤ 1099511627776)) ?_ fun c hc => ?_
  · refine Ok.br (fun h2 => Ok.done ?_) (fun h2 => Ok.done ?_)
    · simp at h2 ⊢; omega
    · simp at h2 ⊢; omega
  refine Ok.br (fun h2 => Ok.done ?_) (fun h2 => ?_)
  · refine .inr (.inl ⟨hv, fun ht => ?_, rfl⟩)
    rw [hc.2 ⟨ht.1, ht.2.1⟩] at h2; simp at h2
  have ht := hc.1 h2
  refine Ok.bind2 (R := fun e => match e with | .inl _ => ¬ ∀ a, a ∈ l → Usable a (n.fHost.size : Int) | .inr _ => ∀ a, a ∈ l → Usable a (n.fHost.size : Int)) ?_ (fun e he => Ok.done ?_) (fun e he => ?_)
  · refine Ok.lp (fun i => 0 ≤ i ∧ i ≤ (l.length : Int) ∧ ∀ j, j < i.toNat → ∀ a, l[j]? = some a → Usable a (n.fHost.size : Int)) (fun i => l.length - i.toNat) ⟨by simp, by simp, by simp⟩ (fuel (by simp; omega)) fun i hi => ?_
    obtain ⟨h0, h1, h3⟩ := hi
    refine Ok.br (fun hc => ?_) (fun hc => Ok.done ?_)
    · rw [decide_eq_true_eq] at hc
      obtain ⟨y, hy⟩ := at_of h0 hc
      refine Ok.chk (by simp; omega) (Ok.row rfl (by rw [Nat.zero_add]; exact hy) ?_)
      refine Ok.view (ok84 ⟨n⟩ _) fun c hcc => ?_
      refine Ok.br (fun h4 => Ok.done ?_) (fun h4 => Ok.done ?_)
      · simp at h4; subst h4; simp at hcc
        intro hall; exact hcc (hall y (List.mem_of_getElem? hy))
      · simp at h4; subst h4; simp at hcc
        rw [wi64_succ h0 hc hs]
        refine ⟨⟨by omega, by omega, ?_⟩, by simp only; omega⟩
        rw [toNat_succ h0]
        refine upto_succ h3 fun a ha => ?_
        rw [hy] at ha; simp only [Option.some.injEq] at ha; subst ha; exact hcc
    · rw [decide_eq_false_iff_not] at hc
      exact mem_upto hc h3
  · exact .inr (.inl ⟨hv, fun h => he h.2.2, rfl⟩)
  · refine Ok.gh (Ok.bind (R := fun e => e = keep now n.fTable) ?_ fun e hk => Ok.done (.inr (.inr ⟨hv, ⟨ht.1, ht.2, he⟩, by rw [hk]⟩)))
    refine Ok.lp (fun t => ∃ i : Int, t = (keep now (n.fTable.take i.toNat), i) ∧ 0 ≤ i ∧ i ≤ (n.fTable.length : Int)) (fun t => n.fTable.length - t.2.toNat) ⟨0, by simp [keep], by simp, by simp⟩ (fuel (by simp; omega)) fun t hi => ?_
    obtain ⟨i, rfl, h0, h1⟩ := hi
    refine Ok.br (fun hc => ?_) (fun hc => Ok.done ?_)
    · rw [mlen_eq, decide_eq_true_eq] at hc
      simp only at hc
      obtain ⟨y, hy⟩ := at_of h0 hc
      refine Ok.row (by simpa using h0) hy ?_
      refine Ok.br (fun h4 => ?_) (fun h4 => Ok.done ?_)
      · refine Ok.call (ok64 _ (hl.2 y (List.mem_of_getElem? hy))) fun _ _ => ?_
        refine Ok.appn ?_ (Ok.gh (Ok.gh (Ok.done ?_)))
        · have := keep_len now n.fTable i.toNat
          simp only; omega
        · simp only
          rw [wi64_succ h0 hc hl1]
          refine ⟨⟨i + 1, ?_, by omega, by omega⟩, by simp only; omega⟩
          rw [toNat_succ h0, keep_succ hy, if_pos (by simpa using h4)]
      · simp only
        rw [wi64_succ h0 hc hl1]
        refine ⟨⟨i + 1, ?_, by omega, by omega⟩, by simp only; omega⟩
        rw [toNat_succ h0, keep_succ hy, if_neg (by simpa using h4)]; simp
    · rw [mlen_eq, decide_eq_false_iff_not] at hc
      simp only at hc
      show keep now (n.fTable.take i.toNat) = _
      rw [take_all (by omega)]

/-- No NAT. -/
def nat0 : SNat := ⟨0, 0, 0, false, ByteArray.empty, 0, 0, 0, []⟩
/-- A NAT at a time. -/
def atT (n : SNat) (now : Int) : SNat := ⟨n.fMapping, n.fFilter, n.fTimeout, n.fHairpin, n.fHost, n.fLow, n.fHigh, now, keep now n.fTable⟩

def ExpQ (n : SNat) (now : Int) (l : List SAddr) (r : SNat × Int) : Prop :=
  (¬ Valid n ∧ r = (nat0, 130)) ∨ (Valid n ∧ ¬ Time n now l ∧ r = (nat0, 2)) ∨ (Valid n ∧ Time n now l ∧ r = (atT n now, 0))

theorem ok20 (n : SNat) (now : Int) (hl : SmallN n.fTable) : SOk (s20 n now) (ExpQ n now []) := by
  show Ok (g20 n now) _
  unfold g20 ExpQ
  refine Ok.call2 (ok56 n now [] hl (by simp)) (fun e he => ?_) (fun t ht => ?_)
  · rcases he with ⟨h1, h2⟩ | ⟨h1, h2, h3⟩ | ⟨_, _, h3⟩
    · simp at h2; subst h2
      refine Ok.br (fun _ => Ok.done (.inl ⟨h1, rfl⟩)) (fun h => by simp at h)
    · simp at h3; subst h3
      refine Ok.br (fun _ => Ok.done (.inr (.inl ⟨h1, h2, rfl⟩))) (fun h => by simp at h)
    · simp at h3
  · rcases ht with ⟨h1, h2⟩ | ⟨h1, h2, h3⟩ | ⟨h1, h2, h3⟩
    · simp at h2
    · simp at h3
    · simp at h3; subst h3
      exact Ok.ff (Ok.gh (Ok.done (.inr (.inr ⟨h1, h2, rfl⟩))))

theorem ok21 (n : SNat) (now : Int) (hl : SmallN n.fTable) : SOk (s21 n now) (fun r => r = keep now n.fTable) := by
  have hl1 := hl.1
  show Ok (g21 n now) _
  unfold g21
  refine Ok.gh (Ok.bind (R := fun e => e = keep now n.fTable) ?_ fun e hk => Ok.done hk)
  refine Ok.lp (fun t => ∃ i : Int, t = (keep now (n.fTable.take i.toNat), i) ∧ 0 ≤ i ∧ i ≤ (n.fTable.length : Int)) (fun t => n.fTable.length - t.2.toNat) ⟨0, by simp [keep], by simp, by simp⟩ (fuel (by simp; omega)) fun t hi => ?_
  obtain ⟨i, rfl, h0, h1⟩ := hi
  refine Ok.br (fun hc => ?_) (fun hc => Ok.done ?_)
  · rw [mlen_eq, decide_eq_true_eq] at hc
    simp only at hc
    obtain ⟨y, hy⟩ := at_of h0 hc
    refine Ok.row (by simpa using h0) hy ?_
    refine Ok.br (fun h4 => ?_) (fun h4 => Ok.done ?_)
    · refine Ok.row (by simpa using h0) hy (Ok.call (ok57 _ (hl.2 y (List.mem_of_getElem? hy))) fun r hr => ?_)
      subst hr
      refine Ok.appn ?_ (Ok.gh (Ok.gh (Ok.done ?_)))
      · have := keep_len now n.fTable i.toNat
        simp only; omega
      · simp only
        rw [wi64_succ h0 hc hl1]
        refine ⟨⟨i + 1, ?_, by omega, by omega⟩, by simp only; omega⟩
        rw [toNat_succ h0, keep_succ hy, if_pos (by simpa using h4)]
    · simp only
      rw [wi64_succ h0 hc hl1]
      refine ⟨⟨i + 1, ?_, by omega, by omega⟩, by simp only; omega⟩
      rw [toNat_succ h0, keep_succ hy, if_neg (by simpa using h4)]; simp
  · rw [mlen_eq, decide_eq_false_iff_not] at hc
    simp only at hc
    show keep now (n.fTable.take i.toNat) = _
    rw [take_all (by omega)]

/-- A NAT is the same as itself. -/
theorem ok22 (n : SNat) (hl : SmallN n.fTable) : SOk (s22 n n) (fun c => c = true) := by
  have hl1 := hl.1
  show Ok (g22 n n) _
  unfold g22
  refine Ok.cnd (R := fun c => c = false) ?_ fun c hc => ?_
  · refine Ok.br (fun h => by simp at h) (fun _ => Ok.br (fun h => by simp at h) (fun _ => Ok.br (fun h => by simp at h) (fun _ => Ok.br (fun h => by simp at h) (fun _ => Ok.br (fun h => by simp at h) (fun _ => Ok.br (fun h => by simp at h) (fun _ => Ok.br (fun h => by simp at h) (fun _ => Ok.br (fun h => by simp at h) (fun _ => Ok.done ?_))))))))
    simp
  refine Ok.br (fun h => by rw [hc] at h; simp at h) (fun _ => ?_)
  refine Ok.bind2 (R := fun e => match e with | .inl _ => False | .inr _ => True) ?_ (fun e he => he.elim) (fun e he => Ok.done rfl)
  refine Ok.lp (fun i => 0 ≤ i ∧ i ≤ (n.fTable.length : Int)) (fun i => n.fTable.length - i.toNat) ⟨by simp, by simp⟩ (fuel (by simp; omega)) fun i hi => ?_
  obtain ⟨h0, h1⟩ := hi
  refine Ok.br (fun hi => ?_) (fun _ => Ok.done trivial)
  rw [mlen_eq, decide_eq_true_eq] at hi
  obtain ⟨y, hy⟩ := at_of h0 hi
  have hyo := hl.2 y (List.mem_of_getElem? hy)
  refine Ok.row (by simpa using h0) hy (Ok.row (by simpa using h0) hy ?_)
  refine Ok.cnd (R := fun c => c = false) ?_ fun c hc => ?_
  · refine Ok.br (fun h => by simp at h) (fun _ => Ok.br (fun h => by simp at h) (fun _ => Ok.br (fun h => by simp at h) (fun _ => Ok.br (fun h => by simp at h) (fun _ => Ok.done ?_))))
    simp
  refine Ok.br (fun h => by rw [hc] at h; simp at h) (fun _ => ?_)
  refine Ok.bind2 (R := fun e => match e with | .inl _ => False | .inr _ => True) ?_ (fun e he => he.elim) (fun e he => Ok.done ?_)
  · refine Ok.lp (fun k => 0 ≤ k ∧ k ≤ (y.fOpen.length : Int)) (fun k => y.fOpen.length - k.toNat) ⟨by simp, by simp⟩ (fuel (by simp; omega)) fun k hk => ?_
    obtain ⟨k0, k1⟩ := hk
    refine Ok.br (fun hc2 => ?_) (fun hc2 => Ok.done trivial)
    rw [mlen_eq, decide_eq_true_eq] at hc2
    obtain ⟨z, hz⟩ := at_of k0 hc2
    refine Ok.row (by simpa using k0) hz (Ok.row (by simpa using k0) hz (Ok.br (fun h => by simp at h) (fun _ => Ok.done ?_)))
    rw [wi64_succ k0 hc2 hyo]
    exact ⟨⟨by omega, by omega⟩, by simp only; omega⟩
  · rw [wi64_succ h0 hi hl1]
    exact ⟨⟨by omega, by omega⟩, by simp only; omega⟩

end Go.Proofs.YtdiagiflihpidaaDoor

namespace Go.Proofs.YtdiagiflihpidaaDoor
open Go Go.EV
set_option maxRecDepth 100000

/-- Bounds of a table and of what lies in it. -/
def Bd (m k : Nat) (l : List SBinding) : Prop := l.length ≤ m ∧ ∀ b, b ∈ l → b.fOpen.length ≤ k

theorem Bd.mono {m k m' k' : Nat} {l : List SBinding} (h : Bd m k l) (hm : m ≤ m') (hk : k ≤ k') : Bd m' k' l := ⟨Nat.le_trans h.1 hm, fun b hb => Nat.le_trans (h.2 b hb) hk⟩
theorem Bd.small {m k : Nat} {l : List SBinding} (h : Bd m k l) (hm : m ≤ 1000) (hk : k ≤ 1000) : SmallN l := ⟨by have := h.1; show l.length ≤ _; omega, fun b hb => by have := h.2 b hb; show b.fOpen.length ≤ _; omega⟩
theorem Bd.app {m k : Nat} {l : List SBinding} (h : Bd m k l) {b : SBinding} (hb : b.fOpen.length ≤ k) : Bd (m + 1) k (l ++ [b]) :=
  ⟨by have := h.1; simp; omega, fun x hx => by
    rcases List.mem_append.1 hx with hx | hx
    · exact h.2 x hx
    · rw [List.mem_singleton.1 hx]; exact hb⟩
theorem Bd.set {m k : Nat} {l : List SBinding} (h : Bd m k l) {b : SBinding} {j : Nat} (hb : b.fOpen.length ≤ k) : Bd m k (l.set j b) :=
  ⟨by have := h.1; simp; omega, fun x hx => by
    rcases List.mem_or_eq_of_mem_set hx with hx | rfl
    · exact h.2 x hx
    · exact hb⟩
theorem Bd.take {m k : Nat} {l : List SBinding} (h : Bd m k l) (i : Nat) : Bd m k (l.take i) := ⟨by have := h.1; simp; omega, fun x hx => h.2 x (List.mem_of_mem_take hx)⟩
theorem Bd.keep {m k : Nat} {l : List SBinding} (h : Bd m k l) (now : Int) : Bd m k (keep now l) :=
  ⟨Nat.le_trans (List.length_filter_le _ _) h.1, fun x hx => h.2 x (List.mem_filter.1 hx).1⟩
theorem Bd.at {m k : Nat} {l : List SBinding} (h : Bd m k l) {j : Nat} {x : SBinding} (hx : l[j]? = some x) : x.fOpen.length ≤ k := h.2 x (List.mem_of_getElem? hx)

-- few

theorem ok52 (n : SNat) : SOk (s52 n) (fun r => Bd 12 18 r.fTable) := by
  show Ok (g52 n) _
  unfold g52
  simp only [mlen_eq, mlenn_eq]
  have hm : 0 ≤ (if (12 : Int) < (n.fTable.length : Int) then (12 : Int) else (n.fTable.length : Int)) ∧ (if (12 : Int) < (n.fTable.length : Int) then (12 : Int) else (n.fTable.length : Int)) ≤ (n.fTable.length : Int) ∧ (if (12 : Int) < (n.fTable.length : Int) then (12 : Int) else (n.fTable.length : Int)) ≤ 12 := by
    split <;> omega
  generalize (if (12 : Int) < (n.fTable.length : Int) then (12 : Int) else (n.fTable.length : Int)) = q at hm
  have hlt : (n.fTable.take q.toNat).length ≤ 12 := by simp; omega
  generalize n.fTable.take q.toNat = l at hlt
  refine Ok.chk (by simp; omega) (Ok.re (Ok.gh (Ok.bind (R := fun e => Bd 12 18 e) ?_ fun e he => Ok.gh (Ok.done he))))
  refine Ok.lp (fun t => ∃ (a : List SBinding) (i : Int), t = (a, i) ∧ 0 ≤ i ∧ i ≤ (l.length : Int) ∧ Bd i.toNat 18 a) (fun t => l.length - t.2.toNat) ⟨[], 0, rfl, by simp, by simp, ⟨by simp, by simp⟩⟩ (fuel (by simp; omega)) fun t ht => ?_
  obtain ⟨a, i, rfl, h0, h1, h2⟩ := ht
  refine Ok.br (fun hc => ?_) (fun hc => Ok.done (Bd.mono h2 (by omega) (by omega)))
  rw [decide_eq_true_eq] at hc
  simp only at hc
  obtain ⟨y, hy⟩ := at_of h0 hc
  refine Ok.row (by simpa using h0) hy ?_
  have hq : 0 ≤ (if (18 : Int) < (y.fOpen.length : Int) then (18 : Int) else (y.fOpen.length : Int)) ∧ (if (18 : Int) < (y.fOpen.length : Int) then (18 : Int) else (y.fOpen.length : Int)) ≤ (y.fOpen.length : Int) ∧ (if (18 : Int) < (y.fOpen.length : Int) then (18 : Int) else (y.fOpen.length : Int)) ≤ 18 := by
    split <;> omega
  generalize (if (18 : Int) < (y.fOpen.length : Int) then (18 : Int) else (y.fOpen.length : Int)) = p at hq
  have ha := h2.1
  refine Ok.chk (by simp; omega) (Ok.re (Ok.app (by simp; omega) (Ok.gh (Ok.gh (Ok.done ?_)))))
  rw [wi64_succ h0 hc (by omega)]
  refine ⟨⟨_, i + 1, rfl, by omega, by omega, ?_⟩, by simp only; omega⟩
  rw [toNat_succ h0]
  exact h2.app (by simp; omega)

-- a bent NAT

theorem ok35 (z : SBend) (n : SNat) {m k : Nat} (h : Bd m k n.fTable) (hm : m ≤ 500) (hk : k ≤ 500) (ha : 0 ≤ z.fAt ∧ z.fAt ≤ 255) : SOk (s35 z n) (fun r => Bd (m + 1) (k + 1) r.fTable) := by
  have hlen := h.1
  show Ok (g35 z n) _
  unfold g35
  refine Ok.gh (Ok.bind (R := fun e => Bd m k e) ?_ fun e he => ?_)
  · refine Ok.lp (fun t => ∃ i : Int, t = (n.fTable.take i.toNat, i) ∧ 0 ≤ i ∧ i ≤ (n.fTable.length : Int)) (fun t => n.fTable.length - t.2.toNat) ⟨0, by simp, by simp, by simp⟩ (fuel (by simp; omega)) fun t ht => ?_
    obtain ⟨i, rfl, h0, h1⟩ := ht
    refine Ok.br (fun hc => ?_) (fun hc => Ok.done (h.take _))
    rw [mlen_eq, decide_eq_true_eq] at hc
    simp only at hc
    obtain ⟨y, hy⟩ := at_of h0 hc
    have hyk := h.at hy
    refine Ok.row (by simpa using h0) hy (Ok.call (ok57 _ (by show y.fOpen.length ≤ _; omega)) fun r hr => ?_)
    subst hr
    refine Ok.appn (by simp; omega) (Ok.gh (Ok.gh (Ok.done ?_)))
    simp only
    rw [wi64_succ h0 hc (by omega)]
    refine ⟨⟨i + 1, ?_, by omega, by omega⟩, by simp only; omega⟩
    rw [toNat_succ h0, List.take_add_one, hy]; rfl
  · refine Ok.bind (R := fun t => Bd (m + 1) k t.2.2.2.2.2.2.2) ?_ fun t ht => ?_
    · have he1 : Bd (m + 1) k e := he.mono (by omega) (by omega)
      have hel := he.1
      refine Ok.br (fun _ => Ok.gh (Ok.done he1)) (fun _ => Ok.br (fun _ => Ok.gh (Ok.done he1)) (fun _ => Ok.br (fun _ => Ok.gh (Ok.done he1)) (fun _ => Ok.br (fun _ => Ok.gh (Ok.done he1)) (fun _ => Ok.br (fun _ => Ok.gh (Ok.done he1)) (fun _ => Ok.br (fun _ => Ok.gh (Ok.done he1)) (fun _ => Ok.br (fun _ => Ok.gh (Ok.done he1)) (fun _ => Ok.br (fun _ => ?_) (fun _ => Ok.gh (Ok.done he1)))))))))
      exact Ok.app (by simp; omega) (Ok.gh (Ok.done (he.app (by simp))))
    · have hf : Bd (m + 1) (k + 1) t.2.2.2.2.2.2.2 := ht.mono (by omega) (by omega)
      refine Ok.br (fun _ => Ok.gh (Ok.done hf)) (fun hz => ?_)
      simp at hz
      have hpos : 0 < (t.2.2.2.2.2.2.2.length : Int) := by
        have : t.2.2.2.2.2.2.2.length ≠ 0 := fun e => hz (List.length_eq_zero_iff.1 e)
        omega
      have hat : wi64 z.fAt = z.fAt := wi64_id (by omega) (by omega)
      have hq : 0 ≤ Int.tmod (wi64 z.fAt) (t.2.2.2.2.2.2.2.length : Int) ∧ Int.tmod (wi64 z.fAt) (t.2.2.2.2.2.2.2.length : Int) < (t.2.2.2.2.2.2.2.length : Int) := by
        rw [hat]; exact ⟨Int.tmod_nonneg _ ha.1, Int.tmod_lt_of_pos _ hpos⟩
      obtain ⟨x, hx⟩ := at_of (l := t.2.2.2.2.2.2.2) hq.1 hq.2
      have hx0 : t.2.2.2.2.2.2.2[0 + (Int.tmod (wi64 z.fAt) (t.2.2.2.2.2.2.2.length : Int)).toNat]? = some x := by rw [Nat.zero_add]; exact hx
      have hxl := ht.at hx
      have hj : 0 + (Int.tmod (wi64 z.fAt) (t.2.2.2.2.2.2.2.length : Int)).toNat < t.2.2.2.2.2.2.2.length := by omega
      refine Ok.chk (by simp; exact hz) (Ok.chk (by simp; omega) ?_)
      refine Ok.br (fun _ => Ok.row rfl hx0 (Ok.re (Ok.gh (Ok.gh (Ok.done (hf.set (by simp; omega))))))) (fun _ => ?_)
      refine Ok.br (fun _ => Ok.row rfl hx0 (Ok.re (Ok.gh (Ok.gh (Ok.done (hf.set (by simp; omega))))))) (fun _ => ?_)
      refine Ok.br (fun _ => Ok.row rfl hx0 (Ok.re (Ok.gh (Ok.gh (Ok.done (hf.set (by simp; omega))))))) (fun _ => ?_)
      refine Ok.br (fun _ => Ok.row rfl hx0 (Ok.re (Ok.gh (Ok.gh (Ok.done (hf.set (by simp; omega))))))) (fun _ => ?_)
      refine Ok.br (fun _ => Ok.rowt hx0 (Ok.re (Ok.app (by simp; omega) (Ok.nst0 hj (Ok.gh (Ok.gh (Ok.done (hf.set (by simp; omega))))))))) (fun _ => ?_)
      refine Ok.br (fun _ => Ok.row rfl hx0 (Ok.re (Ok.gh (Ok.gh (Ok.done (hf.set (by simp))))))) (fun _ => Ok.gh (Ok.done hf))

-- the reference's Out: it comes to something

theorem ok89 (n : SNat) (p : Int) (hl : Small n.fTable) : SOk (s89 n p) (fun c => (c = true ↔ ∃ b, b ∈ n.fTable ∧ b.fPort = p)) := by
  show Ok (g89 n p) _
  unfold g89
  refine Ok.bind2 (R := fun e => match e with | .inl _ => ∃ b, b ∈ n.fTable ∧ b.fPort = p | .inr _ => ¬ ∃ b, b ∈ n.fTable ∧ b.fPort = p) ?_ (fun e he => Ok.done ⟨fun _ => he, fun _ => rfl⟩) (fun e he => Ok.done ⟨fun h => by simp at h, fun h => absurd h he⟩)
  refine Ok.lp (fun i => 0 ≤ i ∧ i ≤ (n.fTable.length : Int) ∧ ∀ j, j < i.toNat → ∀ b, n.fTable[j]? = some b → b.fPort ≠ p) (fun i => n.fTable.length - i.toNat) ⟨by simp, by simp, by simp⟩ (fuel (by simp; omega)) fun i hi => ?_
  obtain ⟨h0, h1, h2⟩ := hi
  refine Ok.br (fun hc => ?_) (fun hc => Ok.done ?_)
  · rw [mlen_eq, decide_eq_true_eq] at hc
    obtain ⟨y, hy⟩ := at_of h0 hc
    refine Ok.row (by simpa using h0) hy (Ok.br (fun h3 => Ok.done ?_) (fun h3 => Ok.done ?_))
    · exact ⟨y, List.mem_of_getElem? hy, by simpa using h3⟩
    · rw [wi64_succ h0 hc hl]
      refine ⟨⟨by omega, by omega, ?_⟩, by simp only; omega⟩
      rw [toNat_succ h0]
      refine upto_succ h2 fun b hb => ?_
      rw [hy] at hb; simp only [Option.some.injEq] at hb; subst hb; simpa using h3
  · rw [mlen_eq, decide_eq_false_iff_not] at hc
    rintro ⟨b, hb, hp⟩
    obtain ⟨j, hj⟩ := List.mem_iff_getElem?.1 hb
    exact h2 j (by have := (List.getElem?_eq_some_iff.1 hj).1; omega) b hj hp

theorem ok60t (n : SNat) (own : Int) (hl : Small n.fTable) (hd : 1 ≤ n.fLow ∧ n.fHigh ≤ 65535 ∧ n.fLow ≤ n.fHigh ∧ n.fHigh < n.fLow + 64) : SOk (s60 n own) (fun _ => True) := by
  show Ok (g60 n own) _
  unfold g60
  rw [wi64_id (n := n.fHigh - n.fLow) (by omega) (by omega), wi64_id (n := n.fHigh - n.fLow + 1) (by omega) (by omega)]
  refine Ok.cnd (R := fun _ => True) (Ok.br (fun _ => Ok.done trivial) (fun _ => Ok.done trivial)) fun c _ => ?_
  refine Ok.bind (R := fun _ => True) (Ok.br (fun _ => Ok.done trivial) (fun _ => Ok.done trivial)) fun e _ => ?_
  refine Ok.bind2 (R := fun _ => True) ?_ (fun _ _ => Ok.done trivial) (fun _ _ => Ok.done trivial)
  refine Ok.lp (fun i => 0 ≤ i ∧ i ≤ n.fHigh - n.fLow + 1) (fun i => 64 - i.toNat) ⟨by simp, by omega⟩ (fuel (by simp)) fun i hi => ?_
  obtain ⟨h0, h1⟩ := hi
  refine Ok.br (fun hc => ?_) (fun hc => Ok.done trivial)
  rw [decide_eq_true_eq] at hc
  refine Ok.chk (by simp; omega) (Ok.call (ok89 _ _ hl) fun c _ => Ok.br (fun _ => Ok.done trivial) (fun _ => Ok.done ?_))
  rw [wi64_succ (n := 64) h0 (by omega) (by omega)]
  exact ⟨⟨by omega, by omega⟩, by simp only; omega⟩

theorem ok61 (b : SBinding) (a : SAddr) (hl : Small b.fOpen) : SOk (s61 b a) (fun c => (c = true ↔ a ∈ b.fOpen)) := by
  show Ok (g61 b a) _
  unfold g61
  refine Ok.bind2 (R := fun e => match e with | .inl _ => a ∈ b.fOpen | .inr _ => ¬ a ∈ b.fOpen) ?_ (fun e he => Ok.done ⟨fun _ => he, fun _ => rfl⟩) (fun e he => Ok.done ⟨fun h => by simp at h, fun h => absurd h he⟩)
  refine Ok.lp (fun i => 0 ≤ i ∧ i ≤ (b.fOpen.length : Int) ∧ ∀ j, j < i.toNat → b.fOpen[j]? ≠ some a) (fun i => b.fOpen.length - i.toNat) ⟨by simp, by simp, by simp⟩ (fuel (by simp; omega)) fun i hi => ?_
  obtain ⟨h0, h1, h2⟩ := hi
  refine Ok.br (fun hc => ?_) (fun hc => Ok.done ?_)
  · rw [mlen_eq, decide_eq_true_eq] at hc
    obtain ⟨y, hy⟩ := at_of h0 hc
    refine Ok.row (by simpa using h0) hy (Ok.br (fun h3 => Ok.done ?_) (fun h3 => Ok.done ?_))
    · rw [eA_iff] at h3; subst h3
      exact List.mem_of_getElem? hy
    · rw [wi64_succ h0 hc hl]
      refine ⟨⟨by omega, by omega, ?_⟩, by simp only; omega⟩
      rw [toNat_succ h0]
      refine upto_succ h2 ?_
      rw [hy]; intro e
      simp only [Option.some.injEq] at e
      rw [(eA_iff (a := y) (b := a)).2 e] at h3; simp at h3
  · rw [mlen_eq, decide_eq_false_iff_not] at hc
    intro hm
    obtain ⟨j, hj⟩ := List.mem_iff_getElem?.1 hm
    exact h2 j (by have := (List.getElem?_eq_some_iff.1 hj).1; omega) hj

theorem ok26t (n : SNat) (now : Int) (a b : SAddr) {m k : Nat} (h : Bd m k n.fTable) (hm : m ≤ 500) (hk : k ≤ 500) : SOk (s26 n now a b) (fun r => r.2.2 = 0 → Bd (m + 1) (k + 1) r.1.fTable) := by
  have hs : SmallN n.fTable := h.small (by omega) (by omega)
  show Ok (g26 n now a b) _
  unfold g26
  refine Ok.view (ok18 n now [a, b] hs (by simp)) fun r hr => ?_
  refine Ok.br (fun h1 => Ok.done fun h2 => ?_) (fun h1 => ?_)
  · simp at h1; exact absurd h2 h1
  simp at h1; subst h1
  have hv : Valid n := by
    rcases hr with ⟨_, h⟩ | ⟨_, _, h⟩ | ⟨h, _, _⟩
    · simp at h
    · simp at h
    · exact h
  refine Ok.br (fun _ => Ok.done fun h2 => by simp at h2) (fun _ => ?_)
  refine Ok.call (ok21 n now hs) fun l hl => ?_
  have hbl : Bd m k l := by rw [hl]; exact h.keep now
  have hll := hbl.1
  refine Ok.bind (R := fun e => e < (l.length : Int)) ?_ fun e he => ?_
  · refine Ok.lp (fun t => ∃ p i : Int, t = (p, i) ∧ 0 ≤ i ∧ i ≤ (l.length : Int) ∧ p < (l.length : Int)) (fun t => l.length - t.2.toNat) ⟨-1, 0, rfl, by simp, by simp, by omega⟩ (fuel (by simp; omega)) fun t ht => ?_
    obtain ⟨p, i, rfl, h0, h1, h2⟩ := ht
    refine Ok.br (fun hc => ?_) (fun hc => Ok.done h2)
    rw [decide_eq_true_eq] at hc
    simp only at hc
    obtain ⟨y, hy⟩ := at_of h0 hc
    have hy0 : l[0 + i.toNat]? = some y := by rw [Nat.zero_add]; exact hy
    refine Ok.cnd (R := fun _ => True) ?_ fun c _ => ?_
    · refine Ok.chk (by simp; omega) (Ok.row rfl hy0 (Ok.br (fun _ => Ok.chk (by simp; omega) (Ok.row rfl hy0 (Ok.call (ok59 _ _) fun _ _ => Ok.done trivial))) (fun _ => Ok.done trivial)))
    · refine Ok.br (fun _ => Ok.done ?_) (fun _ => Ok.done ?_)
      · simp only; rw [wi64_succ h0 hc (by omega)]
        exact ⟨⟨i, i + 1, rfl, by omega, by omega, hc⟩, by simp only; omega⟩
      · simp only; rw [wi64_succ h0 hc (by omega)]
        exact ⟨⟨p, i + 1, rfl, by omega, by omega, h2⟩, by simp only; omega⟩
  · refine Ok.bind2 (R := fun t => match t with | .inl _ => True | .inr t => Bd (m + 1) k t.1 ∧ 0 ≤ t.2 ∧ t.2 < (t.1.length : Int)) ?_ (fun _ _ => Ok.done fun h2 => by simp at h2) (fun t ht => ?_)
    · refine Ok.br (fun hc => ?_) (fun hc => Ok.gh (Ok.done ⟨hbl.mono (by omega) (by omega), by simpa using hc, he⟩))
      refine Ok.view (ok60t _ _ (by show l.length ≤ _; omega) hv.1.2.2.2.2.1) fun p _ => ?_
      refine Ok.br (fun _ => Ok.done trivial) (fun _ => Ok.call (ok59 _ _) fun q _ => Ok.app (by simp; omega) (Ok.gh (Ok.done ?_)))
      exact ⟨hbl.app (by simp), by simp, by simp; omega⟩
    · obtain ⟨t1, t2, t3⟩ := ht
      obtain ⟨x, hx⟩ := at_of t2 t3
      have hx0 : t.1[0 + t.2.toNat]? = some x := by rw [Nat.zero_add]; exact hx
      have hxl := t1.at hx
      have htl := t1.1
      refine Ok.chk (by simp; omega) (Ok.rowt hx0 (Ok.re ?_))
      refine Ok.cnd (R := fun _ => True) ?_ fun c _ => ?_
      · refine Ok.br (fun _ => Ok.call (ok59 _ _) fun q _ => Ok.view (ok61 _ _ (by show x.fOpen.length ≤ _; omega)) fun _ _ => Ok.done trivial) (fun _ => Ok.done trivial)
      · refine Ok.bind (R := fun o => o.length ≤ k + 1) ?_ fun o ho => ?_
        · refine Ok.br (fun _ => Ok.call (ok59 _ _) fun q _ => Ok.app (by simp; omega) (Ok.br (fun hc => ?_) (fun _ => Ok.gh (Ok.done (by simp; omega))))) (fun _ => Ok.gh (Ok.done (by omega)))
          exact Ok.chk (by simp; omega) (Ok.cutg (by simp) (Ok.gh (Ok.gh (Ok.done (by simp; omega)))))
        · refine Ok.chk (by simp; omega) (Ok.nst0 (by omega) (Ok.gh (Ok.gh (Ok.done fun _ => ?_))))
          exact (t1.mono (Nat.le_refl _) (Nat.le_succ k)).set ho

end Go.Proofs.YtdiagiflihpidaaDoor

namespace Go.Proofs.YtdiagiflihpidaaDoor
open Go Go.EV
set_option maxRecDepth 100000

theorem ok63 (d : SDraft) : SOk (s63 d) (fun r => r.fTable = []) := Ok.done rfl
theorem ok23 (k : Int) : SOk (s23 k) (fun _ => True) := Ok.done trivial
theorem ok24 (k : Int) : SOk (s24 k) (fun _ => True) := Ok.done trivial

theorem ok29 (d : SDraft) : SOk (s29 d) (fun r => Bd 30 30 r.fTable) := by
  show Ok (g29 d) _
  unfold g29
  refine Ok.call (ok63 d) fun r hr => ?_
  refine Ok.bind (R := fun t => Bd 30 30 t.2.2.2.2.2.2.2.2) ?_ fun t ht => Ok.done ht
  refine Ok.lp (fun t => 0 ≤ t.2.2.2.2.2.2.2.2.2 ∧ t.2.2.2.2.2.2.2.2.2 ≤ 30 ∧ Bd t.2.2.2.2.2.2.2.2.2.toNat t.2.2.2.2.2.2.2.2.2.toNat t.2.2.2.2.2.2.2.2.1) (fun t => 30 - t.2.2.2.2.2.2.2.2.2.toNat) ⟨by simp, by simp, by rw [hr]; exact ⟨by simp, by simp⟩⟩ (fuel (by simp)) fun t ht => ?_
  obtain ⟨h0, h1, h2⟩ := ht
  refine Ok.cnd (R := fun c => (c = true ↔ t.2.2.2.2.2.2.2.2.2 < (d.fMoves.length : Int) ∧ t.2.2.2.2.2.2.2.2.2 < 30)) ?_ fun c hc => ?_
  · refine Ok.br (fun h3 => Ok.done ?_) (fun h3 => Ok.done ?_)
    · rw [mlen_eq, decide_eq_true_eq] at h3
      simp [h3]
    · rw [mlen_eq, decide_eq_false_iff_not] at h3
      simp [h3]
  · refine Ok.br (fun h3 => ?_) (fun h3 => Ok.done (h2.mono (by omega) (by omega)))
    obtain ⟨h4, h5⟩ := hc.1 h3
    obtain ⟨x, hx⟩ := at_of h0 h4
    refine Ok.row (by simpa using h0) hx (Ok.call (ok23 _) fun _ _ => Ok.call (ok24 _) fun _ _ => Ok.call (ok26t _ _ _ _ h2 (by omega) (by omega)) fun y hy => ?_)
    refine Ok.br (fun h6 => Ok.done ?_) (fun h6 => Ok.done ?_)
    · simp only [Rnd]
      rw [wi64_succ (n := 30) h0 (by omega) (by omega)]
      refine ⟨⟨by omega, by omega, ?_⟩, by omega⟩
      rw [toNat_succ h0]
      exact hy (by simpa using h6)
    · simp only [Rnd]
      rw [wi64_succ (n := 30) h0 (by omega) (by omega)]
      refine ⟨⟨by omega, by omega, ?_⟩, by omega⟩
      rw [toNat_succ h0]
      exact h2.mono (by omega) (by omega)

/-- Numbers of eight bits. -/
def BendsOk (b : S2Tannoyref13Bend) : Prop := (0 ≤ b.a0.fAt ∧ b.a0.fAt ≤ 255) ∧ (0 ≤ b.a1.fAt ∧ b.a1.fAt ≤ 255)

theorem ok17 (d : SDraft) (b : S2Tannoyref13Bend) (raw : SNat) (hb : BendsOk b) : SOk (s17 d b raw) (fun r => SmallN r.a0.fTable ∧ SmallN r.a1.fTable ∧ SmallN r.a2.fTable ∧ SmallN r.a3.fTable) := by
  show Ok (g17 d b raw) _
  unfold g17
  refine Ok.call (ok29 d) fun n h0 => Ok.call (ok35 _ _ h0 (by omega) (by omega) hb.1) fun n1 h1 => Ok.call (ok35 _ _ h0 (by omega) (by omega) hb.1) fun n2 h2 => Ok.call (ok35 _ _ h2 (by omega) (by omega) hb.2) fun n3 h3 => Ok.call (ok52 raw) fun n4 h4 => Ok.done ?_
  exact ⟨h0.small (by omega) (by omega), h1.small (by omega) (by omega), h3.small (by omega) (by omega), h4.small (by omega) (by omega)⟩

theorem ok16 : SOk s16 (fun r => r = true) := ⟨true, by kernel_rfl, rfl⟩

/-- Check's answer and the reference's errors, as the law wants them. -/
theorem check_eq {n : SNat} {w e c : Int} (hw : ErrQ n n.fNow [] w) (he : e = if w = 2 then 0 else w) (hc : (¬ Valid n ∧ c = 130) ∨ (Valid n ∧ c = 0)) : c = e := by
  rcases hw with ⟨h1, h2⟩ | ⟨h1, h2, h3⟩ | ⟨h1, h2, h3⟩ <;> rcases hc with ⟨h4, h5⟩ | ⟨h4, h5⟩ <;> first | (exact absurd h4 h1) | (exact absurd h1 h4) | (subst h5; subst he; simp_all)

theorem smallN_keep {n : SNat} (hl : SmallN n.fTable) (now : Int) : SmallN (atT n now).fTable :=
  ⟨Nat.le_trans (List.length_filter_le _ _) hl.1, fun b hb => hl.2 b (List.mem_filter.1 hb).1⟩

theorem smallN_nat0 : SmallN nat0.fTable := ⟨by simp [nat0], by simp [nat0]⟩

/-- What stands behind Expire and the reference's errors: the same. -/
theorem exp_eq {n : SNat} {now : Int} {r : SNat × Int} {w : Int} (hr : ExpQ n now [] r) (hw : ErrQ n now [] w) : r.2 = w ∧ (w = 0 → r.1 = atT n now) ∧ (w ≠ 0 → r.1 = nat0) := by
  rcases hr with ⟨h1, h2⟩ | ⟨h1, h2, h3⟩ | ⟨h1, h2, h3⟩ <;> rcases hw with ⟨k1, k2⟩ | ⟨k1, k2, k3⟩ | ⟨k1, k2, k3⟩ <;> first | (exact absurd k1 h1) | (exact absurd h1 k1) | (exact absurd k2 h2) | (exact absurd h2 k2) | (subst_vars; simp)

end Go.Proofs.YtdiagiflihpidaaDoor

namespace Go.Proofs.YtdiagiflihpidaaDoor
open Go Go.EV
set_option maxRecDepth 100000

theorem exp_small {n : SNat} {now : Int} {l : List SAddr} {r : SNat × Int} (hl : SmallN n.fTable) (hr : ExpQ n now l r) : SmallN r.1.fTable := by
  rcases hr with ⟨_, h2⟩ | ⟨_, _, h3⟩ | ⟨_, _, h3⟩
  · rw [h2]; exact smallN_nat0
  · rw [h3]; exact smallN_nat0
  · rw [h3]; exact smallN_keep hl now

theorem ok3 (d : SDraft) (b : S2Tannoyref13Bend) (raw : SNat) (x : SMove1) (hb : BendsOk b) : SOk (s3 d b raw x) (fun r => r = true) := by
  show Ok (g3 d b raw x) _
  unfold g3
  refine Ok.call ok16 fun v hv => ?_
  subst hv
  refine Ok.br (fun h => by simp at h) (fun _ => ?_)
  refine Ok.call (ok17 d b raw hb) fun ns hn => ?_
  obtain ⟨h0, h1, h2, h3⟩ := hn
  repeat first | refine Ok.tt ?_ | refine Ok.ff ?_ | refine Ok.gh ?_
  refine Ok.call (ok18 _ _ [] h0 (by simp)) fun w hw => ?_
  refine Ok.bind (R := fun e => e = if w = 2 then 0 else w) (Ok.br (fun h => Ok.done (by simp at h; simp [h])) (fun h => Ok.done (by simp at h; simp [h]))) fun e he => ?_
  repeat first | refine Ok.tt ?_ | refine Ok.ff ?_ | refine Ok.gh ?_
  refine Ok.call (ok19 _ h0) fun c hc => ?_
  have hce := check_eq hw he hc
  refine Ok.br (fun h => by subst hce; simp at h) (fun _ => ?_)
  repeat first | refine Ok.tt ?_ | refine Ok.ff ?_ | refine Ok.gh ?_
  refine Ok.call (ok20 _ _ h0) fun r hr => ?_
  repeat first | refine Ok.tt ?_ | refine Ok.ff ?_ | refine Ok.gh ?_
  refine Ok.call (ok18 _ _ [] h0 (by simp)) fun w hw => ?_
  obtain ⟨x1, x2, x3⟩ := exp_eq hr hw
  have hrs := exp_small h0 hr
  refine Ok.bind (R := fun t => (⟨t.1, t.2.1, t.2.2.1, t.2.2.2.1, t.2.2.2.2.1, t.2.2.2.2.2.1, t.2.2.2.2.2.2.1, t.2.2.2.2.2.2.2.1, t.2.2.2.2.2.2.2.2⟩ : SNat) = r.1) ?_ fun t ht => ?_
  · refine Ok.br (fun h => Ok.call (ok21 _ _ h0) fun k hk => Ok.gh (Ok.done ?_)) (fun h => Ok.gh (Ok.done ?_))
    · simp at h; subst hk; rw [x2 h]; rfl
    · simp at h; rw [x3 h]; rfl
  refine Ok.cnd (R := fun c => c = false) ?_ fun c hc => ?_
  · refine Ok.br (fun h => by simp [x1] at h) (fun _ => Ok.view (R := fun c => c = true) ?_ fun c hc => Ok.done (by simp [hc]))
    rw [ht]; exact ok22 _ hrs
  refine Ok.br (fun h => by rw [hc] at h; simp at h) (fun _ => ?_)
  repeat first | refine Ok.tt ?_ | refine Ok.ff ?_ | refine Ok.gh ?_
  refine Ok.call (ok20 _ _ h0) fun r hr => ?_
  repeat first | refine Ok.tt ?_ | refine Ok.ff ?_ | refine Ok.gh ?_
  refine Ok.call (ok18 _ _ [] h0 (by simp)) fun w hw => ?_
  obtain ⟨x1, x2, x3⟩ := exp_eq hr hw
  have hrs := exp_small h0 hr
  refine Ok.bind (R := fun t => (⟨t.1, t.2.1, t.2.2.1, t.2.2.2.1, t.2.2.2.2.1, t.2.2.2.2.2.1, t.2.2.2.2.2.2.1, t.2.2.2.2.2.2.2.1, t.2.2.2.2.2.2.2.2⟩ : SNat) = r.1) ?_ fun t ht => ?_
  · refine Ok.br (fun h => Ok.call (ok21 _ _ h0) fun k hk => Ok.gh (Ok.done ?_)) (fun h => Ok.gh (Ok.done ?_))
    · simp at h; subst hk; rw [x2 h]; rfl
    · simp at h; rw [x3 h]; rfl
  refine Ok.cnd (R := fun c => c = false) ?_ fun c hc => ?_
  · refine Ok.br (fun h => by simp [x1] at h) (fun _ => Ok.view (R := fun c => c = true) ?_ fun c hc => Ok.done (by simp [hc]))
    rw [ht]; exact ok22 _ hrs
  refine Ok.br (fun h => by rw [hc] at h; simp at h) (fun _ => ?_)
  repeat first | refine Ok.tt ?_ | refine Ok.ff ?_ | refine Ok.gh ?_
  refine Ok.call (ok18 _ _ [] h1 (by simp)) fun w hw => ?_
  refine Ok.bind (R := fun e => e = if w = 2 then 0 else w) (Ok.br (fun h => Ok.done (by simp at h; simp [h])) (fun h => Ok.done (by simp at h; simp [h]))) fun e he => ?_
  repeat first | refine Ok.tt ?_ | refine Ok.ff ?_ | refine Ok.gh ?_
  refine Ok.call (ok19 _ h1) fun c hc => ?_
  have hce := check_eq hw he hc
  refine Ok.br (fun h => by subst hce; simp at h) (fun _ => ?_)
  repeat first | refine Ok.tt ?_ | refine Ok.ff ?_ | refine Ok.gh ?_
  refine Ok.call (ok20 _ _ h1) fun r hr => ?_
  repeat first | refine Ok.tt ?_ | refine Ok.ff ?_ | refine Ok.gh ?_
  refine Ok.call (ok18 _ _ [] h1 (by simp)) fun w hw => ?_
  obtain ⟨x1, x2, x3⟩ := exp_eq hr hw
  have hrs := exp_small h1 hr
  refine Ok.bind (R := fun t => (⟨t.1, t.2.1, t.2.2.1, t.2.2.2.1, t.2.2.2.2.1, t.2.2.2.2.2.1, t.2.2.2.2.2.2.1, t.2.2.2.2.2.2.2.1, t.2.2.2.2.2.2.2.2⟩ : SNat) = r.1) ?_ fun t ht => ?_
  · refine Ok.br (fun h => Ok.call (ok21 _ _ h1) fun k hk => Ok.gh (Ok.done ?_)) (fun h => Ok.gh (Ok.done ?_))
    · simp at h; subst hk; rw [x2 h]; rfl
    · simp at h; rw [x3 h]; rfl
  refine Ok.cnd (R := fun c => c = false) ?_ fun c hc => ?_
  · refine Ok.br (fun h => by simp [x1] at h) (fun _ => Ok.view (R := fun c => c = true) ?_ fun c hc => Ok.done (by simp [hc]))
    rw [ht]; exact ok22 _ hrs
  refine Ok.br (fun h => by rw [hc] at h; simp at h) (fun _ => ?_)
  repeat first | refine Ok.tt ?_ | refine Ok.ff ?_ | refine Ok.gh ?_
  refine Ok.call (ok20 _ _ h1) fun r hr => ?_
  repeat first | refine Ok.tt ?_ | refine Ok.ff ?_ | refine Ok.gh ?_
  refine Ok.call (ok18 _ _ [] h1 (by simp)) fun w hw => ?_
  obtain ⟨x1, x2, x3⟩ := exp_eq hr hw
  have hrs := exp_small h1 hr
  refine Ok.bind (R := fun t => (⟨t.1, t.2.1, t.2.2.1, t.2.2.2.1, t.2.2.2.2.1, t.2.2.2.2.2.1, t.2.2.2.2.2.2.1, t.2.2.2.2.2.2.2.1, t.2.2.2.2.2.2.2.2⟩ : SNat) = r.1) ?_ fun t ht => ?_
  · refine Ok.br (fun h => Ok.call (ok21 _ _ h1) fun k hk => Ok.gh (Ok.done ?_)) (fun h => Ok.gh (Ok.done ?_))
    · simp at h; subst hk; rw [x2 h]; rfl
    · simp at h; rw [x3 h]; rfl
  refine Ok.cnd (R := fun c => c = false) ?_ fun c hc => ?_
  · refine Ok.br (fun h => by simp [x1] at h) (fun _ => Ok.view (R := fun c => c = true) ?_ fun c hc => Ok.done (by simp [hc]))
    rw [ht]; exact ok22 _ hrs
  refine Ok.br (fun h => by rw [hc] at h; simp at h) (fun _ => ?_)
  repeat first | refine Ok.tt ?_ | refine Ok.ff ?_ | refine Ok.gh ?_
  refine Ok.call (ok18 _ _ [] h2 (by simp)) fun w hw => ?_
  refine Ok.bind (R := fun e => e = if w = 2 then 0 else w) (Ok.br (fun h => Ok.done (by simp at h; simp [h])) (fun h => Ok.done (by simp at h; simp [h]))) fun e he => ?_
  repeat first | refine Ok.tt ?_ | refine Ok.ff ?_ | refine Ok.gh ?_
  refine Ok.call (ok19 _ h2) fun c hc => ?_
  have hce := check_eq hw he hc
  refine Ok.br (fun h => by subst hce; simp at h) (fun _ => ?_)
  repeat first | refine Ok.tt ?_ | refine Ok.ff ?_ | refine Ok.gh ?_
  refine Ok.call (ok20 _ _ h2) fun r hr => ?_
  repeat first | refine Ok.tt ?_ | refine Ok.ff ?_ | refine Ok.gh ?_
  refine Ok.call (ok18 _ _ [] h2 (by simp)) fun w hw => ?_
  obtain ⟨x1, x2, x3⟩ := exp_eq hr hw
  have hrs := exp_small h2 hr
  refine Ok.bind (R := fun t => (⟨t.1, t.2.1, t.2.2.1, t.2.2.2.1, t.2.2.2.2.1, t.2.2.2.2.2.1, t.2.2.2.2.2.2.1, t.2.2.2.2.2.2.2.1, t.2.2.2.2.2.2.2.2⟩ : SNat) = r.1) ?_ fun t ht => ?_
  · refine Ok.br (fun h => Ok.call (ok21 _ _ h2) fun k hk => Ok.gh (Ok.done ?_)) (fun h => Ok.gh (Ok.done ?_))
    · simp at h; subst hk; rw [x2 h]; rfl
    · simp at h; rw [x3 h]; rfl
  refine Ok.cnd (R := fun c => c = false) ?_ fun c hc => ?_
  · refine Ok.br (fun h => by simp [x1] at h) (fun _ => Ok.view (R := fun c => c = true) ?_ fun c hc => Ok.done (by simp [hc]))
    rw [ht]; exact ok22 _ hrs
  refine Ok.br (fun h => by rw [hc] at h; simp at h) (fun _ => ?_)
  repeat first | refine Ok.tt ?_ | refine Ok.ff ?_ | refine Ok.gh ?_
  refine Ok.call (ok20 _ _ h2) fun r hr => ?_
  repeat first | refine Ok.tt ?_ | refine Ok.ff ?_ | refine Ok.gh ?_
  refine Ok.call (ok18 _ _ [] h2 (by simp)) fun w hw => ?_
  obtain ⟨x1, x2, x3⟩ := exp_eq hr hw
  have hrs := exp_small h2 hr
  refine Ok.bind (R := fun t => (⟨t.1, t.2.1, t.2.2.1, t.2.2.2.1, t.2.2.2.2.1, t.2.2.2.2.2.1, t.2.2.2.2.2.2.1, t.2.2.2.2.2.2.2.1, t.2.2.2.2.2.2.2.2⟩ : SNat) = r.1) ?_ fun t ht => ?_
  · refine Ok.br (fun h => Ok.call (ok21 _ _ h2) fun k hk => Ok.gh (Ok.done ?_)) (fun h => Ok.gh (Ok.done ?_))
    · simp at h; subst hk; rw [x2 h]; rfl
    · simp at h; rw [x3 h]; rfl
  refine Ok.cnd (R := fun c => c = false) ?_ fun c hc => ?_
  · refine Ok.br (fun h => by simp [x1] at h) (fun _ => Ok.view (R := fun c => c = true) ?_ fun c hc => Ok.done (by simp [hc]))
    rw [ht]; exact ok22 _ hrs
  refine Ok.br (fun h => by rw [hc] at h; simp at h) (fun _ => ?_)
  repeat first | refine Ok.tt ?_ | refine Ok.ff ?_ | refine Ok.gh ?_
  refine Ok.call (ok18 _ _ [] h3 (by simp)) fun w hw => ?_
  refine Ok.bind (R := fun e => e = if w = 2 then 0 else w) (Ok.br (fun h => Ok.done (by simp at h; simp [h])) (fun h => Ok.done (by simp at h; simp [h]))) fun e he => ?_
  repeat first | refine Ok.tt ?_ | refine Ok.ff ?_ | refine Ok.gh ?_
  refine Ok.call (ok19 _ h3) fun c hc => ?_
  have hce := check_eq hw he hc
  refine Ok.br (fun h => by subst hce; simp at h) (fun _ => ?_)
  repeat first | refine Ok.tt ?_ | refine Ok.ff ?_ | refine Ok.gh ?_
  refine Ok.call (ok20 _ _ h3) fun r hr => ?_
  repeat first | refine Ok.tt ?_ | refine Ok.ff ?_ | refine Ok.gh ?_
  refine Ok.call (ok18 _ _ [] h3 (by simp)) fun w hw => ?_
  obtain ⟨x1, x2, x3⟩ := exp_eq hr hw
  have hrs := exp_small h3 hr
  refine Ok.bind (R := fun t => (⟨t.1, t.2.1, t.2.2.1, t.2.2.2.1, t.2.2.2.2.1, t.2.2.2.2.2.1, t.2.2.2.2.2.2.1, t.2.2.2.2.2.2.2.1, t.2.2.2.2.2.2.2.2⟩ : SNat) = r.1) ?_ fun t ht => ?_
  · refine Ok.br (fun h => Ok.call (ok21 _ _ h3) fun k hk => Ok.gh (Ok.done ?_)) (fun h => Ok.gh (Ok.done ?_))
    · simp at h; subst hk; rw [x2 h]; rfl
    · simp at h; rw [x3 h]; rfl
  refine Ok.cnd (R := fun c => c = false) ?_ fun c hc => ?_
  · refine Ok.br (fun h => by simp [x1] at h) (fun _ => Ok.view (R := fun c => c = true) ?_ fun c hc => Ok.done (by simp [hc]))
    rw [ht]; exact ok22 _ hrs
  refine Ok.br (fun h => by rw [hc] at h; simp at h) (fun _ => ?_)
  repeat first | refine Ok.tt ?_ | refine Ok.ff ?_ | refine Ok.gh ?_
  refine Ok.call (ok20 _ _ h3) fun r hr => ?_
  repeat first | refine Ok.tt ?_ | refine Ok.ff ?_ | refine Ok.gh ?_
  refine Ok.call (ok18 _ _ [] h3 (by simp)) fun w hw => ?_
  obtain ⟨x1, x2, x3⟩ := exp_eq hr hw
  have hrs := exp_small h3 hr
  refine Ok.bind (R := fun t => (⟨t.1, t.2.1, t.2.2.1, t.2.2.2.1, t.2.2.2.2.1, t.2.2.2.2.2.1, t.2.2.2.2.2.2.1, t.2.2.2.2.2.2.2.1, t.2.2.2.2.2.2.2.2⟩ : SNat) = r.1) ?_ fun t ht => ?_
  · refine Ok.br (fun h => Ok.call (ok21 _ _ h3) fun k hk => Ok.gh (Ok.done ?_)) (fun h => Ok.gh (Ok.done ?_))
    · simp at h; subst hk; rw [x2 h]; rfl
    · simp at h; rw [x3 h]; rfl
  refine Ok.cnd (R := fun c => c = false) ?_ fun c hc => ?_
  · refine Ok.br (fun h => by simp [x1] at h) (fun _ => Ok.view (R := fun c => c = true) ?_ fun c hc => Ok.done (by simp [hc]))
    rw [ht]; exact ok22 _ hrs
  refine Ok.br (fun h => by rw [hc] at h; simp at h) (fun _ => ?_)
  repeat first | refine Ok.tt ?_ | refine Ok.ff ?_ | refine Ok.gh ?_
  exact Ok.done rfl

end Go.Proofs.YtdiagiflihpidaaDoor
