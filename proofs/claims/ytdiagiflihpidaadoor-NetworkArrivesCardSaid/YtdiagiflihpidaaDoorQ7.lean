/- What a guide is worth, by rules: 'Ok g Q' says that the guide comes to a result of which Q holds. No conditions.
   The value-level logic: slices made with their length; octets of a typed block as a text; no conditions but those that the rules name. -/
import Derived.Test.YtdiagiflihpidaaDoorQ5
import Derived.Test.YtdiagiflihpidaaDoorQ6
import Derived.Laws.MakeOwn
import Derived.KernelRfl
namespace Go.EV
open Go
def Ok {P : Program} {G : Nat → Option (List V)} {ρ : Type} (g : T P G ρ) (Q : ρ → Prop) : Prop := ∃ r, g.run = some r ∧ Q r
def SOk {P : Program} {G : Nat → Option (List V)} {ρ : Type} (s : Spec P G ρ) (Q : ρ → Prop) : Prop := ∃ r, s.o = some r ∧ Q r
section
variable {P : Program} {G : Nat → Option (List V)} {ρ : Type} {Q : ρ → Prop}
theorem SOk.mono {s : Spec P G ρ} {R : ρ → Prop} (h : SOk s R) (hq : ∀ r, R r → Q r) : SOk s Q := let ⟨r, h1, h2⟩ := h; ⟨r, h1, hq r h2⟩
theorem SOk.eq {s : Spec P G ρ} {r : ρ} (h : SOk s (fun x => x = r)) : s.o = some r := by obtain ⟨x, h1, rfl⟩ := h; exact h1
theorem Ok.done {r : ρ} (h : Q r) : Ok (.done r : T P G ρ) Q := ⟨r, rfl, h⟩
theorem Ok.br {a : Nat} {c : Bool} {x y : T P G ρ} (h1 : c = true → Ok x Q) (h2 : c = false → Ok y Q) : Ok (.br a c x y) Q := by
 cases c with
 | true => obtain ⟨r, e, hq⟩ := h1 rfl; exact ⟨r, e, hq⟩
 | false => obtain ⟨r, e, hq⟩ := h2 rfl; exact ⟨r, e, hq⟩
theorem Ok.tt {k : T P G ρ} (h : Ok k Q) : Ok (.tt k) Q := h
theorem Ok.ff {k : T P G ρ} (h : Ok k Q) : Ok (.ff k) Q := h
theorem Ok.re {a : Nat} {w : ReW} {k : T P G ρ} (h : Ok k Q) : Ok (.re a w k) Q := h
theorem Ok.gh {a : Nat} {w : GhW} {k : T P G ρ} (h : Ok k Q) : Ok (.gh a w k) Q := h
theorem Ok.chk {a : Nat} {c : Bool} {k : T P G ρ} (hc : c = true) (h : Ok k Q) : Ok (.chk a c k) Q := by
 subst hc; obtain ⟨r, e, hq⟩ := h; exact ⟨r, e, hq⟩
theorem Ok.row {α : Type} {a : Nat} {ty : Ty α} {l : List α} {j : Nat} {c : Bool} {k : α → T P G ρ} {x : α} (hc : c = true) (hx : l[j]? = some x) (h : Ok (k x) Q) : Ok (.row a ty l j c k) Q := by
 subst hc; obtain ⟨r, e, hq⟩ := h
 exact ⟨r, by simp only [T.run, cond_true, hx]; exact e, hq⟩
theorem Ok.rowt {α : Type} {a col : Nat} {ty : Ty α} {l : List α} {j : Nat} {k : α → T P G ρ} {x : α} (hx : l[j]? = some x) (h : Ok (k x) Q) : Ok (.rowt a ty l j col k) Q := by
 obtain ⟨r, e, hq⟩ := h
 exact ⟨r, by simp only [T.run, hx]; exact e, hq⟩
theorem Ok.rowg {α β : Type} {a b d : Nat} {ty : Ty α} {l : List α} {j col z : Nat} {ty2 : Ty β} {o : α → List β} {hc : ∀ x, (ty.c x)[col]? = some (.sl true z ((o x).map ty2.c))} {hs : ∀ y, ty2.c y = ty2.d y} {k : α → T P G ρ} {x : α} (hx : l[j]? = some x) (h : Ok (k x) Q) : Ok (.rowg a b d ty l j col z ty2 o hc hs k) Q := by
 obtain ⟨r, e, hq⟩ := h
 exact ⟨r, by simp only [T.run, hx]; exact e, hq⟩
theorem Ok.hrow {α : Type} {a : Nat} {ty : Ty α} {l : List α} {hole : List V} {j : Nat} {k : T P G ρ} (hj : j < l.length) (h : Ok k Q) : Ok (.hrow a ty l hole j k) Q := by
 obtain ⟨r, e, hq⟩ := h
 exact ⟨r, by simp only [T.run, List.getElem?_eq_getElem hj]; exact e, hq⟩
theorem Ok.nst0 {α β : Type} {a : Nat} {ty : Ty α} {l : List α} {hole : List V} {j col : Nat} {y : α} {ty2 : Ty β} {o : List β} {k : T P G ρ} (hj : j < l.length) (h : Ok k Q) : Ok (.nst a ty l hole j col y ty2 o none k) Q := by
 obtain ⟨r, e, hq⟩ := h
 exact ⟨r, by simp only [T.run, List.getElem?_eq_getElem hj]; exact e, hq⟩
theorem Ok.nst1 {α β : Type} {a : Nat} {ty : Ty α} {l : List α} {hole : List V} {j col n : Nat} {y : α} {ty2 : Ty β} {o : List β} {k : T P G ρ} (hj : j < l.length) (hn : n ≤ o.length) (h : Ok k Q) : Ok (.nst a ty l hole j col y ty2 o (some n) k) Q := by
 obtain ⟨r, e, hq⟩ := h
 exact ⟨r, by simp only [T.run, List.getElem?_eq_getElem hj, decide_eq_true hn, cond_true]; exact e, hq⟩
theorem Ok.app {α : Type} {a : Nat} {ty : Ty α} {l x : List α} {bytes : Nat} {fl : Bool} {hf : fl = true → ∀ y, ty.c y = ty.d y} {k : T P G ρ} (hn : (l.length + x.length) * bytes ≤ 140737488355328) (h : Ok k Q) : Ok (.app a ty l x bytes fl hf k) Q := by
 obtain ⟨r, e, hq⟩ := h
 exact ⟨r, by simp only [T.run, decide_eq_true hn, cond_true]; exact e, hq⟩
theorem Ok.appn {α β : Type} {a : Nat} {ty : Ty α} {l : List α} {y : α} {col d2 : Nat} {ty2 : Ty β} {o : List β} {bytes : Nat} {k : T P G ρ} (hn : (l.length + 1) * bytes ≤ 140737488355328) (h : Ok k Q) : Ok (.appn a ty l y col d2 ty2 o bytes k) Q := by
 obtain ⟨r, e, hq⟩ := h
 exact ⟨r, by simp only [T.run, decide_eq_true hn, cond_true]; exact e, hq⟩
theorem Ok.call {α : Type} {a : Nat} {s : Spec P G α} {Li Lo : List (Nat × Nat)} {k : α → T P G ρ} {R : α → Prop} (hs : SOk s R) (h : ∀ r, R r → Ok (k r) Q) : Ok (.call a s Li Lo k) Q := by
 obtain ⟨x, e1, hr⟩ := hs
 obtain ⟨r, e, hq⟩ := h x hr
 exact ⟨r, by simp only [T.run, e1]; exact e, hq⟩
theorem Ok.view {α : Type} {a : Nat} {s : Spec P G α} {vs : List VwW} {k : α → T P G ρ} {R : α → Prop} (hs : SOk s R) (h : ∀ r, R r → Ok (k r) Q) : Ok (.view a s vs k) Q := by
 obtain ⟨x, e1, hr⟩ := hs
 obtain ⟨r, e, hq⟩ := h x hr
 exact ⟨r, by simp only [T.run, e1]; exact e, hq⟩
theorem Ok.call2 {α β : Type} {a : Nat} {s : Spec P G (α ⊕ β)} {Li Lo : List (Nat × Nat)} {k : α → T P G ρ} {k2 : β → T P G ρ} {R : α ⊕ β → Prop} (hs : SOk s R) (h : ∀ r, R (.inl r) → Ok (k r) Q) (h2 : ∀ r, R (.inr r) → Ok (k2 r) Q) : Ok (.call2 a s Li Lo k k2) Q := by
 obtain ⟨x, e1, hr⟩ := hs
 cases x with
 | inl x => obtain ⟨r, e, hq⟩ := h x hr; exact ⟨r, by simp only [T.run, e1]; exact e, hq⟩
 | inr x => obtain ⟨r, e, hq⟩ := h2 x hr; exact ⟨r, by simp only [T.run, e1]; exact e, hq⟩
theorem Ok.cnd {ε : Type} {id : Nat} {ts : List Nat} {first : T P G ε} {E : ε → List V} {k : ε → T P G ρ} {R : ε → Prop} (hf : Ok first R) (h : ∀ e, R e → Ok (k e) Q) : Ok (.cnd id ts first E k) Q := by
 obtain ⟨x, e1, hr⟩ := hf
 obtain ⟨r, e, hq⟩ := h x hr
 exact ⟨r, by simp only [T.run, e1]; exact e, hq⟩
theorem Ok.bind {ε : Type} {j : Nat} {first : T P G ε} {E : ε → Ext} {k : ε → T P G ρ} {R : ε → Prop} (hf : Ok first R) (h : ∀ e, R e → Ok (k e) Q) : Ok (.bind j first E k) Q := by
 obtain ⟨x, e1, hr⟩ := hf
 obtain ⟨r, e, hq⟩ := h x hr
 exact ⟨r, by simp only [T.run, e1]; exact e, hq⟩
theorem Ok.bind2 {ε ζ : Type} {j : Nat} {first : T P G (ε ⊕ ζ)} {E : ε → Ext} {E2 : ζ → Ext} {k : ε → T P G ρ} {k2 : ζ → T P G ρ} {R : ε ⊕ ζ → Prop} (hf : Ok first R) (h : ∀ e, R (.inl e) → Ok (k e) Q) (h2 : ∀ e, R (.inr e) → Ok (k2 e) Q) : Ok (.bind2 j first E E2 k k2) Q := by
 obtain ⟨x, e1, hr⟩ := hf
 cases x with
 | inl x => obtain ⟨r, e, hq⟩ := h x hr; exact ⟨r, by simp only [T.run, e1]; exact e, hq⟩
 | inr x => obtain ⟨r, e, hq⟩ := h2 x hr; exact ⟨r, by simp only [T.run, e1]; exact e, hq⟩
theorem Ok.ceq {a : Nat} {n : Int} {vs : List Int} {k : Int → T P G ρ} (hn : vs.contains n = true) (h : Ok (k n) Q) : Ok (.ceq a n vs k) Q := by
 obtain ⟨r, e, hq⟩ := h
 exact ⟨r, by simp only [T.run, hn, cond_true]; exact e, hq⟩
theorem iter_inv {σ ε : Type} {f : σ → Option (σ ⊕ ε)} (I : σ → Prop) (μ : σ → Nat) (R : ε → Prop)
  (step : ∀ x, I x → ∃ r, f x = some r ∧ (match r with | .inl y => I y ∧ μ y < μ x | .inr e => R e)) : ∀ n x, I x → μ x < n → ∃ e, iter f n x = some e ∧ R e
 | 0, x, _, h => absurd h (Nat.not_lt_zero _)
 | n + 1, x, hx, h => by
  have e1 : iter f (n + 1) x = (match f x with | none => none | some (.inl y) => iter f n y | some (.inr e) => some e) := rfl
  rw [e1]
  obtain ⟨r, hr, hq⟩ := step x hx
  rw [hr]
  cases r with
  | inl y => exact iter_inv I μ R step n y hq.1 (by have := hq.2; omega)
  | inr e => exact ⟨e, rfl, hq⟩
def Rnd {σ ε : Type} (I : σ → Prop) (μ : σ → Nat) (m : Nat) (R : ε → Prop) : σ ⊕ ε → Prop
 | .inl y => I y ∧ μ y < m
 | .inr e => R e
theorem Ok.lp {σ ε : Type} {S : σ → Ext} {body : σ → T P G (σ ⊕ ε)} {x : σ} {R : ε → Prop} (I : σ → Prop) (μ : σ → Nat) (hx : I x) (hm : μ x < FUEL) (step : ∀ y, I y → Ok (body y) (Rnd I μ (μ y) R)) : Ok (.lp S body x) R := by
 refine iter_inv I μ R (fun y hy => ?_) FUEL x hx hm
 obtain ⟨r, h1, h2⟩ := step y hy
 refine ⟨r, h1, ?_⟩
 cases r <;> exact h2
end
end Go.EV
namespace Go.EV
open Go
end Go.EV
