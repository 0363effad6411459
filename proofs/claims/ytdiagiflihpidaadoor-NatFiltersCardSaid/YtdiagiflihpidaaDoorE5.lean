/- What nat's Out and the reference's Out say: one and the same. Conditions: lists no longer than a machine holds. -/
import Derived.Test.YtdiagiflihpidaaDoorE4
namespace Go.Proofs.YtdiagiflihpidaaDoor
open Go Go.EV
set_option maxRecDepth 100000

section
variable {P : Program} {G : Nat → Option (List V)} {ρ : Type} {Q : ρ → Prop} {id : Nat} {A B C D E : T P G ρ}
theorem ceq1 (h : Ok B Q) : Ok (.ceq id 1 [0, 1, 2, 3] (fun v => bif v == 0 then A else bif v == 1 then B else bif v == 2 then C else bif v == 3 then D else E)) Q := Ok.ceq rfl h
theorem ceq2 (h : Ok C Q) : Ok (.ceq id 2 [0, 1, 2, 3] (fun v => bif v == 0 then A else bif v == 1 then B else bif v == 2 then C else bif v == 3 then D else E)) Q := Ok.ceq rfl h
theorem ceq3 (h : Ok D Q) : Ok (.ceq id 3 [0, 1, 2, 3] (fun v => bif v == 0 then A else bif v == 1 then B else bif v == 2 then C else bif v == 3 then D else E)) Q := Ok.ceq rfl h
end

theorem maxL (m : Nat) (h : m ≤ 1000001) : (if wi64 ((m : Int) - 16) > (0 : Int) then wi64 ((m : Int) - 16) else (0 : Int)) = ((m - 16 : Nat) : Int) := by
  rw [wi64_id (by omega) (by omega)]
  split <;> omega

theorem set_self {α : Type} {t : List α} {j : Nat} (h : j < t.length) (y : α) : (t.set j y)[j]? = some y := List.getElem?_set_self h

def Out1 (n : SNat) (a b : SAddr) (q : List SBinding × Int × ByteArray × Int) : Prop :=
  (NoBase n a b ∧ q = (n.fTable, 4, ByteArray.empty, 0)) ∨ ∃ t j x, Base n a b t j x ∧ q = (t.set j (upd n b x), 0, n.fHost, x.fPort)

theorem base_open {n : SNat} {a b : SAddr} {t : List SBinding} {j : Nat} {x : SBinding} {k : Nat} (h : Base n a b t j x) (ho : ∀ y, y ∈ n.fTable → y.fOpen.length ≤ k) : x.fOpen.length ≤ k := by
  rcases h.mem x (List.mem_of_getElem? h.at) with h | h
  · exact ho x h
  · rw [h]; simp

theorem ok58_1m (f tm : Int) (hp : Bool) (ho : ByteArray) (lo hi now : Int) (l : List SBinding) (a b : SAddr) (hf : 1 ≤ f ∧ f ≤ 3) (hd : Ports ⟨1, f, tm, hp, ho, lo, hi, now, l⟩) (hl : SmallN l) :
    SOk (s58_1 a b 1 f tm hp ho lo hi now l) (Out1 ⟨1, f, tm, hp, ho, lo, hi, now, l⟩ a b) := by
  have hf3 : f = 1 ∨ f = 2 ∨ f = 3 := by omega
  have hl1 := hl.1
  show Ok (g58_1 a b 1 f tm hp ho lo hi now l) _
  unfold g58_1
  refine ceq1 (Ok.call (ok146 _) fun kp hkp => ?_)
  subst kp
  refine Ok.view (ok85 ⟨⟨1, f, tm, hp, ho, lo, hi, now, l⟩⟩ _ _ hl1) fun i hi2 => ?_
  refine Ok.bind2 (R := fun e => match e with | .inl _ => NoBase ⟨1, f, tm, hp, ho, lo, hi, now, l⟩ a b | .inr t => ∃ x, 0 ≤ t.2 ∧ Base ⟨1, f, tm, hp, ho, lo, hi, now, l⟩ a b t.1 (0 + t.2.toNat) x) ?_ (fun _ he => Ok.gh (Ok.done (.inl ⟨he, rfl⟩))) (fun t ht => ?_)
  · refine Ok.br (fun h => ?_) (fun h => Ok.gh (Ok.done ?_))
    · rcases hi2 with ⟨h0, _⟩ | ⟨_, hnone⟩
      · simp at h; omega
      · refine Ok.view (ok87 ⟨⟨1, f, tm, hp, ho, lo, hi, now, l⟩⟩ _ hl1 hd) fun r hr => Ok.br (fun h1 => Ok.done ?_) (fun h1 => Ok.app ?_ (Ok.gh (Ok.done ?_)))
        · cases r with
          | none => exact ⟨hnone, hr⟩
          | some p => simp at h1
        · simp; omega
        · cases r with
          | none => simp at h1
          | some p => exact ⟨_, by simp, .inr ⟨hnone, p, hr, rfl, rfl, by simp⟩⟩
    · rcases hi2 with ⟨h0, x, hx, hxx⟩ | ⟨h0, _⟩
      · exact ⟨x, h0, .inl ⟨rfl, by rw [Nat.zero_add]; exact hx, hxx.1, hxx.2⟩⟩
      · simp at h; omega
  · obtain ⟨x, h0, hb⟩ := ht
    have hx := hb.at
    have hjl := (List.getElem?_eq_some_iff.1 hx).1
    have hlen := hb.len
    simp only at hlen
    have hxo : x.fOpen.length ≤ 1000000 := base_open hb hl.2
    refine Ok.chk (by simp; omega) (Ok.row rfl hx (Ok.re (Ok.gh ?_)))
    rcases hf3 with rfl | rfl | rfl
    · refine ceq1 (Ok.call (ok146 _) fun kf hkf => ?_)
      subst kf
      refine Ok.cnd (R := fun c => (c = true ↔ ¬ ((1 : Int) = 1 ∨ keyOf 1 b ∈ x.fOpen))) ?_ fun c hc => ?_
      · exact Ok.br (fun h => by simp at h) (fun _ => Ok.done (by simp))
      refine Ok.bind (R := fun e => e = t.1.set (0 + t.2.toNat) (upd ⟨1, 1, tm, hp, ho, lo, hi, now, l⟩ b x)) ?_ fun e he => ?_
      · refine Ok.br (fun h => ?_) (fun h => Ok.done ?_)
        · refine Ok.rowt (set_self hjl _) (Ok.re (Ok.app (by simp; omega) (Ok.nst0 (by simp; omega) (Ok.gh (Ok.rowg (set_self (by simp; omega) _) (Ok.hrow (by simp; omega) (Ok.hrow (by simp; omega) (Ok.chk ?_ (Ok.nst1 (by simp; omega) ?_ (Ok.gh (Ok.done ?_)))))))))))
          · rw [maxL _ (by simp; omega)]; simp; omega
          · rw [maxL _ (by simp; omega)]; simp; omega
          · rw [maxL _ (by simp; omega), List.set_set, List.set_set, Int.toNat_natCast]
            simp only [upd, newOpen, if_neg (hc.1 h), List.length_append, List.length_singleton]
        · have hk := Classical.byContradiction fun h2 => by rw [hc.2 h2] at h; simp at h
          simp only [upd, newOpen, if_pos hk]
      · subst he
        exact Ok.row rfl (set_self hjl _) (Ok.gh (Ok.done (.inr ⟨t.1, _, x, hb, rfl⟩)))
    · refine ceq2 (Ok.call (ok147 _) fun kf hkf => ?_)
      subst kf
      refine Ok.cnd (R := fun c => (c = true ↔ ¬ ((2 : Int) = 1 ∨ keyOf 2 b ∈ x.fOpen))) ?_ fun c hc => ?_
      · refine Ok.br (fun _ => Ok.row rfl (set_self hjl _) (Ok.call (ok88 _ _ hxo) fun c hc => Ok.done ?_)) (fun h => by simp at h)
        simp only [show ¬ ((2 : Int) = 1) from by omega, false_or, ← hc]
        cases c <;> simp
      refine Ok.bind (R := fun e => e = t.1.set (0 + t.2.toNat) (upd ⟨1, 2, tm, hp, ho, lo, hi, now, l⟩ b x)) ?_ fun e he => ?_
      · refine Ok.br (fun h => ?_) (fun h => Ok.done ?_)
        · refine Ok.rowt (set_self hjl _) (Ok.re (Ok.app (by simp; omega) (Ok.nst0 (by simp; omega) (Ok.gh (Ok.rowg (set_self (by simp; omega) _) (Ok.hrow (by simp; omega) (Ok.hrow (by simp; omega) (Ok.chk ?_ (Ok.nst1 (by simp; omega) ?_ (Ok.gh (Ok.done ?_)))))))))))
          · rw [maxL _ (by simp; omega)]; simp; omega
          · rw [maxL _ (by simp; omega)]; simp; omega
          · rw [maxL _ (by simp; omega), List.set_set, List.set_set, Int.toNat_natCast]
            simp only [upd, newOpen, if_neg (hc.1 h), List.length_append, List.length_singleton]
        · have hk := Classical.byContradiction fun h2 => by rw [hc.2 h2] at h; simp at h
          simp only [upd, newOpen, if_pos hk]
      · subst he
        exact Ok.row rfl (set_self hjl _) (Ok.gh (Ok.done (.inr ⟨t.1, _, x, hb, rfl⟩)))
    · refine ceq3 (Ok.call (ok148 _) fun kf hkf => ?_)
      subst kf
      refine Ok.cnd (R := fun c => (c = true ↔ ¬ ((3 : Int) = 1 ∨ keyOf 3 b ∈ x.fOpen))) ?_ fun c hc => ?_
      · refine Ok.br (fun _ => Ok.row rfl (set_self hjl _) (Ok.call (ok88 _ _ hxo) fun c hc => Ok.done ?_)) (fun h => by simp at h)
        simp only [show ¬ ((3 : Int) = 1) from by omega, false_or, ← hc]
        cases c <;> simp
      refine Ok.bind (R := fun e => e = t.1.set (0 + t.2.toNat) (upd ⟨1, 3, tm, hp, ho, lo, hi, now, l⟩ b x)) ?_ fun e he => ?_
      · refine Ok.br (fun h => ?_) (fun h => Ok.done ?_)
        · refine Ok.rowt (set_self hjl _) (Ok.re (Ok.app (by simp; omega) (Ok.nst0 (by simp; omega) (Ok.gh (Ok.rowg (set_self (by simp; omega) _) (Ok.hrow (by simp; omega) (Ok.hrow (by simp; omega) (Ok.chk ?_ (Ok.nst1 (by simp; omega) ?_ (Ok.gh (Ok.done ?_)))))))))))
          · rw [maxL _ (by simp; omega)]; simp; omega
          · rw [maxL _ (by simp; omega)]; simp; omega
          · rw [maxL _ (by simp; omega), List.set_set, List.set_set, Int.toNat_natCast]
            simp only [upd, newOpen, if_neg (hc.1 h), List.length_append, List.length_singleton]
        · have hk := Classical.byContradiction fun h2 => by rw [hc.2 h2] at h; simp at h
          simp only [upd, newOpen, if_pos hk]
      · subst he
        exact Ok.row rfl (set_self hjl _) (Ok.gh (Ok.done (.inr ⟨t.1, _, x, hb, rfl⟩)))

theorem ok58_2m (f tm : Int) (hp : Bool) (ho : ByteArray) (lo hi now : Int) (l : List SBinding) (a b : SAddr) (hf : 1 ≤ f ∧ f ≤ 3) (hd : Ports ⟨2, f, tm, hp, ho, lo, hi, now, l⟩) (hl : SmallN l) :
    SOk (s58_1 a b 2 f tm hp ho lo hi now l) (Out1 ⟨2, f, tm, hp, ho, lo, hi, now, l⟩ a b) := by
  have hf3 : f = 1 ∨ f = 2 ∨ f = 3 := by omega
  have hl1 := hl.1
  show Ok (g58_1 a b 2 f tm hp ho lo hi now l) _
  unfold g58_1
  refine ceq2 (Ok.call (ok147 _) fun kp hkp => ?_)
  subst kp
  refine Ok.view (ok85 ⟨⟨2, f, tm, hp, ho, lo, hi, now, l⟩⟩ _ _ hl1) fun i hi2 => ?_
  refine Ok.bind2 (R := fun e => match e with | .inl _ => NoBase ⟨2, f, tm, hp, ho, lo, hi, now, l⟩ a b | .inr t => ∃ x, 0 ≤ t.2 ∧ Base ⟨2, f, tm, hp, ho, lo, hi, now, l⟩ a b t.1 (0 + t.2.toNat) x) ?_ (fun _ he => Ok.gh (Ok.done (.inl ⟨he, rfl⟩))) (fun t ht => ?_)
  · refine Ok.br (fun h => ?_) (fun h => Ok.gh (Ok.done ?_))
    · rcases hi2 with ⟨h0, _⟩ | ⟨_, hnone⟩
      · simp at h; omega
      · refine Ok.view (ok87 ⟨⟨2, f, tm, hp, ho, lo, hi, now, l⟩⟩ _ hl1 hd) fun r hr => Ok.br (fun h1 => Ok.done ?_) (fun h1 => Ok.app ?_ (Ok.gh (Ok.done ?_)))
        · cases r with
          | none => exact ⟨hnone, hr⟩
          | some p => simp at h1
        · simp; omega
        · cases r with
          | none => simp at h1
          | some p => exact ⟨_, by simp, .inr ⟨hnone, p, hr, rfl, rfl, by simp⟩⟩
    · rcases hi2 with ⟨h0, x, hx, hxx⟩ | ⟨h0, _⟩
      · exact ⟨x, h0, .inl ⟨rfl, by rw [Nat.zero_add]; exact hx, hxx.1, hxx.2⟩⟩
      · simp at h; omega
  · obtain ⟨x, h0, hb⟩ := ht
    have hx := hb.at
    have hjl := (List.getElem?_eq_some_iff.1 hx).1
    have hlen := hb.len
    simp only at hlen
    have hxo : x.fOpen.length ≤ 1000000 := base_open hb hl.2
    refine Ok.chk (by simp; omega) (Ok.row rfl hx (Ok.re (Ok.gh ?_)))
    rcases hf3 with rfl | rfl | rfl
    · refine ceq1 (Ok.call (ok146 _) fun kf hkf => ?_)
      subst kf
      refine Ok.cnd (R := fun c => (c = true ↔ ¬ ((1 : Int) = 1 ∨ keyOf 1 b ∈ x.fOpen))) ?_ fun c hc => ?_
      · exact Ok.br (fun h => by simp at h) (fun _ => Ok.done (by simp))
      refine Ok.bind (R := fun e => e = t.1.set (0 + t.2.toNat) (upd ⟨2, 1, tm, hp, ho, lo, hi, now, l⟩ b x)) ?_ fun e he => ?_
      · refine Ok.br (fun h => ?_) (fun h => Ok.done ?_)
        · refine Ok.rowt (set_self hjl _) (Ok.re (Ok.app (by simp; omega) (Ok.nst0 (by simp; omega) (Ok.gh (Ok.rowg (set_self (by simp; omega) _) (Ok.hrow (by simp; omega) (Ok.hrow (by simp; omega) (Ok.chk ?_ (Ok.nst1 (by simp; omega) ?_ (Ok.gh (Ok.done ?_)))))))))))
          · rw [maxL _ (by simp; omega)]; simp; omega
          · rw [maxL _ (by simp; omega)]; simp; omega
          · rw [maxL _ (by simp; omega), List.set_set, List.set_set, Int.toNat_natCast]
            simp only [upd, newOpen, if_neg (hc.1 h), List.length_append, List.length_singleton]
        · have hk := Classical.byContradiction fun h2 => by rw [hc.2 h2] at h; simp at h
          simp only [upd, newOpen, if_pos hk]
      · subst he
        exact Ok.row rfl (set_self hjl _) (Ok.gh (Ok.done (.inr ⟨t.1, _, x, hb, rfl⟩)))
    · refine ceq2 (Ok.call (ok147 _) fun kf hkf => ?_)
      subst kf
      refine Ok.cnd (R := fun c => (c = true ↔ ¬ ((2 : Int) = 1 ∨ keyOf 2 b ∈ x.fOpen))) ?_ fun c hc => ?_
      · refine Ok.br (fun _ => Ok.row rfl (set_self hjl _) (Ok.call (ok88 _ _ hxo) fun c hc => Ok.done ?_)) (fun h => by simp at h)
        simp only [show ¬ ((2 : Int) = 1) from by omega, false_or, ← hc]
        cases c <;> simp
      refine Ok.bind (R := fun e => e = t.1.set (0 + t.2.toNat) (upd ⟨2, 2, tm, hp, ho, lo, hi, now, l⟩ b x)) ?_ fun e he => ?_
      · refine Ok.br (fun h => ?_) (fun h => Ok.done ?_)
        · refine Ok.rowt (set_self hjl _) (Ok.re (Ok.app (by simp; omega) (Ok.nst0 (by simp; omega) (Ok.gh (Ok.rowg (set_self (by simp; omega) _) (Ok.hrow (by simp; omega) (Ok.hrow (by simp; omega) (Ok.chk ?_ (Ok.nst1 (by simp; omega) ?_ (Ok.gh (Ok.done ?_)))))))))))
          · rw [maxL _ (by simp; omega)]; simp; omega
          · rw [maxL _ (by simp; omega)]; simp; omega
          · rw [maxL _ (by simp; omega), List.set_set, List.set_set, Int.toNat_natCast]
            simp only [upd, newOpen, if_neg (hc.1 h), List.length_append, List.length_singleton]
        · have hk := Classical.byContradiction fun h2 => by rw [hc.2 h2] at h; simp at h
          simp only [upd, newOpen, if_pos hk]
      · subst he
        exact Ok.row rfl (set_self hjl _) (Ok.gh (Ok.done (.inr ⟨t.1, _, x, hb, rfl⟩)))
    · refine ceq3 (Ok.call (ok148 _) fun kf hkf => ?_)
      subst kf
      refine Ok.cnd (R := fun c => (c = true ↔ ¬ ((3 : Int) = 1 ∨ keyOf 3 b ∈ x.fOpen))) ?_ fun c hc => ?_
      · refine Ok.br (fun _ => Ok.row rfl (set_self hjl _) (Ok.call (ok88 _ _ hxo) fun c hc => Ok.done ?_)) (fun h => by simp at h)
        simp only [show ¬ ((3 : Int) = 1) from by omega, false_or, ← hc]
        cases c <;> simp
      refine Ok.bind (R := fun e => e = t.1.set (0 + t.2.toNat) (upd ⟨2, 3, tm, hp, ho, lo, hi, now, l⟩ b x)) ?_ fun e he => ?_
      · refine Ok.br (fun h => ?_) (fun h => Ok.done ?_)
        · refine Ok.rowt (set_self hjl _) (Ok.re (Ok.app (by simp; omega) (Ok.nst0 (by simp; omega) (Ok.gh (Ok.rowg (set_self (by simp; omega) _) (Ok.hrow (by simp; omega) (Ok.hrow (by simp; omega) (Ok.chk ?_ (Ok.nst1 (by simp; omega) ?_ (Ok.gh (Ok.done ?_)))))))))))
          · rw [maxL _ (by simp; omega)]; simp; omega
          · rw [maxL _ (by simp; omega)]; simp; omega
          · rw [maxL _ (by simp; omega), List.set_set, List.set_set, Int.toNat_natCast]
            simp only [upd, newOpen, if_neg (hc.1 h), List.length_append, List.length_singleton]
        · have hk := Classical.byContradiction fun h2 => by rw [hc.2 h2] at h; simp at h
          simp only [upd, newOpen, if_pos hk]
      · subst he
        exact Ok.row rfl (set_self hjl _) (Ok.gh (Ok.done (.inr ⟨t.1, _, x, hb, rfl⟩)))

theorem ok58_3m (f tm : Int) (hp : Bool) (ho : ByteArray) (lo hi now : Int) (l : List SBinding) (a b : SAddr) (hf : 1 ≤ f ∧ f ≤ 3) (hd : Ports ⟨3, f, tm, hp, ho, lo, hi, now, l⟩) (hl : SmallN l) :
    SOk (s58_1 a b 3 f tm hp ho lo hi now l) (Out1 ⟨3, f, tm, hp, ho, lo, hi, now, l⟩ a b) := by
  have hf3 : f = 1 ∨ f = 2 ∨ f = 3 := by omega
  have hl1 := hl.1
  show Ok (g58_1 a b 3 f tm hp ho lo hi now l) _
  unfold g58_1
  refine ceq3 (Ok.call (ok148 _) fun kp hkp => ?_)
  subst kp
  refine Ok.view (ok85 ⟨⟨3, f, tm, hp, ho, lo, hi, now, l⟩⟩ _ _ hl1) fun i hi2 => ?_
  refine Ok.bind2 (R := fun e => match e with | .inl _ => NoBase ⟨3, f, tm, hp, ho, lo, hi, now, l⟩ a b | .inr t => ∃ x, 0 ≤ t.2 ∧ Base ⟨3, f, tm, hp, ho, lo, hi, now, l⟩ a b t.1 (0 + t.2.toNat) x) ?_ (fun _ he => Ok.gh (Ok.done (.inl ⟨he, rfl⟩))) (fun t ht => ?_)
  · refine Ok.br (fun h => ?_) (fun h => Ok.gh (Ok.done ?_))
    · rcases hi2 with ⟨h0, _⟩ | ⟨_, hnone⟩
      · simp at h; omega
      · refine Ok.view (ok87 ⟨⟨3, f, tm, hp, ho, lo, hi, now, l⟩⟩ _ hl1 hd) fun r hr => Ok.br (fun h1 => Ok.done ?_) (fun h1 => Ok.app ?_ (Ok.gh (Ok.done ?_)))
        · cases r with
          | none => exact ⟨hnone, hr⟩
          | some p => simp at h1
        · simp; omega
        · cases r with
          | none => simp at h1
          | some p => exact ⟨_, by simp, .inr ⟨hnone, p, hr, rfl, rfl, by simp⟩⟩
    · rcases hi2 with ⟨h0, x, hx, hxx⟩ | ⟨h0, _⟩
      · exact ⟨x, h0, .inl ⟨rfl, by rw [Nat.zero_add]; exact hx, hxx.1, hxx.2⟩⟩
      · simp at h; omega
  · obtain ⟨x, h0, hb⟩ := ht
    have hx := hb.at
    have hjl := (List.getElem?_eq_some_iff.1 hx).1
    have hlen := hb.len
    simp only at hlen
    have hxo : x.fOpen.length ≤ 1000000 := base_open hb hl.2
    refine Ok.chk (by simp; omega) (Ok.row rfl hx (Ok.re (Ok.gh ?_)))
    rcases hf3 with rfl | rfl | rfl
    · refine ceq1 (Ok.call (ok146 _) fun kf hkf => ?_)
      subst kf
      refine Ok.cnd (R := fun c => (c = true ↔ ¬ ((1 : Int) = 1 ∨ keyOf 1 b ∈ x.fOpen))) ?_ fun c hc => ?_
      · exact Ok.br (fun h => by simp at h) (fun _ => Ok.done (by simp))
      refine Ok.bind (R := fun e => e = t.1.set (0 + t.2.toNat) (upd ⟨3, 1, tm, hp, ho, lo, hi, now, l⟩ b x)) ?_ fun e he => ?_
      · refine Ok.br (fun h => ?_) (fun h => Ok.done ?_)
        · refine Ok.rowt (set_self hjl _) (Ok.re (Ok.app (by simp; omega) (Ok.nst0 (by simp; omega) (Ok.gh (Ok.rowg (set_self (by simp; omega) _) (Ok.hrow (by simp; omega) (Ok.hrow (by simp; omega) (Ok.chk ?_ (Ok.nst1 (by simp; omega) ?_ (Ok.gh (Ok.done ?_)))))))))))
          · rw [maxL _ (by simp; omega)]; simp; omega
          · rw [maxL _ (by simp; omega)]; simp; omega
          · rw [maxL _ (by simp; omega), List.set_set, List.set_set, Int.toNat_natCast]
            simp only [upd, newOpen, if_neg (hc.1 h), List.length_append, List.length_singleton]
        · have hk := Classical.byContradiction fun h2 => by rw [hc.2 h2] at h; simp at h
          simp only [upd, newOpen, if_pos hk]
      · subst he
        exact Ok.row rfl (set_self hjl _) (Ok.gh (Ok.done (.inr ⟨t.1, _, x, hb, rfl⟩)))
    · refine ceq2 (Ok.call (ok147 _) fun kf hkf => ?_)
      subst kf
      refine Ok.cnd (R := fun c => (c = true ↔ ¬ ((2 : Int) = 1 ∨ keyOf 2 b ∈ x.fOpen))) ?_ fun c hc => ?_
      · refine Ok.br (fun _ => Ok.row rfl (set_self hjl _) (Ok.call (ok88 _ _ hxo) fun c hc => Ok.done ?_)) (fun h => by simp at h)
        simp only [show ¬ ((2 : Int) = 1) from by omega, false_or, ← hc]
        cases c <;> simp
      refine Ok.bind (R := fun e => e = t.1.set (0 + t.2.toNat) (upd ⟨3, 2, tm, hp, ho, lo, hi, now, l⟩ b x)) ?_ fun e he => ?_
      · refine Ok.br (fun h => ?_) (fun h => Ok.done ?_)
        · refine Ok.rowt (set_self hjl _) (Ok.re (Ok.app (by simp; omega) (Ok.nst0 (by simp; omega) (Ok.gh (Ok.rowg (set_self (by simp; omega) _) (Ok.hrow (by simp; omega) (Ok.hrow (by simp; omega) (Ok.chk ?_ (Ok.nst1 (by simp; omega) ?_ (Ok.gh (Ok.done ?_)))))))))))
          · rw [maxL _ (by simp; omega)]; simp; omega
          · rw [maxL _ (by simp; omega)]; simp; omega
          · rw [maxL _ (by simp; omega), List.set_set, List.set_set, Int.toNat_natCast]
            simp only [upd, newOpen, if_neg (hc.1 h), List.length_append, List.length_singleton]
        · have hk := Classical.byContradiction fun h2 => by rw [hc.2 h2] at h; simp at h
          simp only [upd, newOpen, if_pos hk]
      · subst he
        exact Ok.row rfl (set_self hjl _) (Ok.gh (Ok.done (.inr ⟨t.1, _, x, hb, rfl⟩)))
    · refine ceq3 (Ok.call (ok148 _) fun kf hkf => ?_)
      subst kf
      refine Ok.cnd (R := fun c => (c = true ↔ ¬ ((3 : Int) = 1 ∨ keyOf 3 b ∈ x.fOpen))) ?_ fun c hc => ?_
      · refine Ok.br (fun _ => Ok.row rfl (set_self hjl _) (Ok.call (ok88 _ _ hxo) fun c hc => Ok.done ?_)) (fun h => by simp at h)
        simp only [show ¬ ((3 : Int) = 1) from by omega, false_or, ← hc]
        cases c <;> simp
      refine Ok.bind (R := fun e => e = t.1.set (0 + t.2.toNat) (upd ⟨3, 3, tm, hp, ho, lo, hi, now, l⟩ b x)) ?_ fun e he => ?_
      · refine Ok.br (fun h => ?_) (fun h => Ok.done ?_)
        · refine Ok.rowt (set_self hjl _) (Ok.re (Ok.app (by simp; omega) (Ok.nst0 (by simp; omega) (Ok.gh (Ok.rowg (set_self (by simp; omega) _) (Ok.hrow (by simp; omega) (Ok.hrow (by simp; omega) (Ok.chk ?_ (Ok.nst1 (by simp; omega) ?_ (Ok.gh (Ok.done ?_)))))))))))
          · rw [maxL _ (by simp; omega)]; simp; omega
          · rw [maxL _ (by simp; omega)]; simp; omega
          · rw [maxL _ (by simp; omega), List.set_set, List.set_set, Int.toNat_natCast]
            simp only [upd, newOpen, if_neg (hc.1 h), List.length_append, List.length_singleton]
        · have hk := Classical.byContradiction fun h2 => by rw [hc.2 h2] at h; simp at h
          simp only [upd, newOpen, if_pos hk]
      · subst he
        exact Ok.row rfl (set_self hjl _) (Ok.gh (Ok.done (.inr ⟨t.1, _, x, hb, rfl⟩)))

theorem ok58_1 (n : SNat) (a b : SAddr) (hm : 1 ≤ n.fMapping ∧ n.fMapping ≤ 3) (hf : 1 ≤ n.fFilter ∧ n.fFilter ≤ 3) (hd : Ports n) (hl : SmallN n.fTable) :
    SOk (s58_1 a b n.fMapping n.fFilter n.fTimeout n.fHairpin n.fHost n.fLow n.fHigh n.fNow n.fTable) (Out1 n a b) := by
  obtain ⟨m, f, tm, hp, ho, lo, hi, now, l⟩ := n
  simp only at hm hf hl
  have hm3 : m = 1 ∨ m = 2 ∨ m = 3 := by omega
  rcases hm3 with rfl | rfl | rfl
  · exact ok58_1m f tm hp ho lo hi now l a b hf hd hl
  · exact ok58_2m f tm hp ho lo hi now l a b hf hd hl
  · exact ok58_3m f tm hp ho lo hi now l a b hf hd hl

theorem ports_of {n : SNat} (h : Valid n) (now : Int) : Ports (atT n now) := h.1.2.2.2.2.1

theorem ok25 (n : SNat) (now : Int) (a b : SAddr) (hl : SmallN n.fTable) : SOk (s25 n now a b) (OutQ n now a b) := by
  show Ok (g25 n now a b) _
  unfold g25 OutQ
  refine Ok.call2 (ok56_1 n now [a, b] hl (by simp)) (fun e he => ?_) (fun t ht => ?_)
  · have he' : (e = 130 ∧ ¬ Valid n) ∨ (e = 2 ∧ Valid n ∧ ¬ Time n now [a, b]) := by
      rcases he with ⟨h1, h2⟩ | ⟨h1, h2, h3⟩ | ⟨_, _, h3⟩
      · simp at h2; exact .inl ⟨h2, h1⟩
      · simp at h3; exact .inr ⟨h3, h1, h2⟩
      · simp at h3
    have hne : e ≠ 0 := by rcases he' with h | h <;> omega
    refine Ok.cnd (R := fun c => c = false) ?_ fun c hc => ?_
    · refine Ok.br (fun h => absurd (by simpa using h) hne) (fun _ => Ok.done rfl)
    · refine Ok.bind (R := fun x => x = e) (Ok.br (fun h => by rw [hc] at h; simp at h) (fun _ => Ok.done rfl)) fun x hx => ?_
      subst hx
      refine Ok.br (fun _ => Ok.done ?_) (fun h => absurd (by simpa using h) hne)
      rcases he' with ⟨rfl, h1⟩ | ⟨rfl, h1, h2⟩
      · exact .inl ⟨h1, rfl⟩
      · exact .inr (.inl ⟨h1, fun h => h2 h.1, rfl⟩)
  · rcases ht with ⟨_, h2⟩ | ⟨_, _, h3⟩ | ⟨hv, htm, h3⟩
    · simp at h2
    · simp at h3
    simp at h3; subst h3
    refine Ok.bind (R := fun x => x = if a.fHost = n.fHost then 2 else 0) ?_ fun x hx => ?_
    · refine Ok.br (fun h => Ok.done ?_) (fun h => Ok.done ?_)
      · simp at h; simp [h]
      · simp at h; simp [h]
    · refine Ok.br (fun h => Ok.done ?_) (fun h => ?_)
      · by_cases hh : a.fHost = n.fHost
        · rw [if_pos hh] at hx; subst hx
          exact .inr (.inl ⟨hv, fun h => h.2 hh, rfl⟩)
        · rw [if_neg hh] at hx; subst hx; simp at h
      · have hh : a.fHost ≠ n.fHost := fun hh => by rw [if_pos hh] at hx; subst hx; simp at h
        refine Ok.call (ok58_1 (atT n now) a b hv.1.1 hv.1.2.1 (ports_of hv now) (smallN_keep hl now)) fun q hq => ?_
        rcases hq with ⟨h1, rfl⟩ | ⟨t, j, x, h1, rfl⟩
        · exact Ok.br (fun _ => Ok.done (.inr (.inr ⟨hv, ⟨htm, hh⟩, .inl ⟨h1, rfl⟩⟩))) (fun h => by simp at h)
        · exact Ok.br (fun h => by simp at h) (fun _ => Ok.gh (Ok.done (.inr (.inr ⟨hv, ⟨htm, hh⟩, .inr ⟨t, j, x, h1, rfl⟩⟩))))

theorem valid_open {n : SNat} (h : Valid n) {x : SBinding} (hx : x ∈ n.fTable) : x.fOpen.length ≤ 16 := by
  obtain ⟨i, hi⟩ := List.mem_iff_getElem?.1 hx
  rcases (h.2 i x hi).2.1 with ⟨_, h1⟩ | ⟨_, _, h1, _⟩ <;> omega

theorem ok26 (n : SNat) (now : Int) (a b : SAddr) (hl : SmallN n.fTable) : SOk (s26 n now a b) (OutQ n now a b) := by
  show Ok (g26 n now a b) _
  unfold g26 OutQ
  refine Ok.view (ok18 n now [a, b] hl (by simp)) fun e he => ?_
  refine Ok.br (fun h => Ok.done ?_) (fun h => ?_)
  · rcases he with ⟨h1, h2⟩ | ⟨h1, h2, h3⟩ | ⟨_, _, h3⟩
    · subst h2; exact .inl ⟨h1, rfl⟩
    · subst h3; exact .inr (.inl ⟨h1, fun h => h2 h.1, rfl⟩)
    · subst h3; simp at h
  · rcases he with ⟨h1, h2⟩ | ⟨h1, h2, h3⟩ | ⟨hv, htm, h3⟩
    · subst h2; simp at h
    · subst h3; simp at h
    refine Ok.br (fun h2 => Ok.done ?_) (fun h2 => ?_)
    · simp at h2; exact .inr (.inl ⟨hv, fun h => h.2 h2, rfl⟩)
    · have hh : a.fHost ≠ n.fHost := by simpa using h2
      refine Ok.call (ok21 n now hl) fun l hll => ?_
      have hls : SmallN l := by rw [hll]; exact smallN_keep hl now
      have hl1 := hls.1
      have hat : atT n now = ⟨n.fMapping, n.fFilter, n.fTimeout, n.fHairpin, n.fHost, n.fLow, n.fHigh, now, l⟩ := by rw [hll]; rfl
      rw [hat]
      have hd : Ports ⟨n.fMapping, n.fFilter, n.fTimeout, n.fHairpin, n.fHost, n.fLow, n.fHigh, now, l⟩ := hv.1.2.2.2.2.1
      have ho16 : ∀ y, y ∈ l → y.fOpen.length ≤ 16 := fun y hy => valid_open hv (by rw [hll] at hy; exact keep_mem hy)
      refine Ok.bind (R := FindQ l fun x => x.fInside = a ∧ x.fPeer = keyOf n.fMapping b) ?_ fun e he => ?_
      · refine Ok.lp (fun t => (0 ≤ t.2 ∧ t.2 ≤ (l.length : Int)) ∧ ((t.1 < 0 ∧ ∀ j, j < t.2.toNat → ∀ x, l[j]? = some x → ¬ (x.fInside = a ∧ x.fPeer = keyOf n.fMapping b)) ∨ (0 ≤ t.1 ∧ ∃ x, l[t.1.toNat]? = some x ∧ x.fInside = a ∧ x.fPeer = keyOf n.fMapping b))) (fun t => l.length - t.2.toNat) ⟨⟨by simp, by simp⟩, .inl ⟨by simp, by simp⟩⟩ (fuel (by simp; omega)) fun t ht => ?_
        obtain ⟨p, i⟩ := t
        obtain ⟨⟨h0, h1⟩, h3⟩ := ht
        simp only at h0 h1 h3
        refine Ok.br (fun hc => ?_) (fun hc => Ok.done ?_)
        · rw [decide_eq_true_eq] at hc
          simp only at hc
          obtain ⟨y, hy⟩ := at_of h0 hc
          have hy0 : l[0 + i.toNat]? = some y := by rw [Nat.zero_add]; exact hy
          refine Ok.cnd (R := fun c => (c = true ↔ y.fInside = a ∧ y.fPeer = keyOf n.fMapping b)) ?_ fun c hcc => ?_
          · refine Ok.chk (by simp; omega) (Ok.row rfl hy0 (Ok.br (fun h4 => Ok.chk (by simp; omega) (Ok.row rfl hy0 (Ok.call (ok59 _ _) fun k hk => Ok.done ?_))) (fun h4 => Ok.done ?_)))
            · rw [eA_iff] at h4
              have hk2 : k = keyOf n.fMapping b := hk
              rw [eA_iff, hk2]; simp [h4]
            · constructor
              · intro h5; simp at h5
              · intro h5; rw [eA_iff.2 h5.1] at h4; simp at h4
          · refine Ok.br (fun h4 => Ok.done ?_) (fun h4 => Ok.done ?_)
            · simp only; rw [wi64_succ h0 hc hl1]
              exact ⟨⟨⟨by simp only; omega, by simp only; omega⟩, .inr ⟨h0, y, hy, hcc.1 h4⟩⟩, by simp only; omega⟩
            · simp only; rw [wi64_succ h0 hc hl1]
              refine ⟨⟨⟨by simp only; omega, by simp only; omega⟩, ?_⟩, by simp only; omega⟩
              rcases h3 with ⟨h5, h6⟩ | h5
              · refine .inl ⟨h5, ?_⟩
                simp only
                rw [toNat_succ h0]
                refine upto_succ h6 fun x hx hm => ?_
                rw [hy] at hx; simp only [Option.some.injEq] at hx; subst hx
                rw [hcc.2 hm] at h4; simp at h4
              · exact .inr h5
        · rw [decide_eq_false_iff_not] at hc
          simp only at hc
          rcases h3 with ⟨h5, h6⟩ | h5
          · refine .inr ⟨h5, fun x hx => ?_⟩
            obtain ⟨j, hj⟩ := List.mem_iff_getElem?.1 hx
            exact h6 j (by have := (List.getElem?_eq_some_iff.1 hj).1; omega) x hj
          · exact .inl h5
      · refine Ok.bind2 (R := fun q => match q with | .inl _ => NoBase ⟨n.fMapping, n.fFilter, n.fTimeout, n.fHairpin, n.fHost, n.fLow, n.fHigh, now, l⟩ a b | .inr t => ∃ x, 0 ≤ t.2 ∧ Base ⟨n.fMapping, n.fFilter, n.fTimeout, n.fHairpin, n.fHost, n.fLow, n.fHigh, now, l⟩ a b t.1 (0 + t.2.toNat) x) ?_ (fun _ hq => Ok.done (.inr (.inr ⟨hv, ⟨htm, hh⟩, .inl ⟨hq, rfl⟩⟩))) (fun t ht => ?_)
        · refine Ok.br (fun h3 => ?_) (fun h3 => Ok.gh (Ok.done ?_))
          · rcases he with ⟨h0, _⟩ | ⟨_, hnone⟩
            · simp at h3; omega
            · refine Ok.view (ok60 ⟨n.fMapping, n.fFilter, n.fTimeout, n.fHairpin, n.fHost, n.fLow, n.fHigh, now, l⟩ _ hl1 hd) fun r hr => ?_
              obtain ⟨o, ho, hr1, hr2⟩ := hr
              refine Ok.br (fun h1 => Ok.done ?_) (fun h1 => Ok.call (ok59 _ _) fun k hk => Ok.app ?_ (Ok.gh (Ok.done ?_)))
              · have : o = none := hr2.1 (by simpa using h1)
                subst this; exact ⟨hnone, ho⟩
              · simp; omega
              · cases o with
                | none => have := hr2.2 rfl; subst this; simp at h1
                | some p =>
                  simp only [Option.getD_some] at hr1
                  subst hr1
                  have hk2 : k = keyOf n.fMapping b := hk
                  subst hk2
                  exact ⟨_, by simp, .inr ⟨hnone, r, ho, rfl, rfl, by simp⟩⟩
          · rcases he with ⟨h0, x, hx, hxx⟩ | ⟨h0, _⟩
            · exact ⟨x, h0, .inl ⟨rfl, by rw [Nat.zero_add]; exact hx, hxx.1, hxx.2⟩⟩
            · simp at h3; omega
        · obtain ⟨x, h0, hb⟩ := ht
          have hx := hb.at
          have hjl := (List.getElem?_eq_some_iff.1 hx).1
          have hlen := hb.len
          simp only at hlen
          have hxo : x.fOpen.length ≤ 16 := base_open hb ho16
          refine Ok.chk (by simp; omega) (Ok.rowt hx (Ok.re ?_))
          refine Ok.cnd (R := fun c => (c = true ↔ ¬ (n.fFilter = 1 ∨ keyOf n.fFilter b ∈ x.fOpen))) ?_ fun c hc => ?_
          · refine Ok.br (fun h3 => Ok.call (ok59 _ _) fun k hk => Ok.view (ok61 _ _ (by show x.fOpen.length ≤ _; omega)) fun c hcc => Ok.done ?_) (fun h3 => Ok.done ?_)
            · have hk2 : k = keyOf n.fFilter b := hk
              subst hk2
              simp at h3
              simp only [h3, false_or, ← hcc]
              cases c <;> simp
            · simp at h3; simp [h3]
          · refine Ok.bind (R := fun o => o = newOpen ⟨n.fMapping, n.fFilter, n.fTimeout, n.fHairpin, n.fHost, n.fLow, n.fHigh, now, l⟩ b x.fOpen) ?_ fun o ho => ?_
            · refine Ok.br (fun h3 => Ok.call (ok59 _ _) fun k hk => Ok.app (by simp; omega) ?_) (fun h3 => Ok.gh (Ok.done ?_))
              · have hk2 : k = keyOf n.fFilter b := hk
                subst hk2
                refine Ok.br (fun hcc => ?_) (fun hcc => Ok.gh (Ok.done ?_))
                · refine Ok.chk (by simp; omega) (Ok.cutg (by simp) (Ok.gh (Ok.gh (Ok.done ?_))))
                  simp at hcc
                  simp only [newOpen, if_neg (hc.1 h3)]
                  congr 1; omega
                · simp at hcc
                  simp only [newOpen, if_neg (hc.1 h3)]
                  rw [show x.fOpen.length + 1 - 16 = 0 from by omega, List.drop_zero]
              · have hk := Classical.byContradiction fun h2 => by rw [hc.2 h2] at h3; simp at h3
                simp only [newOpen, if_pos hk]
            · subst ho
              exact Ok.chk (by simp; omega) (Ok.nst0 hjl (Ok.gh (Ok.gh (Ok.done (.inr (.inr ⟨hv, ⟨htm, hh⟩, .inr ⟨t.1, _, x, hb, rfl⟩⟩))))))

end Go.Proofs.YtdiagiflihpidaaDoor
