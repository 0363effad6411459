/- What Loop and the reference's Loop say. Conditions: lists no longer than a machine holds. -/
import Derived.Test.YtdiagiflihpidaaDoorE5
import Derived.Test.YtdiagiflihpidaaDoorD4
namespace Go.Proofs.YtdiagiflihpidaaDoor
open Go Go.EV
set_option maxRecDepth 100000

abbrev LoopR := SNat × SAddr × SAddr × Int

/-- In after Out. -/
def Loop2 (now : Int) (b : SAddr) (q : SNat × SAddr × Int) (r : LoopR) : Prop :=
  ∃ p, InQ q.1 now q.2.1 b p ∧ ((p.2.2 ≠ 0 ∧ r = (nat0, addr0, addr0, p.2.2)) ∨ (p.2.2 = 0 ∧ r = (p.1, q.2.1, p.2.1, 0)))

def LoopQ (n : SNat) (now : Int) (a b : SAddr) (r : LoopR) : Prop :=
  (¬ Valid n ∧ r = (nat0, addr0, addr0, 130)) ∨ (Valid n ∧ ¬ Time n now [a, b] ∧ r = (nat0, addr0, addr0, 2)) ∨
  (Valid n ∧ Time n now [a, b] ∧ ((n.fHairpin = false ∧ r = (nat0, addr0, addr0, 4)) ∨
    (n.fHairpin = true ∧ ∃ q, OutQ n now a b q ∧ ((q.2.2 ≠ 0 ∧ r = (nat0, addr0, addr0, q.2.2)) ∨ (q.2.2 = 0 ∧ Loop2 now b q r)))))

theorem loop2_eq {now : Int} {b : SAddr} {q : SNat × SAddr × Int} {r s : LoopR} (hr : Loop2 now b q r) (hs : Loop2 now b q s) : r = s := by
  obtain ⟨p, h1, h2⟩ := hr
  obtain ⟨p', k1, k2⟩ := hs
  obtain rfl := in_eq h1 k1
  rcases h2 with ⟨h2, h3⟩ | ⟨h2, h3⟩ <;> rcases k2 with ⟨k2, k3⟩ | ⟨k2, k3⟩
  · rw [h3, k3]
  · exact absurd k2 h2
  · exact absurd h2 k2
  · rw [h3, k3]

theorem loop_eq {n : SNat} {now : Int} {a b : SAddr} {r s : LoopR} (hr : LoopQ n now a b r) (hs : LoopQ n now a b s) : r = s := by
  rcases hr with ⟨h1, h2⟩ | ⟨h1, h2, h3⟩ | ⟨h1, h2, h3⟩ <;> rcases hs with ⟨k1, k2⟩ | ⟨k1, k2, k3⟩ | ⟨k1, k2, k3⟩
  · rw [h2, k2]
  · exact absurd k1 h1
  · exact absurd k1 h1
  · exact absurd h1 k1
  · rw [h3, k3]
  · exact absurd k2 h2
  · exact absurd h1 k1
  · exact absurd h2 k2
  · rcases h3 with ⟨h4, h5⟩ | ⟨h4, q, h5, h6⟩ <;> rcases k3 with ⟨k4, k5⟩ | ⟨k4, q', k5, k6⟩
    · rw [h5, k5]
    · rw [h4] at k4; simp at k4
    · rw [h4] at k4; simp at k4
    · obtain rfl := out_eq h5 k5
      rcases h6 with ⟨h6, h7⟩ | ⟨h6, h7⟩ <;> rcases k6 with ⟨k6, k7⟩ | ⟨k6, k7⟩
      · rw [h7, k7]
      · exact absurd k6 h6
      · exact absurd h6 k6
      · exact loop2_eq h7 k7

theorem loop_small {n : SNat} {now : Int} {a b : SAddr} {r : LoopR} (hl : SmallN n.fTable) (hlt : n.fTable.length ≤ 1000) (hr : LoopQ n now a b r) : SmallN r.1.fTable := by
  rcases hr with ⟨_, h⟩ | ⟨_, _, h⟩ | ⟨_, _, ⟨_, h⟩ | ⟨_, q, h1, ⟨_, h⟩ | ⟨_, p, h2, ⟨_, h⟩ | ⟨_, h⟩⟩⟩⟩ <;> rw [h]
  · exact smallN_nat0
  · exact smallN_nat0
  · exact smallN_nat0
  · exact smallN_nat0
  · exact smallN_nat0
  · exact in_small (out_small hl hlt h1) h2

theorem ok32 (n : SNat) (now : Int) (a b : SAddr) (hl : SmallN n.fTable) (hlt : n.fTable.length ≤ 1000) : SOk (s32 n now a b) (LoopQ n now a b) := by
  show Ok (g32 n now a b) _
  unfold g32 LoopQ
  refine Ok.view (ok18 n now [a, b] hl (by simp)) fun e he => ?_
  refine Ok.br (fun h => Ok.done ?_) (fun h => ?_)
  · rcases he with ⟨h1, h2⟩ | ⟨h1, h2, h3⟩ | ⟨_, _, h3⟩
    · subst h2; exact .inl ⟨h1, rfl⟩
    · subst h3; exact .inr (.inl ⟨h1, h2, rfl⟩)
    · subst h3; simp at h
  · rcases he with ⟨h1, h2⟩ | ⟨h1, h2, h3⟩ | ⟨hv, htm, h3⟩
    · subst h2; simp at h
    · subst h3; simp at h
    refine Ok.br (fun h2 => Ok.done (.inr (.inr ⟨hv, htm, .inl ⟨by simpa using h2, rfl⟩⟩))) (fun h2 => ?_)
    have hh : n.fHairpin = true := by simpa using h2
    refine Ok.call (ok26 n now a b hl) fun q hq => ?_
    refine Ok.br (fun h4 => Ok.done (.inr (.inr ⟨hv, htm, .inr ⟨hh, q, hq, .inl ⟨by simpa using h4, rfl⟩⟩⟩))) (fun h4 => ?_)
    refine Ok.call (ok28 q.1 now q.2.1 b (out_small hl hlt hq)) fun p hp => ?_
    have h5 : q.2.2 = 0 := by simpa using h4
    refine Ok.br (fun h6 => Ok.done (.inr (.inr ⟨hv, htm, .inr ⟨hh, q, hq, .inr ⟨h5, p, hp, .inl ⟨by simpa using h6, rfl⟩⟩⟩⟩))) (fun h6 => ?_)
    exact Ok.done (.inr (.inr ⟨hv, htm, .inr ⟨hh, q, hq, .inr ⟨h5, p, hp, .inr ⟨by simpa using h6, rfl⟩⟩⟩⟩))

theorem ok31 (n : SNat) (now : Int) (a b : SAddr) (hl : SmallN n.fTable) (hlt : n.fTable.length ≤ 1000) : SOk (s31 n now a b) (LoopQ n now a b) := by
  show Ok (g31 n now a b) _
  unfold g31 LoopQ
  refine Ok.call2 (ok56_1 n now [a, b] hl (by simp)) (fun e he => ?_) (fun t ht => ?_)
  · have he' : (e = 130 ∧ ¬ Valid n) ∨ (e = 2 ∧ Valid n ∧ ¬ Time n now [a, b]) := by
      rcases he with ⟨h1, h2⟩ | ⟨h1, h2, h3⟩ | ⟨_, _, h3⟩
      · simp at h2; exact .inl ⟨h2, h1⟩
      · simp at h3; exact .inr ⟨h3, h1, h2⟩
      · simp at h3
    have hne : e ≠ 0 := by rcases he' with h | h <;> omega
    refine Ok.br (fun _ => Ok.done ?_) (fun h => absurd (by simpa using h) hne)
    rcases he' with ⟨rfl, h1⟩ | ⟨rfl, h1, h2⟩
    · exact .inl ⟨h1, rfl⟩
    · exact .inr (.inl ⟨h1, h2, rfl⟩)
  · rcases ht with ⟨_, h2⟩ | ⟨_, _, h3⟩ | ⟨hv, htm, h3⟩
    · simp at h2
    · simp at h3
    refine Ok.ff (Ok.br (fun h2 => Ok.done (.inr (.inr ⟨hv, htm, .inl ⟨by simpa using h2, rfl⟩⟩))) (fun h2 => ?_))
    have hh : n.fHairpin = true := by simpa using h2
    refine Ok.call (ok25 n now a b hl) fun q hq => ?_
    refine Ok.br (fun h4 => Ok.done (.inr (.inr ⟨hv, htm, .inr ⟨hh, q, hq, .inl ⟨by simpa using h4, rfl⟩⟩⟩))) (fun h4 => ?_)
    refine Ok.call (ok27 q.1 now q.2.1 b (out_small hl hlt hq)) fun p hp => ?_
    have h5 : q.2.2 = 0 := by simpa using h4
    refine Ok.br (fun h6 => Ok.done (.inr (.inr ⟨hv, htm, .inr ⟨hh, q, hq, .inr ⟨h5, p, hp, .inl ⟨by simpa using h6, rfl⟩⟩⟩⟩))) (fun h6 => ?_)
    exact Ok.done (.inr (.inr ⟨hv, htm, .inr ⟨hh, q, hq, .inr ⟨h5, p, hp, .inr ⟨by simpa using h6, rfl⟩⟩⟩⟩))

/-- A comparison of what is one and the same. -/
theorem cmp_cnd4 {ρ : Type} {Q : ρ → Prop} {r : LoopR} {id a1 a2 a3 a4 : Nat} {ts : List Nat} {L1 L2 : List (Nat × Nat)} {E : Bool → List V} {k : Bool → TT ρ} (hs : SmallN r.1.fTable) (hk : Ok (k false) Q) :
    Ok (.cnd id ts (.br a1 (r.2.2.2 != r.2.2.2) (.done true) (.br a2 (!((decide (r.2.1.fHost = r.2.1.fHost)) && ((r.2.1.fPort == r.2.1.fPort) && true))) (.done true) (.br a4 (!((decide (r.2.2.1.fHost = r.2.2.1.fHost)) && ((r.2.2.1.fPort == r.2.2.1.fPort) && true))) (.done true) (.call a3 (s22 r.1 r.1) L1 L2 fun c => .done (!c))))) E k) Q := by
  refine Ok.cnd (R := fun c => c = false) ?_ fun c hc => by rw [hc]; exact hk
  refine Ok.br (fun h => by simp at h) (fun _ => Ok.br (fun h => by simp at h) (fun _ => Ok.br (fun h => by simp at h) (fun _ => Ok.call (ok22 _ hs) fun c hc => Ok.done (by simp [hc]))))

end Go.Proofs.YtdiagiflihpidaaDoor
