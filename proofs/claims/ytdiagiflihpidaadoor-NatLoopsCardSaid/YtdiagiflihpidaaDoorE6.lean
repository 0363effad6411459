/- tannoylaw13.NatOuts answers true. Conditions: a number of eight bits is one. -/
import Derived.Test.YtdiagiflihpidaaDoorE5
import Derived.Test.YtdiagiflihpidaaDoorD3
namespace Go.Proofs.YtdiagiflihpidaaDoor
open Go Go.EV
set_option maxRecDepth 100000

theorem ok17b (d : SDraft) (b : S2Tannoyref13Bend) (raw : SNat) (hb : BendsOk b) : SOk (s17 d b raw) (fun r => (SmallN r.a0.fTable ∧ r.a0.fTable.length ≤ 1000) ∧ (SmallN r.a1.fTable ∧ r.a1.fTable.length ≤ 1000) ∧ (SmallN r.a2.fTable ∧ r.a2.fTable.length ≤ 1000) ∧ (SmallN r.a3.fTable ∧ r.a3.fTable.length ≤ 1000)) := by
  show Ok (g17 d b raw) _
  unfold g17
  refine Ok.call (ok29 d) fun n h0 => Ok.call (ok35 _ _ h0 (by omega) (by omega) hb.1) fun n1 h1 => Ok.call (ok35 _ _ h0 (by omega) (by omega) hb.1) fun n2 h2 => Ok.call (ok35 _ _ h2 (by omega) (by omega) hb.2) fun n3 h3 => Ok.call (ok52 raw) fun n4 h4 => Ok.done ?_
  exact ⟨⟨h0.small (by omega) (by omega), Nat.le_trans h0.1 (by omega)⟩, ⟨h1.small (by omega) (by omega), Nat.le_trans h1.1 (by omega)⟩, ⟨h3.small (by omega) (by omega), Nat.le_trans h3.1 (by omega)⟩, ⟨h4.small (by omega) (by omega), Nat.le_trans h4.1 (by omega)⟩⟩

theorem ok4 (d : SDraft) (b : S2Tannoyref13Bend) (raw : SNat) (x : SMove1) (hb : BendsOk b) : SOk (s4 d b raw x) (fun r => r = true) := by
  show Ok (g4 d b raw x) _
  unfold g4
  refine Ok.call ok16 fun v hv => ?_
  subst hv
  refine Ok.br (fun h => by simp at h) (fun _ => ?_)
  refine Ok.call (ok17b d b raw hb) fun ns hn => ?_
  obtain ⟨h0, h1, h2, h3⟩ := hn
  refine Ok.tt ?_
  refine Ok.call (ok23 _) fun _ _ => ?_
  refine Ok.call (ok24 _) fun _ _ => ?_
  refine Ok.call (ok24 _) fun _ _ => ?_
  refine Ok.call (ok23 _) fun _ _ => ?_
  refine Ok.tt ?_
  refine Ok.tt ?_
  refine Ok.call (ok25 _ _ _ _ h0.1) fun r hr => ?_
  refine Ok.call (ok26 _ _ _ _ h0.1) fun q hq => ?_
  obtain rfl := out_eq hr hq
  refine cmp_cnd (out_small h0.1 h0.2 hr) ?_
  refine Ok.br (fun h => by simp at h) (fun _ => ?_)
  refine Ok.tt ?_
  refine Ok.gh ?_
  refine Ok.call (ok25 _ _ _ _ h0.1) fun r hr => ?_
  refine Ok.gh ?_
  refine Ok.call (ok26 _ _ _ _ h0.1) fun q hq => ?_
  obtain rfl := out_eq hr hq
  refine cmp_cnd (out_small h0.1 h0.2 hr) ?_
  refine Ok.br (fun h => by simp at h) (fun _ => ?_)
  refine Ok.ff ?_
  refine Ok.tt ?_
  refine Ok.gh ?_
  refine Ok.tt ?_
  refine Ok.gh ?_
  refine Ok.call (ok25 _ _ _ _ h0.1) fun r hr => ?_
  refine Ok.gh ?_
  refine Ok.call (ok26 _ _ _ _ h0.1) fun q hq => ?_
  obtain rfl := out_eq hr hq
  refine cmp_cnd (out_small h0.1 h0.2 hr) ?_
  refine Ok.br (fun h => by simp at h) (fun _ => ?_)
  refine Ok.tt ?_
  refine Ok.gh ?_
  refine Ok.call (ok25 _ _ _ _ h0.1) fun r hr => ?_
  refine Ok.gh ?_
  refine Ok.call (ok26 _ _ _ _ h0.1) fun q hq => ?_
  obtain rfl := out_eq hr hq
  refine cmp_cnd (out_small h0.1 h0.2 hr) ?_
  refine Ok.br (fun h => by simp at h) (fun _ => ?_)
  refine Ok.ff ?_
  refine Ok.tt ?_
  refine Ok.gh ?_
  refine Ok.tt ?_
  refine Ok.gh ?_
  refine Ok.call (ok25 _ _ _ _ h0.1) fun r hr => ?_
  refine Ok.gh ?_
  refine Ok.call (ok26 _ _ _ _ h0.1) fun q hq => ?_
  obtain rfl := out_eq hr hq
  refine cmp_cnd (out_small h0.1 h0.2 hr) ?_
  refine Ok.br (fun h => by simp at h) (fun _ => ?_)
  refine Ok.tt ?_
  refine Ok.gh ?_
  refine Ok.call (ok25 _ _ _ _ h0.1) fun r hr => ?_
  refine Ok.gh ?_
  refine Ok.call (ok26 _ _ _ _ h0.1) fun q hq => ?_
  obtain rfl := out_eq hr hq
  refine cmp_cnd (out_small h0.1 h0.2 hr) ?_
  refine Ok.br (fun h => by simp at h) (fun _ => ?_)
  refine Ok.ff ?_
  refine Ok.ff ?_
  refine Ok.tt ?_
  refine Ok.gh ?_
  refine Ok.call (ok23 _) fun _ _ => ?_
  refine Ok.call (ok24 _) fun _ _ => ?_
  refine Ok.call (ok24 _) fun _ _ => ?_
  refine Ok.call (ok23 _) fun _ _ => ?_
  refine Ok.tt ?_
  refine Ok.gh ?_
  refine Ok.tt ?_
  refine Ok.gh ?_
  refine Ok.call (ok25 _ _ _ _ h1.1) fun r hr => ?_
  refine Ok.gh ?_
  refine Ok.call (ok26 _ _ _ _ h1.1) fun q hq => ?_
  obtain rfl := out_eq hr hq
  refine cmp_cnd (out_small h1.1 h1.2 hr) ?_
  refine Ok.br (fun h => by simp at h) (fun _ => ?_)
  refine Ok.tt ?_
  refine Ok.gh ?_
  refine Ok.call (ok25 _ _ _ _ h1.1) fun r hr => ?_
  refine Ok.gh ?_
  refine Ok.call (ok26 _ _ _ _ h1.1) fun q hq => ?_
  obtain rfl := out_eq hr hq
  refine cmp_cnd (out_small h1.1 h1.2 hr) ?_
  refine Ok.br (fun h => by simp at h) (fun _ => ?_)
  refine Ok.ff ?_
  refine Ok.tt ?_
  refine Ok.gh ?_
  refine Ok.tt ?_
  refine Ok.gh ?_
  refine Ok.call (ok25 _ _ _ _ h1.1) fun r hr => ?_
  refine Ok.gh ?_
  refine Ok.call (ok26 _ _ _ _ h1.1) fun q hq => ?_
  obtain rfl := out_eq hr hq
  refine cmp_cnd (out_small h1.1 h1.2 hr) ?_
  refine Ok.br (fun h => by simp at h) (fun _ => ?_)
  refine Ok.tt ?_
  refine Ok.gh ?_
  refine Ok.call (ok25 _ _ _ _ h1.1) fun r hr => ?_
  refine Ok.gh ?_
  refine Ok.call (ok26 _ _ _ _ h1.1) fun q hq => ?_
  obtain rfl := out_eq hr hq
  refine cmp_cnd (out_small h1.1 h1.2 hr) ?_
  refine Ok.br (fun h => by simp at h) (fun _ => ?_)
  refine Ok.ff ?_
  refine Ok.tt ?_
  refine Ok.gh ?_
  refine Ok.tt ?_
  refine Ok.gh ?_
  refine Ok.call (ok25 _ _ _ _ h1.1) fun r hr => ?_
  refine Ok.gh ?_
  refine Ok.call (ok26 _ _ _ _ h1.1) fun q hq => ?_
  obtain rfl := out_eq hr hq
  refine cmp_cnd (out_small h1.1 h1.2 hr) ?_
  refine Ok.br (fun h => by simp at h) (fun _ => ?_)
  refine Ok.tt ?_
  refine Ok.gh ?_
  refine Ok.call (ok25 _ _ _ _ h1.1) fun r hr => ?_
  refine Ok.gh ?_
  refine Ok.call (ok26 _ _ _ _ h1.1) fun q hq => ?_
  obtain rfl := out_eq hr hq
  refine cmp_cnd (out_small h1.1 h1.2 hr) ?_
  refine Ok.br (fun h => by simp at h) (fun _ => ?_)
  refine Ok.ff ?_
  refine Ok.ff ?_
  refine Ok.tt ?_
  refine Ok.gh ?_
  refine Ok.call (ok23 _) fun _ _ => ?_
  refine Ok.call (ok24 _) fun _ _ => ?_
  refine Ok.call (ok24 _) fun _ _ => ?_
  refine Ok.call (ok23 _) fun _ _ => ?_
  refine Ok.tt ?_
  refine Ok.gh ?_
  refine Ok.tt ?_
  refine Ok.gh ?_
  refine Ok.call (ok25 _ _ _ _ h2.1) fun r hr => ?_
  refine Ok.gh ?_
  refine Ok.call (ok26 _ _ _ _ h2.1) fun q hq => ?_
  obtain rfl := out_eq hr hq
  refine cmp_cnd (out_small h2.1 h2.2 hr) ?_
  refine Ok.br (fun h => by simp at h) (fun _ => ?_)
  refine Ok.tt ?_
  refine Ok.gh ?_
  refine Ok.call (ok25 _ _ _ _ h2.1) fun r hr => ?_
  refine Ok.gh ?_
  refine Ok.call (ok26 _ _ _ _ h2.1) fun q hq => ?_
  obtain rfl := out_eq hr hq
  refine cmp_cnd (out_small h2.1 h2.2 hr) ?_
  refine Ok.br (fun h => by simp at h) (fun _ => ?_)
  refine Ok.ff ?_
  refine Ok.tt ?_
  refine Ok.gh ?_
  refine Ok.tt ?_
  refine Ok.gh ?_
  refine Ok.call (ok25 _ _ _ _ h2.1) fun r hr => ?_
  refine Ok.gh ?_
  refine Ok.call (ok26 _ _ _ _ h2.1) fun q hq => ?_
  obtain rfl := out_eq hr hq
  refine cmp_cnd (out_small h2.1 h2.2 hr) ?_
  refine Ok.br (fun h => by simp at h) (fun _ => ?_)
  refine Ok.tt ?_
  refine Ok.gh ?_
  refine Ok.call (ok25 _ _ _ _ h2.1) fun r hr => ?_
  refine Ok.gh ?_
  refine Ok.call (ok26 _ _ _ _ h2.1) fun q hq => ?_
  obtain rfl := out_eq hr hq
  refine cmp_cnd (out_small h2.1 h2.2 hr) ?_
  refine Ok.br (fun h => by simp at h) (fun _ => ?_)
  refine Ok.ff ?_
  refine Ok.tt ?_
  refine Ok.gh ?_
  refine Ok.tt ?_
  refine Ok.gh ?_
  refine Ok.call (ok25 _ _ _ _ h2.1) fun r hr => ?_
  refine Ok.gh ?_
  refine Ok.call (ok26 _ _ _ _ h2.1) fun q hq => ?_
  obtain rfl := out_eq hr hq
  refine cmp_cnd (out_small h2.1 h2.2 hr) ?_
  refine Ok.br (fun h => by simp at h) (fun _ => ?_)
  refine Ok.tt ?_
  refine Ok.gh ?_
  refine Ok.call (ok25 _ _ _ _ h2.1) fun r hr => ?_
  refine Ok.gh ?_
  refine Ok.call (ok26 _ _ _ _ h2.1) fun q hq => ?_
  obtain rfl := out_eq hr hq
  refine cmp_cnd (out_small h2.1 h2.2 hr) ?_
  refine Ok.br (fun h => by simp at h) (fun _ => ?_)
  refine Ok.ff ?_
  refine Ok.ff ?_
  refine Ok.tt ?_
  refine Ok.gh ?_
  refine Ok.call (ok23 _) fun _ _ => ?_
  refine Ok.call (ok24 _) fun _ _ => ?_
  refine Ok.call (ok24 _) fun _ _ => ?_
  refine Ok.call (ok23 _) fun _ _ => ?_
  refine Ok.tt ?_
  refine Ok.gh ?_
  refine Ok.tt ?_
  refine Ok.gh ?_
  refine Ok.call (ok25 _ _ _ _ h3.1) fun r hr => ?_
  refine Ok.gh ?_
  refine Ok.call (ok26 _ _ _ _ h3.1) fun q hq => ?_
  obtain rfl := out_eq hr hq
  refine cmp_cnd (out_small h3.1 h3.2 hr) ?_
  refine Ok.br (fun h => by simp at h) (fun _ => ?_)
  refine Ok.tt ?_
  refine Ok.gh ?_
  refine Ok.call (ok25 _ _ _ _ h3.1) fun r hr => ?_
  refine Ok.gh ?_
  refine Ok.call (ok26 _ _ _ _ h3.1) fun q hq => ?_
  obtain rfl := out_eq hr hq
  refine cmp_cnd (out_small h3.1 h3.2 hr) ?_
  refine Ok.br (fun h => by simp at h) (fun _ => ?_)
  refine Ok.ff ?_
  refine Ok.tt ?_
  refine Ok.gh ?_
  refine Ok.tt ?_
  refine Ok.gh ?_
  refine Ok.call (ok25 _ _ _ _ h3.1) fun r hr => ?_
  refine Ok.gh ?_
  refine Ok.call (ok26 _ _ _ _ h3.1) fun q hq => ?_
  obtain rfl := out_eq hr hq
  refine cmp_cnd (out_small h3.1 h3.2 hr) ?_
  refine Ok.br (fun h => by simp at h) (fun _ => ?_)
  refine Ok.tt ?_
  refine Ok.gh ?_
  refine Ok.call (ok25 _ _ _ _ h3.1) fun r hr => ?_
  refine Ok.gh ?_
  refine Ok.call (ok26 _ _ _ _ h3.1) fun q hq => ?_
  obtain rfl := out_eq hr hq
  refine cmp_cnd (out_small h3.1 h3.2 hr) ?_
  refine Ok.br (fun h => by simp at h) (fun _ => ?_)
  refine Ok.ff ?_
  refine Ok.tt ?_
  refine Ok.gh ?_
  refine Ok.tt ?_
  refine Ok.gh ?_
  refine Ok.call (ok25 _ _ _ _ h3.1) fun r hr => ?_
  refine Ok.gh ?_
  refine Ok.call (ok26 _ _ _ _ h3.1) fun q hq => ?_
  obtain rfl := out_eq hr hq
  refine cmp_cnd (out_small h3.1 h3.2 hr) ?_
  refine Ok.br (fun h => by simp at h) (fun _ => ?_)
  refine Ok.tt ?_
  refine Ok.gh ?_
  refine Ok.call (ok25 _ _ _ _ h3.1) fun r hr => ?_
  refine Ok.gh ?_
  refine Ok.call (ok26 _ _ _ _ h3.1) fun q hq => ?_
  obtain rfl := out_eq hr hq
  refine cmp_cnd (out_small h3.1 h3.2 hr) ?_
  refine Ok.br (fun h => by simp at h) (fun _ => ?_)
  refine Ok.ff ?_
  refine Ok.ff ?_
  refine Ok.ff ?_
  exact Ok.done rfl

end Go.Proofs.YtdiagiflihpidaaDoor
