/- tannoylaw13.NatIns answers true. Conditions: a number of eight bits is one. -/
import Derived.Test.YtdiagiflihpidaaDoorE1
import Derived.Test.YtdiagiflihpidaaDoorD2
namespace Go.Proofs.YtdiagiflihpidaaDoor
open Go Go.EV
set_option maxRecDepth 100000

theorem ok5 (d : SDraft) (b : S2Tannoyref13Bend) (raw : SNat) (x : SMove1) (port : Int) (hb : BendsOk b) : SOk (s5 d b raw x port) (fun r => r = true) := by
  show Ok (g5 d b raw x port) _
  unfold g5
  refine Ok.call ok16 fun v hv => ?_
  subst hv
  refine Ok.br (fun h => by simp at h) (fun _ => ?_)
  refine Ok.call (ok17 d b raw hb) fun ns hn => ?_
  obtain ⟨h0, h1, h2, h3⟩ := hn
  refine Ok.tt ?_
  refine Ok.call (ok24 _) fun _ _ => ?_
  refine Ok.call (ok24 _) fun _ _ => ?_
  refine Ok.tt ?_
  refine Ok.tt ?_
  refine Ok.call (ok27 _ _ _ _ h0) fun r hr => ?_
  refine Ok.call (ok28 _ _ _ _ h0) fun q hq => ?_
  obtain rfl := in_eq hr hq
  refine cmp_cnd (in_small h0 hr) ?_
  refine Ok.br (fun h => by simp at h) (fun _ => ?_)
  refine Ok.tt ?_
  refine Ok.gh ?_
  refine Ok.call (ok27 _ _ _ _ h0) fun r hr => ?_
  refine Ok.gh ?_
  refine Ok.call (ok28 _ _ _ _ h0) fun q hq => ?_
  obtain rfl := in_eq hr hq
  refine cmp_cnd (in_small h0 hr) ?_
  refine Ok.br (fun h => by simp at h) (fun _ => ?_)
  refine Ok.ff ?_
  refine Ok.tt ?_
  refine Ok.gh ?_
  refine Ok.tt ?_
  refine Ok.gh ?_
  refine Ok.call (ok27 _ _ _ _ h0) fun r hr => ?_
  refine Ok.gh ?_
  refine Ok.call (ok28 _ _ _ _ h0) fun q hq => ?_
  obtain rfl := in_eq hr hq
  refine cmp_cnd (in_small h0 hr) ?_
  refine Ok.br (fun h => by simp at h) (fun _ => ?_)
  refine Ok.tt ?_
  refine Ok.gh ?_
  refine Ok.call (ok27 _ _ _ _ h0) fun r hr => ?_
  refine Ok.gh ?_
  refine Ok.call (ok28 _ _ _ _ h0) fun q hq => ?_
  obtain rfl := in_eq hr hq
  refine cmp_cnd (in_small h0 hr) ?_
  refine Ok.br (fun h => by simp at h) (fun _ => ?_)
  refine Ok.ff ?_
  refine Ok.tt ?_
  refine Ok.gh ?_
  refine Ok.tt ?_
  refine Ok.gh ?_
  refine Ok.call (ok27 _ _ _ _ h0) fun r hr => ?_
  refine Ok.gh ?_
  refine Ok.call (ok28 _ _ _ _ h0) fun q hq => ?_
  obtain rfl := in_eq hr hq
  refine cmp_cnd (in_small h0 hr) ?_
  refine Ok.br (fun h => by simp at h) (fun _ => ?_)
  refine Ok.tt ?_
  refine Ok.gh ?_
  refine Ok.call (ok27 _ _ _ _ h0) fun r hr => ?_
  refine Ok.gh ?_
  refine Ok.call (ok28 _ _ _ _ h0) fun q hq => ?_
  obtain rfl := in_eq hr hq
  refine cmp_cnd (in_small h0 hr) ?_
  refine Ok.br (fun h => by simp at h) (fun _ => ?_)
  refine Ok.ff ?_
  refine Ok.ff ?_
  refine Ok.tt ?_
  refine Ok.gh ?_
  refine Ok.gh ?_
  refine Ok.call (ok24 _) fun _ _ => ?_
  refine Ok.call (ok24 _) fun _ _ => ?_
  refine Ok.tt ?_
  refine Ok.gh ?_
  refine Ok.tt ?_
  refine Ok.gh ?_
  refine Ok.call (ok27 _ _ _ _ h1) fun r hr => ?_
  refine Ok.gh ?_
  refine Ok.call (ok28 _ _ _ _ h1) fun q hq => ?_
  obtain rfl := in_eq hr hq
  refine cmp_cnd (in_small h1 hr) ?_
  refine Ok.br (fun h => by simp at h) (fun _ => ?_)
  refine Ok.tt ?_
  refine Ok.gh ?_
  refine Ok.call (ok27 _ _ _ _ h1) fun r hr => ?_
  refine Ok.gh ?_
  refine Ok.call (ok28 _ _ _ _ h1) fun q hq => ?_
  obtain rfl := in_eq hr hq
  refine cmp_cnd (in_small h1 hr) ?_
  refine Ok.br (fun h => by simp at h) (fun _ => ?_)
  refine Ok.ff ?_
  refine Ok.tt ?_
  refine Ok.gh ?_
  refine Ok.tt ?_
  refine Ok.gh ?_
  refine Ok.call (ok27 _ _ _ _ h1) fun r hr => ?_
  refine Ok.gh ?_
  refine Ok.call (ok28 _ _ _ _ h1) fun q hq => ?_
  obtain rfl := in_eq hr hq
  refine cmp_cnd (in_small h1 hr) ?_
  refine Ok.br (fun h => by simp at h) (fun _ => ?_)
  refine Ok.tt ?_
  refine Ok.gh ?_
  refine Ok.call (ok27 _ _ _ _ h1) fun r hr => ?_
  refine Ok.gh ?_
  refine Ok.call (ok28 _ _ _ _ h1) fun q hq => ?_
  obtain rfl := in_eq hr hq
  refine cmp_cnd (in_small h1 hr) ?_
  refine Ok.br (fun h => by simp at h) (fun _ => ?_)
  refine Ok.ff ?_
  refine Ok.tt ?_
  refine Ok.gh ?_
  refine Ok.tt ?_
  refine Ok.gh ?_
  refine Ok.call (ok27 _ _ _ _ h1) fun r hr => ?_
  refine Ok.gh ?_
  refine Ok.call (ok28 _ _ _ _ h1) fun q hq => ?_
  obtain rfl := in_eq hr hq
  refine cmp_cnd (in_small h1 hr) ?_
  refine Ok.br (fun h => by simp at h) (fun _ => ?_)
  refine Ok.tt ?_
  refine Ok.gh ?_
  refine Ok.call (ok27 _ _ _ _ h1) fun r hr => ?_
  refine Ok.gh ?_
  refine Ok.call (ok28 _ _ _ _ h1) fun q hq => ?_
  obtain rfl := in_eq hr hq
  refine cmp_cnd (in_small h1 hr) ?_
  refine Ok.br (fun h => by simp at h) (fun _ => ?_)
  refine Ok.ff ?_
  refine Ok.ff ?_
  refine Ok.tt ?_
  refine Ok.gh ?_
  refine Ok.gh ?_
  refine Ok.call (ok24 _) fun _ _ => ?_
  refine Ok.call (ok24 _) fun _ _ => ?_
  refine Ok.tt ?_
  refine Ok.gh ?_
  refine Ok.tt ?_
  refine Ok.gh ?_
  refine Ok.call (ok27 _ _ _ _ h2) fun r hr => ?_
  refine Ok.gh ?_
  refine Ok.call (ok28 _ _ _ _ h2) fun q hq => ?_
  obtain rfl := in_eq hr hq
  refine cmp_cnd (in_small h2 hr) ?_
  refine Ok.br (fun h => by simp at h) (fun _ => ?_)
  refine Ok.tt ?_
  refine Ok.gh ?_
  refine Ok.call (ok27 _ _ _ _ h2) fun r hr => ?_
  refine Ok.gh ?_
  refine Ok.call (ok28 _ _ _ _ h2) fun q hq => ?_
  obtain rfl := in_eq hr hq
  refine cmp_cnd (in_small h2 hr) ?_
  refine Ok.br (fun h => by simp at h) (fun _ => ?_)
  refine Ok.ff ?_
  refine Ok.tt ?_
  refine Ok.gh ?_
  refine Ok.tt ?_
  refine Ok.gh ?_
  refine Ok.call (ok27 _ _ _ _ h2) fun r hr => ?_
  refine Ok.gh ?_
  refine Ok.call (ok28 _ _ _ _ h2) fun q hq => ?_
  obtain rfl := in_eq hr hq
  refine cmp_cnd (in_small h2 hr) ?_
  refine Ok.br (fun h => by simp at h) (fun _ => ?_)
  refine Ok.tt ?_
  refine Ok.gh ?_
  refine Ok.call (ok27 _ _ _ _ h2) fun r hr => ?_
  refine Ok.gh ?_
  refine Ok.call (ok28 _ _ _ _ h2) fun q hq => ?_
  obtain rfl := in_eq hr hq
  refine cmp_cnd (in_small h2 hr) ?_
  refine Ok.br (fun h => by simp at h) (fun _ => ?_)
  refine Ok.ff ?_
  refine Ok.tt ?_
  refine Ok.gh ?_
  refine Ok.tt ?_
  refine Ok.gh ?_
  refine Ok.call (ok27 _ _ _ _ h2) fun r hr => ?_
  refine Ok.gh ?_
  refine Ok.call (ok28 _ _ _ _ h2) fun q hq => ?_
  obtain rfl := in_eq hr hq
  refine cmp_cnd (in_small h2 hr) ?_
  refine Ok.br (fun h => by simp at h) (fun _ => ?_)
  refine Ok.tt ?_
  refine Ok.gh ?_
  refine Ok.call (ok27 _ _ _ _ h2) fun r hr => ?_
  refine Ok.gh ?_
  refine Ok.call (ok28 _ _ _ _ h2) fun q hq => ?_
  obtain rfl := in_eq hr hq
  refine cmp_cnd (in_small h2 hr) ?_
  refine Ok.br (fun h => by simp at h) (fun _ => ?_)
  refine Ok.ff ?_
  refine Ok.ff ?_
  refine Ok.tt ?_
  refine Ok.gh ?_
  refine Ok.gh ?_
  refine Ok.call (ok24 _) fun _ _ => ?_
  refine Ok.call (ok24 _) fun _ _ => ?_
  refine Ok.tt ?_
  refine Ok.gh ?_
  refine Ok.tt ?_
  refine Ok.gh ?_
  refine Ok.call (ok27 _ _ _ _ h3) fun r hr => ?_
  refine Ok.gh ?_
  refine Ok.call (ok28 _ _ _ _ h3) fun q hq => ?_
  obtain rfl := in_eq hr hq
  refine cmp_cnd (in_small h3 hr) ?_
  refine Ok.br (fun h => by simp at h) (fun _ => ?_)
  refine Ok.tt ?_
  refine Ok.gh ?_
  refine Ok.call (ok27 _ _ _ _ h3) fun r hr => ?_
  refine Ok.gh ?_
  refine Ok.call (ok28 _ _ _ _ h3) fun q hq => ?_
  obtain rfl := in_eq hr hq
  refine cmp_cnd (in_small h3 hr) ?_
  refine Ok.br (fun h => by simp at h) (fun _ => ?_)
  refine Ok.ff ?_
  refine Ok.tt ?_
  refine Ok.gh ?_
  refine Ok.tt ?_
  refine Ok.gh ?_
  refine Ok.call (ok27 _ _ _ _ h3) fun r hr => ?_
  refine Ok.gh ?_
  refine Ok.call (ok28 _ _ _ _ h3) fun q hq => ?_
  obtain rfl := in_eq hr hq
  refine cmp_cnd (in_small h3 hr) ?_
  refine Ok.br (fun h => by simp at h) (fun _ => ?_)
  refine Ok.tt ?_
  refine Ok.gh ?_
  refine Ok.call (ok27 _ _ _ _ h3) fun r hr => ?_
  refine Ok.gh ?_
  refine Ok.call (ok28 _ _ _ _ h3) fun q hq => ?_
  obtain rfl := in_eq hr hq
  refine cmp_cnd (in_small h3 hr) ?_
  refine Ok.br (fun h => by simp at h) (fun _ => ?_)
  refine Ok.ff ?_
  refine Ok.tt ?_
  refine Ok.gh ?_
  refine Ok.tt ?_
  refine Ok.gh ?_
  refine Ok.call (ok27 _ _ _ _ h3) fun r hr => ?_
  refine Ok.gh ?_
  refine Ok.call (ok28 _ _ _ _ h3) fun q hq => ?_
  obtain rfl := in_eq hr hq
  refine cmp_cnd (in_small h3 hr) ?_
  refine Ok.br (fun h => by simp at h) (fun _ => ?_)
  refine Ok.tt ?_
  refine Ok.gh ?_
  refine Ok.call (ok27 _ _ _ _ h3) fun r hr => ?_
  refine Ok.gh ?_
  refine Ok.call (ok28 _ _ _ _ h3) fun q hq => ?_
  obtain rfl := in_eq hr hq
  refine cmp_cnd (in_small h3 hr) ?_
  refine Ok.br (fun h => by simp at h) (fun _ => ?_)
  refine Ok.ff ?_
  refine Ok.ff ?_
  refine Ok.ff ?_
  exact Ok.done rfl

end Go.Proofs.YtdiagiflihpidaaDoor
