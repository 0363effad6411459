/- tannoylaw13.NatLoops answers true. Conditions: a number of eight bits is one. -/
import Derived.Test.YtdiagiflihpidaaDoorE8
import Derived.Test.YtdiagiflihpidaaDoorE6
import Derived.Test.YtdiagiflihpidaaDoorD5
namespace Go.Proofs.YtdiagiflihpidaaDoor
open Go Go.EV
set_option maxRecDepth 100000

theorem ok9 (d : SDraft) (b : S2Tannoyref13Bend) (raw : SNat) (x : SMove1) (port : Int) (hb : BendsOk b) : SOk (s9 d b raw x port) (fun r => r = true) := by
  show Ok (g9 d b raw x port) _
  unfold g9
  refine Ok.call ok16 fun v hv => ?_
  subst hv
  refine Ok.br (fun h => by simp at h) (fun _ => ?_)
  refine Ok.call (ok17b d b raw hb) fun ns hn => ?_
  obtain ⟨h0, h1, h2, h3⟩ := hn
  refine Ok.tt ?_
  refine Ok.call (ok23 _) fun _ _ => ?_
  refine Ok.call (ok23 _) fun _ _ => ?_
  refine Ok.tt ?_
  refine Ok.call (ok31 _ _ _ _ h0.1 h0.2) fun r hr => ?_
  refine Ok.call (ok32 _ _ _ _ h0.1 h0.2) fun q hq => ?_
  obtain rfl := loop_eq hr hq
  refine cmp_cnd4 (loop_small h0.1 h0.2 hr) ?_
  refine Ok.br (fun h => by simp at h) (fun _ => ?_)
  refine Ok.tt ?_
  refine Ok.gh ?_
  refine Ok.gh ?_
  refine Ok.call (ok31 _ _ _ _ h0.1 h0.2) fun r hr => ?_
  refine Ok.gh ?_
  refine Ok.call (ok32 _ _ _ _ h0.1 h0.2) fun q hq => ?_
  obtain rfl := loop_eq hr hq
  refine cmp_cnd4 (loop_small h0.1 h0.2 hr) ?_
  refine Ok.br (fun h => by simp at h) (fun _ => ?_)
  refine Ok.tt ?_
  refine Ok.gh ?_
  refine Ok.gh ?_
  refine Ok.call (ok31 _ _ _ _ h0.1 h0.2) fun r hr => ?_
  refine Ok.gh ?_
  refine Ok.call (ok32 _ _ _ _ h0.1 h0.2) fun q hq => ?_
  obtain rfl := loop_eq hr hq
  refine cmp_cnd4 (loop_small h0.1 h0.2 hr) ?_
  refine Ok.br (fun h => by simp at h) (fun _ => ?_)
  refine Ok.ff ?_
  refine Ok.tt ?_
  refine Ok.gh ?_
  refine Ok.gh ?_
  refine Ok.call (ok23 _) fun _ _ => ?_
  refine Ok.call (ok23 _) fun _ _ => ?_
  refine Ok.tt ?_
  refine Ok.gh ?_
  refine Ok.gh ?_
  refine Ok.call (ok31 _ _ _ _ h1.1 h1.2) fun r hr => ?_
  refine Ok.gh ?_
  refine Ok.call (ok32 _ _ _ _ h1.1 h1.2) fun q hq => ?_
  obtain rfl := loop_eq hr hq
  refine cmp_cnd4 (loop_small h1.1 h1.2 hr) ?_
  refine Ok.br (fun h => by simp at h) (fun _ => ?_)
  refine Ok.tt ?_
  refine Ok.gh ?_
  refine Ok.gh ?_
  refine Ok.call (ok31 _ _ _ _ h1.1 h1.2) fun r hr => ?_
  refine Ok.gh ?_
  refine Ok.call (ok32 _ _ _ _ h1.1 h1.2) fun q hq => ?_
  obtain rfl := loop_eq hr hq
  refine cmp_cnd4 (loop_small h1.1 h1.2 hr) ?_
  refine Ok.br (fun h => by simp at h) (fun _ => ?_)
  refine Ok.tt ?_
  refine Ok.gh ?_
  refine Ok.gh ?_
  refine Ok.call (ok31 _ _ _ _ h1.1 h1.2) fun r hr => ?_
  refine Ok.gh ?_
  refine Ok.call (ok32 _ _ _ _ h1.1 h1.2) fun q hq => ?_
  obtain rfl := loop_eq hr hq
  refine cmp_cnd4 (loop_small h1.1 h1.2 hr) ?_
  refine Ok.br (fun h => by simp at h) (fun _ => ?_)
  refine Ok.ff ?_
  refine Ok.tt ?_
  refine Ok.gh ?_
  refine Ok.gh ?_
  refine Ok.call (ok23 _) fun _ _ => ?_
  refine Ok.call (ok23 _) fun _ _ => ?_
  refine Ok.tt ?_
  refine Ok.gh ?_
  refine Ok.gh ?_
  refine Ok.call (ok31 _ _ _ _ h2.1 h2.2) fun r hr => ?_
  refine Ok.gh ?_
  refine Ok.call (ok32 _ _ _ _ h2.1 h2.2) fun q hq => ?_
  obtain rfl := loop_eq hr hq
  refine cmp_cnd4 (loop_small h2.1 h2.2 hr) ?_
  refine Ok.br (fun h => by simp at h) (fun _ => ?_)
  refine Ok.tt ?_
  refine Ok.gh ?_
  refine Ok.gh ?_
  refine Ok.call (ok31 _ _ _ _ h2.1 h2.2) fun r hr => ?_
  refine Ok.gh ?_
  refine Ok.call (ok32 _ _ _ _ h2.1 h2.2) fun q hq => ?_
  obtain rfl := loop_eq hr hq
  refine cmp_cnd4 (loop_small h2.1 h2.2 hr) ?_
  refine Ok.br (fun h => by simp at h) (fun _ => ?_)
  refine Ok.tt ?_
  refine Ok.gh ?_
  refine Ok.gh ?_
  refine Ok.call (ok31 _ _ _ _ h2.1 h2.2) fun r hr => ?_
  refine Ok.gh ?_
  refine Ok.call (ok32 _ _ _ _ h2.1 h2.2) fun q hq => ?_
  obtain rfl := loop_eq hr hq
  refine cmp_cnd4 (loop_small h2.1 h2.2 hr) ?_
  refine Ok.br (fun h => by simp at h) (fun _ => ?_)
  refine Ok.ff ?_
  refine Ok.tt ?_
  refine Ok.gh ?_
  refine Ok.gh ?_
  refine Ok.call (ok23 _) fun _ _ => ?_
  refine Ok.call (ok23 _) fun _ _ => ?_
  refine Ok.tt ?_
  refine Ok.gh ?_
  refine Ok.gh ?_
  refine Ok.call (ok31 _ _ _ _ h3.1 h3.2) fun r hr => ?_
  refine Ok.gh ?_
  refine Ok.call (ok32 _ _ _ _ h3.1 h3.2) fun q hq => ?_
  obtain rfl := loop_eq hr hq
  refine cmp_cnd4 (loop_small h3.1 h3.2 hr) ?_
  refine Ok.br (fun h => by simp at h) (fun _ => ?_)
  refine Ok.tt ?_
  refine Ok.gh ?_
  refine Ok.gh ?_
  refine Ok.call (ok31 _ _ _ _ h3.1 h3.2) fun r hr => ?_
  refine Ok.gh ?_
  refine Ok.call (ok32 _ _ _ _ h3.1 h3.2) fun q hq => ?_
  obtain rfl := loop_eq hr hq
  refine cmp_cnd4 (loop_small h3.1 h3.2 hr) ?_
  refine Ok.br (fun h => by simp at h) (fun _ => ?_)
  refine Ok.tt ?_
  refine Ok.gh ?_
  refine Ok.gh ?_
  refine Ok.call (ok31 _ _ _ _ h3.1 h3.2) fun r hr => ?_
  refine Ok.gh ?_
  refine Ok.call (ok32 _ _ _ _ h3.1 h3.2) fun q hq => ?_
  obtain rfl := loop_eq hr hq
  refine cmp_cnd4 (loop_small h3.1 h3.2 hr) ?_
  refine Ok.br (fun h => by simp at h) (fun _ => ?_)
  refine Ok.ff ?_
  refine Ok.ff ?_
  exact Ok.done rfl

end Go.Proofs.YtdiagiflihpidaaDoor
