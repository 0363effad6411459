/- Closed facts of the row, each by the kernel. -/
import Derived.Test.YtjpahkpfkohfkaaGreatDoorB17
import Derived.Test.YtjpahkpfkohfkaaGreatDoorTie
import Derived.JoinedOf
import Derived.KernelRfl
set_option linter.unusedVariables false
set_option linter.unusedSimpArgs false
set_option maxHeartbeats 40000000
namespace Go.Proofs.YtjpahkpfkohfkaaGreatDoor
open Go Go.EV
set_option maxRecDepth 100000
theorem F4 {a b:Bool} (h:a=true) (k:b=true):(a&&b)=true:=by rw[h,k];rfl
theorem facts5:joinedFacts Tryz.prog 5 Tryz.f5 Rows.agentBackSpec Rows.agentBackRow=true:=by
 unfold joinedFacts
 refine F4 (F4 (F4 (F4 (F4 (F4 (F4 (F4 (F4 (F4 (F4 (F4 (F4 (F4 (F4 (F4 (F4 (F4 (F4 (F4 (F4 (F4 (F4 (F4 (F4 (F4 (F4 (F4 (F4 (F4 (F4 ?_ ?_) ?_) ?_) ?_) ?_) ?_) ?_) ?_) ?_) ?_) ?_) ?_) ?_) ?_) ?_) ?_) ?_) ?_) ?_) ?_) ?_) ?_) ?_) ?_) ?_) ?_) ?_) ?_) ?_) ?_) ?_
 all_goals as_aux_lemma=>kernel_rfl
end Go.Proofs.YtjpahkpfkohfkaaGreatDoor
