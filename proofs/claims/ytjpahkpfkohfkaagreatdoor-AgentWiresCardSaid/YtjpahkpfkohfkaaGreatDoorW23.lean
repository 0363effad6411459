/- Closed facts of the row, each by the kernel ..; no conditions. -/
import Derived.Test.YtjpahkpfkohfkaaGreatDoorW22
import Derived.Test.YtjpahkpfkohfkaaGreatDoorTie
import Derived.JoinedOf
import Derived.KernelRfl
set_option linter.unusedVariables false
set_option linter.unusedSimpArgs false
set_option maxRecDepth 100000
namespace Go.Proofs.YtjpahkpfkohfkaaGreatDoor
open Go Go.EV
set_option maxHeartbeats 40000000
theorem N7{a b:Bool}(h:a=true)(k:b=true):(a&&b)=true:=by rw[h,k];rfl
theorem facts6:joinedFacts Tryz.prog 6 Tryz.f6 Rows.agentWiresSpec Rows.agentWiresRow=true:=by
 unfold joinedFacts
 refine N7 (N7 (N7 (N7 (N7 (N7 (N7 (N7 (N7 (N7 (N7 (N7 (N7 (N7 (N7 (N7 (N7 (N7 (N7 (N7 (N7 (N7 (N7 (N7 (N7 (N7 (N7 (N7 (N7 (N7 (N7 ?_ ?_) ?_) ?_) ?_) ?_) ?_) ?_) ?_) ?_) ?_) ?_) ?_) ?_) ?_) ?_) ?_) ?_) ?_) ?_) ?_) ?_) ?_) ?_) ?_) ?_) ?_) ?_) ?_) ?_) ?_) ?_
 all_goals as_aux_lemma=>kernel_rfl
end Go.Proofs.YtjpahkpfkohfkaaGreatDoor
