/- Closed facts of the row, each by the kernel ..; no conditions. -/
import Derived.Test.YtjdieimefebnfaaGreatDoorK22
import Derived.Test.YtjdieimefebnfaaGreatDoorTie
import Derived.JoinedOf
import Derived.KernelRfl
set_option linter.unusedVariables false
set_option linter.unusedSimpArgs false
set_option maxRecDepth 100000
namespace Go.Proofs.YtjdieimefebnfaaGreatDoor
open Go Go.EV
set_option maxHeartbeats 40000000
theorem R0{a b:Bool}(h:a=true)(k:b=true):(a&&b)=true:=by rw[h,k];rfl
theorem vY:joinedFacts Tryz.prog 3 Tryz.f3 Rows.handshakeStepsSpec Rows.handshakeStepsRow=true:=by
 unfold joinedFacts
 refine R0 (R0 (R0 (R0 (R0 (R0 (R0 (R0 (R0 (R0 (R0 (R0 (R0 (R0 (R0 (R0 (R0 (R0 (R0 (R0 (R0 (R0 (R0 (R0 (R0 (R0 (R0 (R0 (R0 (R0 (R0 ?_ ?_) ?_) ?_) ?_) ?_) ?_) ?_) ?_) ?_) ?_) ?_) ?_) ?_) ?_) ?_) ?_) ?_) ?_) ?_) ?_) ?_) ?_) ?_) ?_) ?_) ?_) ?_) ?_) ?_) ?_) ?_
 all_goals as_aux_lemma=>kernel_rfl
end Go.Proofs.YtjdieimefebnfaaGreatDoor
