/- Closed facts of the row, each by the kernel ..; no conditions. -/
import Derived.Test.YtjdieimefebnfaaGreatDoorH22
import Derived.Test.YtjdieimefebnfaaGreatDoorTie
import Derived.JoinedOf
import Derived.KernelRfl
set_option linter.unusedVariables false
set_option linter.unusedSimpArgs false
set_option maxRecDepth 100000
namespace Go.Proofs.YtjdieimefebnfaaGreatDoor
open Go Go.EV
set_option maxHeartbeats 40000000
theorem N5{a b:Bool}(h:a=true)(k:b=true):(a&&b)=true:=by rw[h,k];rfl
theorem vY:joinedFacts Tryz.prog 7 Tryz.f7 Rows.handshakeChecksSpec Rows.handshakeChecksRow=true:=by
 unfold joinedFacts
 refine N5 (N5 (N5 (N5 (N5 (N5 (N5 (N5 (N5 (N5 (N5 (N5 (N5 (N5 (N5 (N5 (N5 (N5 (N5 (N5 (N5 (N5 (N5 (N5 (N5 (N5 (N5 (N5 (N5 (N5 (N5 ?_ ?_) ?_) ?_) ?_) ?_) ?_) ?_) ?_) ?_) ?_) ?_) ?_) ?_) ?_) ?_) ?_) ?_) ?_) ?_) ?_) ?_) ?_) ?_) ?_) ?_) ?_) ?_) ?_) ?_) ?_) ?_
 all_goals as_aux_lemma=>kernel_rfl
end Go.Proofs.YtjdieimefebnfaaGreatDoor
