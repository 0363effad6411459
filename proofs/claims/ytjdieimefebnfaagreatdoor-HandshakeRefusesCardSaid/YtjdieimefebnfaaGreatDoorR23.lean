/- Closed facts of the row, each by the kernel ..; no conditions. -/
import Derived.Test.YtjdieimefebnfaaGreatDoorR22
import Derived.Test.YtjdieimefebnfaaGreatDoorTie
import Derived.JoinedOf
import Derived.KernelRfl
set_option linter.unusedVariables false
set_option linter.unusedSimpArgs false
set_option maxRecDepth 100000
namespace Go.Proofs.YtjdieimefebnfaaGreatDoor
open Go Go.EV
set_option maxHeartbeats 40000000
theorem S8{a b:Bool}(h:a=true)(k:b=true):(a&&b)=true:=by rw[h,k];rfl
theorem Qjh:joinedFacts Tryz.prog 4 Tryz.f4 Rows.handshakeRefusesSpec Rows.handshakeRefusesRow=true:=by
 unfold joinedFacts;refine S8 (S8 (S8 (S8 (S8 (S8 (S8 (S8 (S8 (S8 (S8 (S8 (S8 (S8 (S8 (S8 (S8 (S8 (S8 (S8 (S8 (S8 (S8 (S8 (S8 (S8 (S8 (S8 (S8 (S8 (S8 ?_ ?_) ?_) ?_) ?_) ?_) ?_) ?_) ?_) ?_) ?_) ?_) ?_) ?_) ?_) ?_) ?_) ?_) ?_) ?_) ?_) ?_) ?_) ?_) ?_) ?_) ?_) ?_) ?_) ?_) ?_) ?_;all_goals as_aux_lemma=>kernel_rfl
end Go.Proofs.YtjdieimefebnfaaGreatDoor
