/- Part Y23. -/
import Derived.Test.YtjdieimefebnfaaGreatDoorY22
import Derived.Test.YtjdieimefebnfaaGreatDoorTie
set_option linter.unusedVariables false
set_option linter.unusedSimpArgs false
set_option maxRecDepth 100000
namespace Go.Proofs.YtjdieimefebnfaaGreatDoor
open Go Go.EV
set_option maxHeartbeats 40000000
theorem S7{a b:Bool}(h:a=true)(k:b=true):(a&&b)=true:=by rw[h,k];rfl
theorem Qjf:joinedFacts Tryz.prog 6 Tryz.f6 Rows.handshakeStaysSpec Rows.handshakeStaysRow=true:=by
 unfold joinedFacts;refine S7 (S7 (S7 (S7 (S7 (S7 (S7 (S7 (S7 (S7 (S7 (S7 (S7 (S7 (S7 (S7 (S7 (S7 (S7 (S7 (S7 (S7 (S7 (S7 (S7 (S7 (S7 (S7 (S7 (S7 (S7 ?_ ?_) ?_) ?_) ?_) ?_) ?_) ?_) ?_) ?_) ?_) ?_) ?_) ?_) ?_) ?_) ?_) ?_) ?_) ?_) ?_) ?_) ?_) ?_) ?_) ?_) ?_) ?_) ?_) ?_) ?_) ?_;all_goals as_aux_lemma=>kernel_rfl
end Go.Proofs.YtjdieimefebnfaaGreatDoor
