/- Part X19. -/
import Derived.Test.YtjdieimefebnfaaGreatDoorX18
import Derived.Test.YtjdieimefebnfaaGreatDoorTie
set_option linter.all false
set_option maxRecDepth 100000
namespace Go.Proofs.YtjdieimefebnfaaGreatDoor
open Go Go.EV
set_option maxHeartbeats 40000000
theorem B4{a b:Bool}(h:a=true)(k:b=true):(a&&b)=true:=by rw[h,k];rfl
theorem Qje:joinedFacts Tryz.prog 5 Tryz.f5 Rows.handshakeTampersSpec Rows.handshakeTampersRow=true:=by
 unfold joinedFacts;refine B4 (B4 (B4 (B4 (B4 (B4 (B4 (B4 (B4 (B4 (B4 (B4 (B4 (B4 (B4 (B4 (B4 (B4 (B4 (B4 (B4 (B4 (B4 (B4 (B4 (B4 (B4 (B4 (B4 (B4 (B4 ?_ ?_) ?_) ?_) ?_) ?_) ?_) ?_) ?_) ?_) ?_) ?_) ?_) ?_) ?_) ?_) ?_) ?_) ?_) ?_) ?_) ?_) ?_) ?_) ?_) ?_) ?_) ?_) ?_) ?_) ?_) ?_;all_goals as_aux_lemma=>kernel_rfl
end Go.Proofs.YtjdieimefebnfaaGreatDoor
