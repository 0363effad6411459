/- The constants of the digest, by the kernel ..; no conditions. -/
import Derived.Test.YtjpahkpfkohfkaaGreatDoorW13
import Derived.Test.YtjpahkpfkohfkaaGreatDoorW8
import Derived.Test.YtjpahkpfkohfkaaGreatDoorW7
import Derived.KernelRfl
set_option linter.unusedVariables false
set_option linter.unusedSimpArgs false
set_option maxRecDepth 1000000
namespace Go.Proofs.YtjpahkpfkohfkaaGreatDoor
open Go Go.EV
theorem made_eq:s236.o=some (1779033703,3144134277,1013904242,2773480762,1359893119,2600822924,528734635,1541459225):=by kernel_rfl
end Go.Proofs.YtjpahkpfkohfkaaGreatDoor
