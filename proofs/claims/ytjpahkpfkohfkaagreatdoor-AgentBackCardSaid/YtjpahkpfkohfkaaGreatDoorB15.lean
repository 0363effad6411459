/- Two codes, by the kernel. -/
import Derived.Test.YtjpahkpfkohfkaaGreatDoorB14
import Derived.KernelRfl
set_option linter.unusedVariables false
set_option linter.unusedSimpArgs false
namespace Go.Proofs.YtjpahkpfkohfkaaGreatDoor
open Go Go.EV
set_option maxRecDepth 1000000
def wkBody:ByteArray:=bs [0,1,0,56,33,18,164,66,0,0,0,0,0,0,0,0,0,0,0,0,0,36,0,4,110,0,1,255,128,42,0,8,0,0,0,0,0,0,0,9]
theorem wMac1:bAt (macF (bs [107,101,121]) wkBody) 0=3:=by kernel_rfl
theorem wMac2:bAt (macF (bs [111,116,104,101,114]) wkBody) 0=57:=by kernel_rfl
end Go.Proofs.YtjpahkpfkohfkaaGreatDoor
