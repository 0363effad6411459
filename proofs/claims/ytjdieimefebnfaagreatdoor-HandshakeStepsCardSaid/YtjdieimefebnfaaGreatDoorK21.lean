/- What the law's own handshake comes to: keys and codes, by the kernel ..; no conditions. -/
import Derived.Test.YtjdieimefebnfaaGreatDoorK20
import Derived.Test.YtjdieimefebnfaaGreatDoorK19
import Derived.Test.YtjdieimefebnfaaGreatDoorK18
import Derived.KernelRfl
set_option linter.unusedVariables false
set_option linter.unusedSimpArgs false
set_option maxHeartbeats 4000000
set_option maxRecDepth 100000
namespace Go.Proofs.YtjdieimefebnfaaGreatDoor
open Go Go.EV
theorem wf1:Ji (xS KR (I0.extract 23 55)) gX=true:=by kernel_rfl
theorem wf2:Ji (xS Yf FE) gD=true:=by kernel_rfl
theorem wf3:Ji (xS Hy FK) gX=true:=by kernel_rfl
theorem wf4:Ji (xS AS (K5.extract 23 55)) gD=true:=by kernel_rfl
theorem wf5:Ji (N7 (Uh++WU) (gX++gD)) wM1=true:=by kernel_rfl
theorem wf6:Ji (N7 wM1 (aF++bs [1])) Jc=true:=by kernel_rfl
theorem wf7:Ji (N7 zd Jc) wK1=true:=by kernel_rfl
theorem wf8:Ji (N7 wK1 (EJ++bs [1])) wK2=true:=by kernel_rfl
theorem wf9:Ji (N7 wK1 (Di++bs [1])) wK3=true:=by kernel_rfl
theorem Qwr:Ji (He (EI++K5)) wH1=true:=by kernel_rfl
theorem Qwn:Ji (N7 wK2 wH1++K5) B9=true:=by kernel_rfl
theorem Qwg:Ji (He Xw) wH2=true:=by kernel_rfl
theorem Qwf:Ji (N7 wK3 wH2) Jb=true:=by kernel_rfl
theorem Qwl:Ji (oO++Kq 3 Yl) EI=true:=by kernel_rfl
theorem Qqh:Ji (EI++Kq 4 B9) Xw=true:=by kernel_rfl
theorem Qqu:Ji (Xw++Kq 5 Jb) TL=true:=by kernel_rfl
theorem Qqj:Ji (Yl.extract 64 Yl.size) I0=true:=by kernel_rfl
theorem Qqy:Ji (Yl.extract 0 32) WU=true:=by kernel_rfl
theorem Qqz:Ji (Yl.extract 32 64) FE=true:=by kernel_rfl
theorem Qqq:Ji (B9.extract 32 B9.size) K5=true:=by kernel_rfl
theorem Qwo:UP (Zo I0) [MB] 1000=0:=by kernel_rfl
theorem Qwi:UP (Zo K5) [Da] 1000=0:=by kernel_rfl
theorem Qwa:decide (gX=Wj\/gD=Wj)=false:=by kernel_rfl
theorem Qwx:Zz mM=true:=by kernel_rfl
theorem Qwd:Zz mW=true:=by kernel_rfl
theorem Qwe:Zz mK=true:=by kernel_rfl
theorem Qwm:okB I0=true:=by kernel_rfl
theorem Qwk:okB K5=true:=by kernel_rfl
theorem Qww:Ji (N7 wK2 wH1) (B9.extract 0 32)=true:=by kernel_rfl
end Go.Proofs.YtjdieimefebnfaaGreatDoor
