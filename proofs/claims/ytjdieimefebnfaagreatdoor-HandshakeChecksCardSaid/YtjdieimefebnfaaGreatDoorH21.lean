/- What the law's own handshake comes to: keys and codes, by the kernel ..; no conditions. -/
import Derived.Test.YtjdieimefebnfaaGreatDoorH20
import Derived.Test.YtjdieimefebnfaaGreatDoorH19
import Derived.Test.YtjdieimefebnfaaGreatDoorH18
import Derived.KernelRfl
set_option linter.unusedVariables false
set_option linter.unusedSimpArgs false
set_option maxHeartbeats 4000000
set_option maxRecDepth 100000
namespace Go.Proofs.YtjdieimefebnfaaGreatDoor
open Go Go.EV
theorem wf1:Jm (xS KF (A7.extract 23 55)) gX=true:=by kernel_rfl
theorem wf2:Jm (xS Ye FM) gD=true:=by kernel_rfl
theorem wf3:Jm (xS Hz FW) gX=true:=by kernel_rfl
theorem wf4:Jm (xS AS (K4.extract 23 55)) gD=true:=by kernel_rfl
theorem wf5:Jm (N2 (Uy++WQ) (gX++gD)) wM1=true:=by kernel_rfl
theorem wf6:Jm (N2 wM1 (aO++bs [1])) Jn=true:=by kernel_rfl
theorem wf7:Jm (N2 zd Jn) wK1=true:=by kernel_rfl
theorem wf8:Jm (N2 wK1 (EY++bs [1])) wK2=true:=by kernel_rfl
theorem wf9:Jm (N2 wK1 (Dx++bs [1])) wK3=true:=by kernel_rfl
theorem Qwg:Jm (Hm (EA++K4)) wH1=true:=by kernel_rfl
theorem Qwf:Jm (N2 wK2 wH1++K4) B4=true:=by kernel_rfl
theorem Qwl:Jm (Hm Xw) wH2=true:=by kernel_rfl
theorem Qwo:Jm (N2 wK3 wH2) Jg=true:=by kernel_rfl
theorem Qwi:Jm (oI++WT 3 Ym) EA=true:=by kernel_rfl
theorem Qqh:Jm (EA++WT 4 B4) Xw=true:=by kernel_rfl
theorem Qqu:Jm (Xw++WT 5 Jg) TI=true:=by kernel_rfl
theorem Qqj:Jm (Ym.extract 64 Ym.size) A7=true:=by kernel_rfl
theorem Qqy:Jm (Ym.extract 0 32) WQ=true:=by kernel_rfl
theorem Qqz:Jm (Ym.extract 32 64) FM=true:=by kernel_rfl
theorem Qqq:Jm (B4.extract 32 B4.size) K4=true:=by kernel_rfl
theorem Qwa:UR (Za A7) [MB] 1000=0:=by kernel_rfl
theorem Qwx:UR (Za K4) [Dd] 1000=0:=by kernel_rfl
theorem Qwd:decide (gX=US\/gD=US)=false:=by kernel_rfl
theorem Qwe:QB mU=true:=by kernel_rfl
theorem Qwm:QB mY=true:=by kernel_rfl
theorem Qwk:QB mJ=true:=by kernel_rfl
theorem Qww:okB A7=true:=by kernel_rfl
theorem Qwh:okB K4=true:=by kernel_rfl
theorem Qwu:Jm (N2 wK2 wH1) (B4.extract 0 32)=true:=by kernel_rfl
end Go.Proofs.YtjdieimefebnfaaGreatDoor
