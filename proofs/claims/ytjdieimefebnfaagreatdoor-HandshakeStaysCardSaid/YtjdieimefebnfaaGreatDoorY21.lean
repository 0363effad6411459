/- Part Y21. -/
import Derived.Test.YtjdieimefebnfaaGreatDoorY20
set_option linter.unusedVariables false
set_option linter.unusedSimpArgs false
set_option maxRecDepth 100000
set_option maxHeartbeats 4000000
namespace Go.Proofs.YtjdieimefebnfaaGreatDoor
open Go Go.EV
theorem wf1:JO (xS MU (I7.extract 23 55)) cM=true:=by kernel_rfl
theorem wf2:JO (xS YF Nh) cK=true:=by kernel_rfl
theorem wf3:JO (xS HD Nj) cM=true:=by kernel_rfl
theorem wf4:JO (xS Oz (K8.extract 23 55)) cK=true:=by kernel_rfl
theorem wf5:JO (ZJ (UM++Ka) (cM++cK)) wM1=true:=by kernel_rfl
theorem wf6:JO (ZJ wM1 (nL++bs [1])) JT=true:=by kernel_rfl
theorem wf7:JO (ZJ zg JT) wK1=true:=by kernel_rfl
theorem wf8:JO (ZJ wK1 (Kp++bs [1])) wK2=true:=by kernel_rfl
theorem wf9:JO (ZJ wK1 (Xe++bs [1])) wK3=true:=by kernel_rfl
theorem Qxu:JO (UD (DD++K8)) wH1=true:=by kernel_rfl
theorem Qxj:JO (ZJ wK2 wH1++K8) V0=true:=by kernel_rfl
theorem Qxy:JO (UD Aq) wH2=true:=by kernel_rfl
theorem Qxz:JO (ZJ wK3 wH2) JC=true:=by kernel_rfl
theorem Qxq:JO (sZ++Jk 3 YO) DD=true:=by kernel_rfl
theorem Qh6:JO (DD++Jk 4 V0) Aq=true:=by kernel_rfl
theorem Qh5:JO (Aq++Jk 5 JC) yF=true:=by kernel_rfl
theorem Qh4:JO (YO.extract 64 YO.size) I7=true:=by kernel_rfl
theorem Qh3:JO (YO.extract 0 32) Ka=true:=by kernel_rfl
theorem Qh2:JO (YO.extract 32 64) Nh=true:=by kernel_rfl
theorem Qh1:JO (V0.extract 32 V0.size) K8=true:=by kernel_rfl
theorem Qx9:T9 (Zj I7) [EW] 1000=0:=by kernel_rfl
theorem Qx8:T9 (Zj K8) [Xm] 1000=0:=by kernel_rfl
theorem Qx7:decide (cM=MQ\/cK=MQ)=false:=by kernel_rfl
theorem Qx6:QY iN=true:=by kernel_rfl
theorem Qx5:QY iF=true:=by kernel_rfl
theorem Qx4:QY iG=true:=by kernel_rfl
theorem Qx3:okB I7=true:=by kernel_rfl
theorem Qx2:okB K8=true:=by kernel_rfl
theorem Qx1:JO (ZJ wK2 wH1) (V0.extract 0 32)=true:=by kernel_rfl
end Go.Proofs.YtjdieimefebnfaaGreatDoor
