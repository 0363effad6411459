/- What the law's own handshake comes to: keys and codes, by the kernel ..; no conditions. -/
import Derived.Test.YtjdieimefebnfaaGreatDoorR20
import Derived.Test.YtjdieimefebnfaaGreatDoorR19
import Derived.Test.YtjdieimefebnfaaGreatDoorR17
import Derived.KernelRfl
set_option linter.unusedVariables false
set_option linter.unusedSimpArgs false
set_option maxHeartbeats 4000000
set_option maxRecDepth 100000
namespace Go.Proofs.YtjdieimefebnfaaGreatDoor
open Go Go.EV
theorem wf1:JO (xS MH (I6.extract 23 55)) bB=true:=by kernel_rfl
theorem wf2:JO (xS YO GF) bS=true:=by kernel_rfl
theorem wf3:JO (xS HE GO) bB=true:=by kernel_rfl
theorem wf4:JO (xS IL (K9.extract 23 55)) bS=true:=by kernel_rfl
theorem wf5:JO (ZU (UM++Ko) (bB++bS)) wM1=true:=by kernel_rfl
theorem wf6:JO (ZU wM1 (nY++bs [1])) Uq=true:=by kernel_rfl
theorem wf7:JO (ZU zg Uq) wK1=true:=by kernel_rfl
theorem wf8:JO (ZU wK1 (Ks++bs [1])) wK2=true:=by kernel_rfl
theorem wf9:JO (ZU wK1 (DC++bs [1])) wK3=true:=by kernel_rfl
theorem Qdv:JO (YN (Dt++K9)) wH1=true:=by kernel_rfl
theorem Qdt:JO (ZU wK2 wH1++K9) V2=true:=by kernel_rfl
theorem Qdc:JO (YN XI) wH2=true:=by kernel_rfl
theorem Qdb:JO (ZU wK3 wH2) JV=true:=by kernel_rfl
theorem Qds:JO (pA++Jm 3 YI) Dt=true:=by kernel_rfl
theorem Qup:JO (Dt++Jm 4 V2) XI=true:=by kernel_rfl
theorem Qur:JO (XI++Jm 5 JV) qB=true:=by kernel_rfl
theorem Qun:JO (YI.extract 64 YI.size) I6=true:=by kernel_rfl
theorem Qug:JO (YI.extract 0 32) Ko=true:=by kernel_rfl
theorem Quf:JO (YI.extract 32 64) GF=true:=by kernel_rfl
theorem Qul:JO (V2.extract 32 V2.size) K9=true:=by kernel_rfl
theorem Qdp:T8 (QI I6) [EZ] 1000=0:=by kernel_rfl
theorem Qdr:T8 (QI K9) [DB] 1000=0:=by kernel_rfl
theorem Qdn:decide (bB=MZ\/bS=MZ)=false:=by kernel_rfl
theorem Qdg:QZ iU=true:=by kernel_rfl
theorem Qdf:QZ iY=true:=by kernel_rfl
theorem Qdl:QZ iJ=true:=by kernel_rfl
theorem Qdo:okB I6=true:=by kernel_rfl
theorem Qdi:okB K9=true:=by kernel_rfl
theorem Qda:JO (ZU wK2 wH1) (V2.extract 0 32)=true:=by kernel_rfl
end Go.Proofs.YtjdieimefebnfaaGreatDoor
