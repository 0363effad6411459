/- Part Y20. -/
import Derived.Test.YtjdieimefebnfaaGreatDoorY19
set_option linter.unusedVariables false
set_option linter.unusedSimpArgs false
set_option maxRecDepth 100000
set_option maxHeartbeats 4000000
namespace Go.Proofs.YtjdieimefebnfaaGreatDoor
open Go Go.EV
theorem wk1:qN (J1 wC ⟨1,1000,zg,ntZ⟩) iR [⟨1,0,OI⟩] 0=true:=by kernel_rfl
theorem wk2:qN (J1 wS ⟨2,1000,bs [102,97,114],⟨1,0,OI⟩⟩) wS1 [⟨2,0,Nu⟩] 0=true:=by kernel_rfl
theorem wk3:qN (J1 iR ⟨2,1000,bs [120],⟨2,0,Nu⟩⟩) iN [⟨1,1,BV⟩] 0=true:=by kernel_rfl
theorem wk4:qN (J1 wS1 ⟨2,1000,bs [102,97,114],⟨1,1,BV⟩⟩) iF [⟨3,1,YO⟩] 0=true:=by kernel_rfl
theorem wk5:qN (J1 wS1 ⟨2,1000,bs [110,101,97,114],⟨1,1,BV⟩⟩) wS9 [⟨2,1,pC⟩] 0=true:=by kernel_rfl
theorem wk9:qN (J1 iR ⟨3,1399,zg,ntZ⟩) wC5 [] 0=true:=by kernel_rfl
theorem Qx0:qN (J1 iR ⟨3,1400,zg,ntZ⟩) wC6 [⟨1,0,OI⟩] 0=true:=by kernel_rfl
theorem Qdv:qN (J1 wS ⟨1,1000,zg,ntZ⟩) Pb [] 8=true:=by kernel_rfl
theorem Qdt:qN (J1 wS ⟨2,1000,zg,⟨5,2,JC⟩⟩) Pb [] 8=true:=by kernel_rfl
theorem Qdc:qN (J1 iR ⟨2,1000,zg,⟨2,0,Nu.extract 1 Nu.size⟩⟩) Pb [] 5=true:=by kernel_rfl
theorem wv1:QY wA=true:=by kernel_rfl
theorem wv2:QY wS=true:=by kernel_rfl
theorem wv3:QY wC=true:=by kernel_rfl
theorem wv4:JO (xS YF V2) (K8.extract 23 55)=true:=by kernel_rfl
theorem wv5:JO (xS HD V2) (I7.extract 23 55)=true:=by kernel_rfl
theorem wv6:JO (K5 Qdj) K8=true:=by kernel_rfl
theorem wv7:JO (K5 Qhn) I7=true:=by kernel_rfl
theorem wv8:G5 Qdj=true:=by kernel_rfl
theorem wv9:G5 Qhn=true:=by kernel_rfl
theorem Qh0:JO (M8 (UD K8)) Xm=true:=by kernel_rfl
theorem Qds:JO (M8 (UD I7)) EW=true:=by kernel_rfl
theorem Quv:JO (Zj K8).fI (K8.extract 23 55)=true:=by kernel_rfl
theorem Qdp:JO (Zj I7).fI (I7.extract 23 55)=true:=by kernel_rfl
theorem wu1:(Pc (bs [7]) 32).o=some YF:=by kernel_rfl
theorem wu2:(Pc (bs [5]) 32).o=some HD:=by kernel_rfl
theorem wu3:(Pc (bs [9]) 32).o=some Ny:=by kernel_rfl
theorem wu4:(Pc (bs [7]++bs [1]) 16).o=some MU:=by kernel_rfl
theorem wu5:(Pc (bs [7]++bs [2]) 16).o=some UM:=by kernel_rfl
theorem wu6:(Pc (bs [5]++bs [1]) 16).o=some Oz:=by kernel_rfl
theorem wu7:(Pc (bs [5]++bs [2]) 16).o=some Ka:=by kernel_rfl
end Go.Proofs.YtjdieimefebnfaaGreatDoor
