/- What the law's own handshake comes to: the facts, by the kernel ..; no conditions. -/
import Derived.Test.YtjdieimefebnfaaGreatDoorR19
import Derived.Test.YtjdieimefebnfaaGreatDoorR17
import Derived.KernelRfl
set_option linter.unusedVariables false
set_option linter.unusedSimpArgs false
set_option maxHeartbeats 4000000
set_option maxRecDepth 100000
namespace Go.Proofs.YtjdieimefebnfaaGreatDoor
open Go Go.EV
theorem wk1:VV (U3 wC ⟨1,1000,zg,ntZ⟩) iH [⟨1,0,OQ⟩] 0=true:=by kernel_rfl
theorem wk2:VV (U3 wS ⟨2,1000,bs [102,97,114],⟨1,0,OQ⟩⟩) wS1 [⟨2,0,GL⟩] 0=true:=by kernel_rfl
theorem wk3:VV (U3 iH ⟨2,1000,bs [120],⟨2,0,GL⟩⟩) iU [⟨1,1,BK⟩] 0=true:=by kernel_rfl
theorem wk4:VV (U3 wS1 ⟨2,1000,bs [102,97,114],⟨1,1,BK⟩⟩) iY [⟨3,1,YI⟩] 0=true:=by kernel_rfl
theorem wk5:VV (U3 wS1 ⟨2,1000,bs [110,101,97,114],⟨1,1,BK⟩⟩) wS9 [⟨2,1,pE⟩] 0=true:=by kernel_rfl
theorem wk9:VV (U3 iH ⟨3,1399,zg,ntZ⟩) wC5 [] 0=true:=by kernel_rfl
theorem Qdx:VV (U3 iH ⟨3,1400,zg,ntZ⟩) wC6 [⟨1,0,OQ⟩] 0=true:=by kernel_rfl
theorem Qdd:VV (U3 wS ⟨1,1000,zg,ntZ⟩) PA [] 8=true:=by kernel_rfl
theorem Qde:VV (U3 wS ⟨2,1000,zg,⟨5,2,JV⟩⟩) PA [] 8=true:=by kernel_rfl
theorem Qdm:VV (U3 iH ⟨2,1000,zg,⟨2,0,GL.extract 1 GL.size⟩⟩) PA [] 5=true:=by kernel_rfl
theorem wv1:QZ wA=true:=by kernel_rfl
theorem wv2:QZ wS=true:=by kernel_rfl
theorem wv3:QZ wC=true:=by kernel_rfl
theorem wv4:JO (xS YO V4) (K9.extract 23 55)=true:=by kernel_rfl
theorem wv5:JO (xS HE V4) (I6.extract 23 55)=true:=by kernel_rfl
theorem wv6:JO (K2 Qev) K9=true:=by kernel_rfl
theorem wv7:JO (K2 Qhw) I6=true:=by kernel_rfl
theorem wv8:G1 Qev=true:=by kernel_rfl
theorem wv9:G1 Qhw=true:=by kernel_rfl
theorem Quo:JO (W9 (YN K9)) DB=true:=by kernel_rfl
theorem Qdw:JO (W9 (YN I6)) EZ=true:=by kernel_rfl
theorem Qui:JO (QI K9).fH (K9.extract 23 55)=true:=by kernel_rfl
theorem Qdh:JO (QI I6).fH (I6.extract 23 55)=true:=by kernel_rfl
theorem wu1:(BR (bs [7]) 32).o=some YO:=by kernel_rfl
theorem wu2:(BR (bs [5]) 32).o=some HE:=by kernel_rfl
theorem wu3:(BR (bs [9]) 32).o=some GI:=by kernel_rfl
theorem wu4:(BR (bs [7]++bs [1]) 16).o=some MH:=by kernel_rfl
theorem wu5:(BR (bs [7]++bs [2]) 16).o=some UM:=by kernel_rfl
theorem wu6:(BR (bs [5]++bs [1]) 16).o=some IL:=by kernel_rfl
theorem wu7:(BR (bs [5]++bs [2]) 16).o=some Ko:=by kernel_rfl
end Go.Proofs.YtjdieimefebnfaaGreatDoor
