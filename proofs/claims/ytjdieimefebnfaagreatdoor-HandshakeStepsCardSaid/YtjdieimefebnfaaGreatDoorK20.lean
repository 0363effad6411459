/- What the law's own handshake comes to: the facts, by the kernel ..; no conditions. -/
import Derived.Test.YtjdieimefebnfaaGreatDoorK19
import Derived.Test.YtjdieimefebnfaaGreatDoorK18
import Derived.KernelRfl
set_option linter.unusedVariables false
set_option linter.unusedSimpArgs false
set_option maxHeartbeats 4000000
set_option maxRecDepth 100000
namespace Go.Proofs.YtjdieimefebnfaaGreatDoor
open Go Go.EV
theorem wk1:TZ (D5 wC ⟨1,1000,zd,ntZ⟩) mE [⟨1,0,IY⟩] 0=true:=by kernel_rfl
theorem wk2:TZ (D5 wS ⟨2,1000,bs [102,97,114],⟨1,0,IY⟩⟩) wS1 [⟨2,0,FM⟩] 0=true:=by kernel_rfl
theorem wk3:TZ (D5 mE ⟨2,1000,bs [120],⟨2,0,FM⟩⟩) mM [⟨1,1,Sd⟩] 0=true:=by kernel_rfl
theorem wk4:TZ (D5 wS1 ⟨2,1000,bs [102,97,114],⟨1,1,Sd⟩⟩) mW [⟨3,1,Yl⟩] 0=true:=by kernel_rfl
theorem wk5:TZ (D5 wS1 ⟨2,1000,bs [110,101,97,114],⟨1,1,Sd⟩⟩) wS9 [⟨2,1,oX⟩] 0=true:=by kernel_rfl
theorem wk9:TZ (D5 mE ⟨3,1399,zd,ntZ⟩) wC5 [] 0=true:=by kernel_rfl
theorem Qwh:TZ (D5 mE ⟨3,1400,zd,ntZ⟩) wC6 [⟨1,0,IY⟩] 0=true:=by kernel_rfl
theorem Qwu:TZ (D5 wS ⟨1,1000,zd,ntZ⟩) BC [] 8=true:=by kernel_rfl
theorem Qwj:TZ (D5 wS ⟨2,1000,zd,⟨5,2,Jb⟩⟩) BC [] 8=true:=by kernel_rfl
theorem Qwy:TZ (D5 mE ⟨2,1000,zd,⟨2,0,FM.extract 1 FM.size⟩⟩) BC [] 5=true:=by kernel_rfl
theorem wv1:Zz wA=true:=by kernel_rfl
theorem wv2:Zz wS=true:=by kernel_rfl
theorem wv3:Zz wC=true:=by kernel_rfl
theorem wv4:Ji (xS Yf YF) (K5.extract 23 55)=true:=by kernel_rfl
theorem wv5:Ji (xS Hy YF) (I0.extract 23 55)=true:=by kernel_rfl
theorem wv6:Ji (X8 Qha) K5=true:=by kernel_rfl
theorem wv7:Ji (X8 Qqt) I0=true:=by kernel_rfl
theorem wv8:O7 Qha=true:=by kernel_rfl
theorem wv9:O7 Qqt=true:=by kernel_rfl
theorem Qq9:Ji (I7 (He K5)) Da=true:=by kernel_rfl
theorem Qwq:Ji (I7 (He I0)) MB=true:=by kernel_rfl
theorem Qq8:Ji (Zo K5).fL (K5.extract 23 55)=true:=by kernel_rfl
theorem Qw9:Ji (Zo I0).fL (I0.extract 23 55)=true:=by kernel_rfl
theorem wu1:(SY (bs [7]) 32).o=some Yf:=by kernel_rfl
theorem wu2:(SY (bs [5]) 32).o=some Hy:=by kernel_rfl
theorem wu3:(SY (bs [9]) 32).o=some FW:=by kernel_rfl
theorem wu4:(SY (bs [7]++bs [1]) 16).o=some KR:=by kernel_rfl
theorem wu5:(SY (bs [7]++bs [2]) 16).o=some Uh:=by kernel_rfl
theorem wu6:(SY (bs [5]++bs [1]) 16).o=some AS:=by kernel_rfl
theorem wu7:(SY (bs [5]++bs [2]) 16).o=some WU:=by kernel_rfl
end Go.Proofs.YtjdieimefebnfaaGreatDoor
