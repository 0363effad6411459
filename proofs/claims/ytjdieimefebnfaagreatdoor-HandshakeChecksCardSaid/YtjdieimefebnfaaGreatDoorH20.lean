/- What the law's own handshake comes to: the facts, by the kernel ..; no conditions. -/
import Derived.Test.YtjdieimefebnfaaGreatDoorH19
import Derived.Test.YtjdieimefebnfaaGreatDoorH18
import Derived.KernelRfl
set_option linter.unusedVariables false
set_option linter.unusedSimpArgs false
set_option maxHeartbeats 4000000
set_option maxRecDepth 100000
namespace Go.Proofs.YtjdieimefebnfaaGreatDoor
open Go Go.EV
theorem wk1:Tv (D8 wC ⟨1,1000,zd,ntZ⟩) mH [⟨1,0,IY⟩] 0=true:=by kernel_rfl
theorem wk2:Tv (D8 wS ⟨2,1000,bs [102,97,114],⟨1,0,IY⟩⟩) wS1 [⟨2,0,FK⟩] 0=true:=by kernel_rfl
theorem wk3:Tv (D8 mH ⟨2,1000,bs [120],⟨2,0,FK⟩⟩) mU [⟨1,1,Sd⟩] 0=true:=by kernel_rfl
theorem wk4:Tv (D8 wS1 ⟨2,1000,bs [102,97,114],⟨1,1,Sd⟩⟩) mY [⟨3,1,Ym⟩] 0=true:=by kernel_rfl
theorem wk5:Tv (D8 wS1 ⟨2,1000,bs [110,101,97,114],⟨1,1,Sd⟩⟩) wS9 [⟨2,1,oD⟩] 0=true:=by kernel_rfl
theorem wk9:Tv (D8 mH ⟨3,1399,zd,ntZ⟩) wC5 [] 0=true:=by kernel_rfl
theorem Qwj:Tv (D8 mH ⟨3,1400,zd,ntZ⟩) wC6 [⟨1,0,IY⟩] 0=true:=by kernel_rfl
theorem Qwy:Tv (D8 wS ⟨1,1000,zd,ntZ⟩) BP [] 8=true:=by kernel_rfl
theorem Qwz:Tv (D8 wS ⟨2,1000,zd,⟨5,2,Jg⟩⟩) BP [] 8=true:=by kernel_rfl
theorem Qwq:Tv (D8 mH ⟨2,1000,zd,⟨2,0,FK.extract 1 FK.size⟩⟩) BP [] 5=true:=by kernel_rfl
theorem wv1:QB wA=true:=by kernel_rfl
theorem wv2:QB wS=true:=by kernel_rfl
theorem wv3:QB wC=true:=by kernel_rfl
theorem wv4:Jm (xS Ye YX) (K4.extract 23 55)=true:=by kernel_rfl
theorem wv5:Jm (xS Hz YX) (A7.extract 23 55)=true:=by kernel_rfl
theorem wv6:Jm (X4 Qho) K4=true:=by kernel_rfl
theorem wv7:Jm (X4 Qqt) A7=true:=by kernel_rfl
theorem wv8:O2 Qho=true:=by kernel_rfl
theorem wv9:O2 Qqt=true:=by kernel_rfl
theorem Qq9:Jm (I3 (Hm K4)) Dd=true:=by kernel_rfl
theorem Qw8:Jm (I3 (Hm A7)) MB=true:=by kernel_rfl
theorem Qq8:Jm (Za K4).fJ (K4.extract 23 55)=true:=by kernel_rfl
theorem Qw7:Jm (Za A7).fJ (A7.extract 23 55)=true:=by kernel_rfl
theorem wu1:(SZ (bs [7]) 32).o=some Ye:=by kernel_rfl
theorem wu2:(SZ (bs [5]) 32).o=some Hz:=by kernel_rfl
theorem wu3:(SZ (bs [9]) 32).o=some FH:=by kernel_rfl
theorem wu4:(SZ (bs [7]++bs [1]) 16).o=some KF:=by kernel_rfl
theorem wu5:(SZ (bs [7]++bs [2]) 16).o=some Uy:=by kernel_rfl
theorem wu6:(SZ (bs [5]++bs [1]) 16).o=some AS:=by kernel_rfl
theorem wu7:(SZ (bs [5]++bs [2]) 16).o=some WQ:=by kernel_rfl
end Go.Proofs.YtjdieimefebnfaaGreatDoor
