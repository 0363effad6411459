/- wakes' calls, one by one, by the kernel; wakes says yes ..; no conditions. -/
import Derived.Test.YtjpahkpfkohfkaaGreatDoorF13
import Derived.Test.YtjpahkpfkohfkaaGreatDoorF16
import Derived.Test.YtjpahkpfkohfkaaGreatDoorF11
import Derived.KernelRfl
set_option linter.unusedVariables false
set_option linter.unusedSimpArgs false
set_option maxRecDepth 1000000
namespace Go.Proofs.YtjpahkpfkohfkaaGreatDoor
open Go Go.EV
def v1:Y0×Int:=((Y0.mk (Y3.mk true [(Q2.mk 1 1 2113929727 (bs [49,45,48,97,48,48,48,48,48,49,45]) (Z7.mk (bs [10,0,0,1]) 1) (Z7.mk (bs [10,0,0,1]) 1))] [(Q2.mk 1 1 2113929727 (bs [49,45,48,97,48,48,48,48,48,50,45]) (Z7.mk (bs [10,0,0,2]) 1) (Z7.mk (bs [10,0,0,2]) 1))] [(Q6.mk 0 0 9079259047735067646 1)]) 9 0 0 0 (-1) [] [false] []),0)
theorem q1:(s27).o=some v1:=by kernel_rfl
def v2:Y0×Int:=((Y0.mk (Y3.mk false [(Q2.mk 1 1 2113929727 (bs [49,45,48,97,48,48,48,48,48,50,45]) (Z7.mk (bs [10,0,0,2]) 1) (Z7.mk (bs [10,0,0,2]) 1))] [(Q2.mk 1 1 2113929727 (bs [49,45,48,97,48,48,48,48,48,49,45]) (Z7.mk (bs [10,0,0,1]) 1) (Z7.mk (bs [10,0,0,1]) 1))] [(Q6.mk 0 0 9079259047735067646 1)]) 5 0 0 0 (-1) [] [false] []),0)
theorem q2:(s28).o=some v2:=by kernel_rfl
def v3:Int×Int:=(0,0)
theorem q3:(s11 v1.1).o=some v3:=by kernel_rfl
def v4:Y0×List Y6×Int:=((Y0.mk (Y3.mk true [(Q2.mk 1 1 2113929727 (bs [49,45,48,97,48,48,48,48,48,49,45]) (Z7.mk (bs [10,0,0,1]) 1) (Z7.mk (bs [10,0,0,1]) 1))] [(Q2.mk 1 1 2113929727 (bs [49,45,48,97,48,48,48,48,48,50,45]) (Z7.mk (bs [10,0,0,2]) 1) (Z7.mk (bs [10,0,0,2]) 1))] [(Q6.mk 0 0 9079259047735067646 2)]) 9 0 50 1 (-1) [] [false] [(Q8.mk 0 0 200 1 false true)]),([(Y6.mk (Z7.mk (bs [10,0,0,1]) 1) (Z7.mk (bs [10,0,0,2]) 1) (U7.mk 1 0 1845494271 true 9 false (Z7.mk (bs []) 0)))],0))
theorem q4:(s12 v1.1 0).o=some v4:=by kernel_rfl
def v5:Y6:=(Y6.mk (Z7.mk (bs [10,0,0,1]) 1) (Z7.mk (bs [10,0,0,2]) 1) (U7.mk 1 0 1845494271 true 9 false (Z7.mk (bs []) 0)))
theorem q5:(s29).o=some v5:=by kernel_rfl
def v6:Y0×List Y6×Int:=((Y0.mk (Y3.mk false [(Q2.mk 1 1 2113929727 (bs [49,45,48,97,48,48,48,48,48,50,45]) (Z7.mk (bs [10,0,0,2]) 1) (Z7.mk (bs [10,0,0,2]) 1))] [(Q2.mk 1 1 2113929727 (bs [49,45,48,97,48,48,48,48,48,49,45]) (Z7.mk (bs [10,0,0,1]) 1) (Z7.mk (bs [10,0,0,1]) 1))] [(Q6.mk 0 0 9079259047735067646 1)]) 5 5 0 0 (-1) [0] [false] []),([(Y6.mk (Z7.mk (bs [10,0,0,2]) 1) (Z7.mk (bs [10,0,0,1]) 1) (U7.mk 2 0 0 false 0 false (Z7.mk (bs [10,0,0,1]) 1)))],0))
theorem q6:(s17 v2.1 5 v5).o=some v6:=by kernel_rfl
def v7:Q2:=(Q2.mk 1 1 2113929727 (bs [49,45,48,97,48,48,48,48,48,50,45]) (Z7.mk (bs [10,0,0,2]) 1) (Z7.mk (bs [10,0,0,2]) 1))
theorem q7:(s30 2).o=some v7:=by kernel_rfl
def v8:Q2:=(Q2.mk 1 1 2113929727 (bs [49,45,48,97,48,48,48,48,48,49,45]) (Z7.mk (bs [10,0,0,1]) 1) (Z7.mk (bs [10,0,0,1]) 1))
theorem q8:(s30 1).o=some v8:=by kernel_rfl
def v9:Q2:=(Q2.mk 1 1 2113929727 (bs [49,45,48,97,48,48,48,48,48,49,45]) (Z7.mk (bs [10,0,0,1]) 1) (Z7.mk (bs [10,0,0,1]) 1))
theorem q9:(s30 1).o=some v9:=by kernel_rfl
def v10:Y0×List Y6×Int:=((Y0.mk (Y3.mk true [(Q2.mk 1 1 2113929727 (bs [49,45,48,97,48,48,48,48,48,49,45]) (Z7.mk (bs [10,0,0,1]) 1) (Z7.mk (bs [10,0,0,1]) 1))] [(Q2.mk 1 1 2113929727 (bs [49,45,48,97,48,48,48,48,48,50,45]) (Z7.mk (bs [10,0,0,2]) 1) (Z7.mk (bs [10,0,0,2]) 1))] [(Q6.mk 0 0 9079259047735067646 3)]) 9 10 50 1 (-1) [0] [true] []),([],0))
theorem q10:(s17 v4.1 10 (Y6.mk v7.fG v8.fG (U7.mk 2 0 0 false 0 false v9.fG))).o=some v10:=by kernel_rfl
def v11:Int×Int:=(2,0)
theorem q11:(s14 v10.1).o=some v11:=by kernel_rfl
def v12:Y6:=(Y6.mk (Z7.mk (bs [10,0,0,1]) 1) (Z7.mk (bs [10,0,0,2]) 1) (U7.mk 1 0 1845494271 true 9 false (Z7.mk (bs []) 0)))
theorem q12:(s29).o=some v12:=by kernel_rfl
def v13:Y6:=(Y6.mk (Z7.mk (bs [10,0,0,1]) 1) (Z7.mk (bs [10,0,0,2]) 1) (U7.mk 1 0 1845494271 true 9 false (Z7.mk (bs []) 0)))
theorem q13:(s29).o=some v13:=by kernel_rfl
def v14:Bool:=true
theorem q14:(s31 v4.2.1 [v13]).o=some v14:=by kernel_rfl
def v15:Bool:=true
theorem q15:(s31 v6.2.1 [(Y6.mk v7.fG v8.fG (U7.mk 2 0 0 false 0 false v9.fG))]).o=some v15:=by kernel_rfl
def v16:Bool:=true
theorem q16:(s32 v6.1.fN [0]).o=some v16:=by kernel_rfl
def v17:Y6:=(Y6.mk (Z7.mk (bs [10,0,0,1]) 1) (Z7.mk (bs [10,0,0,2]) 1) (U7.mk 1 0 1845494271 true 9 false (Z7.mk (bs []) 0)))
theorem q17:(s29).o=some v17:=by kernel_rfl
def v18:Int:=0
theorem q18:(s13 v4.1).o=some v18:=by kernel_rfl
def v19:Int:=111
theorem q19:(s13 (Y0.mk (Y3.mk false [] [] []) 0 0 0 0 0 [] [] [])).o=some v19:=by kernel_rfl
theorem okWAKES:SOk s8 (fun r=>r=true):=by
 unfold s8
 refine SOk.d ?_
 unfold g8
 refine Ok.c (SOk.o q1) fun r hr=>?_
 subst hr
 refine Ok.c (SOk.o q2) fun r hr=>?_
 subst hr
 refine Ok.c (SOk.o q3) fun r hr=>?_
 subst hr
 refine Ok.c (SOk.o q4) fun r hr=>?_
 subst hr
 refine Ok.c (SOk.o q5) fun r hr=>?_
 subst hr
 refine Ok.c (SOk.o q6) fun r hr=>?_
 subst hr
 refine Ok.c (SOk.o q7) fun r hr=>?_
 subst hr
 refine Ok.c (SOk.o q8) fun r hr=>?_
 subst hr
 refine Ok.c (SOk.o q9) fun r hr=>?_
 subst hr
 refine Ok.c (SOk.o q10) fun r hr=>?_
 subst hr
 refine Ok.c (SOk.o q11) fun r hr=>?_
 subst hr
 refine Ok.c (SOk.o q12) fun r hr=>?_
 subst hr
 refine Ok.c (s:=s19 wkP wkK) y19 fun r hr=>?_
 subst hr
 refine Ok.c (s:=s20 wkM wkK) y20 fun r hr=>?_
 subst hr
 refine Ok.c (s:=s20 wkM wkO) y20o fun y hy=>?_
 refine Ok.n (R:=fun c=>c=true) ?_ fun c hc=>Ok.d hc
 refine Ok.t rfl (Ok.t rfl (Ok.t rfl (Ok.t rfl (Ok.t rfl ?_))))
 refine Ok.c (SOk.o q13) fun r hr=>?_
 subst hr
 refine Ok.v (SOk.o q14) fun r hr=>?_
 subst hr
 refine Ok.t rfl (Ok.t rfl ?_)
 refine Ok.v (SOk.o q15) fun r hr=>?_
 subst hr
 refine Ok.t rfl ?_
 refine Ok.v (SOk.o q16) fun r hr=>?_
 subst hr
 refine Ok.t rfl (Ok.t rfl (Ok.t (by rw[E7];rfl) (Ok.t rfl (Ok.t rfl (Ok.t rfl (Ok.t rfl ?_))))))
 refine Ok.c (SOk.o q17) fun r hr=>?_
 subst hr
 refine Ok.t (by kernel_rfl) (Ok.t (by rw[hy];rfl) ?_)
 refine Ok.c (SOk.o q18) fun r hr=>?_
 subst hr
 refine Ok.t rfl (Ok.c (SOk.o q19) fun r hr=>?_)
 subst hr
 exact Ok.d rfl
end Go.Proofs.YtjpahkpfkohfkaaGreatDoor
