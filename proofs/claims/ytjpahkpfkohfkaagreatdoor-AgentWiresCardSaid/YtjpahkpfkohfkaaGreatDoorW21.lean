/- wakes' calls, one by one, by the kernel; wakes says yes ..; no conditions. -/
import Derived.Test.YtjpahkpfkohfkaaGreatDoorW11
import Derived.Test.YtjpahkpfkohfkaaGreatDoorW20
import Derived.KernelRfl
set_option linter.unusedVariables false
set_option linter.unusedSimpArgs false
set_option maxRecDepth 1000000
namespace Go.Proofs.YtjpahkpfkohfkaaGreatDoor
open Go Go.EV
def v1:J7×Int:=((J7.mk (H6.mk true [(Q6.mk 1 1 2113929727 (bs [49,45,48,97,48,48,48,48,48,49,45]) (Z4.mk (bs [10,0,0,1]) 1) (Z4.mk (bs [10,0,0,1]) 1))] [(Q6.mk 1 1 2113929727 (bs [49,45,48,97,48,48,48,48,48,50,45]) (Z4.mk (bs [10,0,0,2]) 1) (Z4.mk (bs [10,0,0,2]) 1))] [(Z2.mk 0 0 9079259047735067646 1)]) 9 0 0 0 (-1) [] [false] []),0)
theorem q1:(s27).o=some v1:=by kernel_rfl
def v2:J7×Int:=((J7.mk (H6.mk false [(Q6.mk 1 1 2113929727 (bs [49,45,48,97,48,48,48,48,48,50,45]) (Z4.mk (bs [10,0,0,2]) 1) (Z4.mk (bs [10,0,0,2]) 1))] [(Q6.mk 1 1 2113929727 (bs [49,45,48,97,48,48,48,48,48,49,45]) (Z4.mk (bs [10,0,0,1]) 1) (Z4.mk (bs [10,0,0,1]) 1))] [(Z2.mk 0 0 9079259047735067646 1)]) 5 0 0 0 (-1) [] [false] []),0)
theorem q2:(s28).o=some v2:=by kernel_rfl
def v3:Int×Int:=(0,0)
theorem q3:(s11 v1.1).o=some v3:=by kernel_rfl
def v4:J7×List H0×Int:=((J7.mk (H6.mk true [(Q6.mk 1 1 2113929727 (bs [49,45,48,97,48,48,48,48,48,49,45]) (Z4.mk (bs [10,0,0,1]) 1) (Z4.mk (bs [10,0,0,1]) 1))] [(Q6.mk 1 1 2113929727 (bs [49,45,48,97,48,48,48,48,48,50,45]) (Z4.mk (bs [10,0,0,2]) 1) (Z4.mk (bs [10,0,0,2]) 1))] [(Z2.mk 0 0 9079259047735067646 2)]) 9 0 50 1 (-1) [] [false] [(Z7.mk 0 0 200 1 false true)]),([(H0.mk (Z4.mk (bs [10,0,0,1]) 1) (Z4.mk (bs [10,0,0,2]) 1) (SProbe.mk 1 0 1845494271 true 9 false (Z4.mk (bs []) 0)))],0))
theorem q4:(s12 v1.1 0).o=some v4:=by kernel_rfl
def v5:H0:=(H0.mk (Z4.mk (bs [10,0,0,1]) 1) (Z4.mk (bs [10,0,0,2]) 1) (SProbe.mk 1 0 1845494271 true 9 false (Z4.mk (bs []) 0)))
theorem q5:(s29).o=some v5:=by kernel_rfl
def v6:J7×List H0×Int:=((J7.mk (H6.mk false [(Q6.mk 1 1 2113929727 (bs [49,45,48,97,48,48,48,48,48,50,45]) (Z4.mk (bs [10,0,0,2]) 1) (Z4.mk (bs [10,0,0,2]) 1))] [(Q6.mk 1 1 2113929727 (bs [49,45,48,97,48,48,48,48,48,49,45]) (Z4.mk (bs [10,0,0,1]) 1) (Z4.mk (bs [10,0,0,1]) 1))] [(Z2.mk 0 0 9079259047735067646 1)]) 5 5 0 0 (-1) [0] [false] []),([(H0.mk (Z4.mk (bs [10,0,0,2]) 1) (Z4.mk (bs [10,0,0,1]) 1) (SProbe.mk 2 0 0 false 0 false (Z4.mk (bs [10,0,0,1]) 1)))],0))
theorem q6:(s17 v2.1 5 v5).o=some v6:=by kernel_rfl
def v7:Q6:=(Q6.mk 1 1 2113929727 (bs [49,45,48,97,48,48,48,48,48,50,45]) (Z4.mk (bs [10,0,0,2]) 1) (Z4.mk (bs [10,0,0,2]) 1))
theorem q7:(s30 2).o=some v7:=by kernel_rfl
def v8:Q6:=(Q6.mk 1 1 2113929727 (bs [49,45,48,97,48,48,48,48,48,49,45]) (Z4.mk (bs [10,0,0,1]) 1) (Z4.mk (bs [10,0,0,1]) 1))
theorem q8:(s30 1).o=some v8:=by kernel_rfl
def v9:Q6:=(Q6.mk 1 1 2113929727 (bs [49,45,48,97,48,48,48,48,48,49,45]) (Z4.mk (bs [10,0,0,1]) 1) (Z4.mk (bs [10,0,0,1]) 1))
theorem q9:(s30 1).o=some v9:=by kernel_rfl
def v10:J7×List H0×Int:=((J7.mk (H6.mk true [(Q6.mk 1 1 2113929727 (bs [49,45,48,97,48,48,48,48,48,49,45]) (Z4.mk (bs [10,0,0,1]) 1) (Z4.mk (bs [10,0,0,1]) 1))] [(Q6.mk 1 1 2113929727 (bs [49,45,48,97,48,48,48,48,48,50,45]) (Z4.mk (bs [10,0,0,2]) 1) (Z4.mk (bs [10,0,0,2]) 1))] [(Z2.mk 0 0 9079259047735067646 3)]) 9 10 50 1 (-1) [0] [true] []),([],0))
theorem q10:(s17 v4.1 10 (H0.mk v7.fJ v8.fJ (SProbe.mk 2 0 0 false 0 false v9.fJ))).o=some v10:=by kernel_rfl
def v11:Int×Int:=(2,0)
theorem q11:(s14 v10.1).o=some v11:=by kernel_rfl
def v12:H0:=(H0.mk (Z4.mk (bs [10,0,0,1]) 1) (Z4.mk (bs [10,0,0,2]) 1) (SProbe.mk 1 0 1845494271 true 9 false (Z4.mk (bs []) 0)))
theorem q12:(s29).o=some v12:=by kernel_rfl
def v13:H0:=(H0.mk (Z4.mk (bs [10,0,0,1]) 1) (Z4.mk (bs [10,0,0,2]) 1) (SProbe.mk 1 0 1845494271 true 9 false (Z4.mk (bs []) 0)))
theorem q13:(s29).o=some v13:=by kernel_rfl
def v14:Bool:=true
theorem q14:(s31 v4.2.1 [v13]).o=some v14:=by kernel_rfl
def v15:Bool:=true
theorem q15:(s31 v6.2.1 [(H0.mk v7.fJ v8.fJ (SProbe.mk 2 0 0 false 0 false v9.fJ))]).o=some v15:=by kernel_rfl
def v16:Bool:=true
theorem q16:(s32 v6.1.fT [0]).o=some v16:=by kernel_rfl
def v17:H0:=(H0.mk (Z4.mk (bs [10,0,0,1]) 1) (Z4.mk (bs [10,0,0,2]) 1) (SProbe.mk 1 0 1845494271 true 9 false (Z4.mk (bs []) 0)))
theorem q17:(s29).o=some v17:=by kernel_rfl
def v18:Int:=0
theorem q18:(s13 v4.1).o=some v18:=by kernel_rfl
def v19:Int:=111
theorem q19:(s13 (J7.mk (H6.mk false [] [] []) 0 0 0 0 0 [] [] [])).o=some v19:=by kernel_rfl
theorem okWAKES:SOk s8 (λr=>r=true):=by
 unfold s8
 refine SOk.fn ?_
 unfold g8
 refine Ok.c (SOk.o q1) λr hr=>?_
 subst hr
 refine Ok.c (SOk.o q2) λr hr=>?_
 subst hr
 refine Ok.c (SOk.o q3) λr hr=>?_
 subst hr
 refine Ok.c (SOk.o q4) λr hr=>?_
 subst hr
 refine Ok.c (SOk.o q5) λr hr=>?_
 subst hr
 refine Ok.c (SOk.o q6) λr hr=>?_
 subst hr
 refine Ok.c (SOk.o q7) λr hr=>?_
 subst hr
 refine Ok.c (SOk.o q8) λr hr=>?_
 subst hr
 refine Ok.c (SOk.o q9) λr hr=>?_
 subst hr
 refine Ok.c (SOk.o q10) λr hr=>?_
 subst hr
 refine Ok.c (SOk.o q11) λr hr=>?_
 subst hr
 refine Ok.c (SOk.o q12) λr hr=>?_
 subst hr
 refine Ok.c (s:=s19 wkP wkK) wk_wire λr hr=>?_
 subst hr
 refine Ok.c (s:=s20 (wireS wkP wkK) wkK) wk_un λr hr=>?_
 subst hr
 refine Ok.c (s:=s20 (wireS wkP wkK) wkO) wk_no λy hy=>?_
 refine Ok.n (R:=λc=>c=true) ?_ λc hc=>Ok.d hc
 refine Ok.t rfl (Ok.t rfl (Ok.t rfl (Ok.t rfl (Ok.t rfl ?_))))
 refine Ok.c (SOk.o q13) λr hr=>?_
 subst hr
 refine Ok.v (SOk.o q14) λr hr=>?_
 subst hr
 refine Ok.t rfl (Ok.t rfl ?_)
 refine Ok.v (SOk.o q15) λr hr=>?_
 subst hr
 refine Ok.t rfl ?_
 refine Ok.v (SOk.o q16) λr hr=>?_
 subst hr
 refine Ok.t rfl (Ok.t rfl (Ok.t (by rw[U6];rfl) (Ok.t rfl (Ok.t rfl (Ok.t rfl (Ok.t rfl ?_))))))
 refine Ok.c (SOk.o q17) λr hr=>?_
 subst hr
 refine Ok.t (by kernel_rfl) (Ok.t (by rw[hy];rfl) ?_)
 refine Ok.c (SOk.o q18) λr hr=>?_
 subst hr
 refine Ok.t rfl (Ok.c (SOk.o q19) λr hr=>?_)
 subst hr
 exact Ok.d rfl
end Go.Proofs.YtjpahkpfkohfkaaGreatDoor
