/- wakes' calls, one by one, by the kernel; wakes says yes. -/
import Derived.Test.YtjpahkpfkohfkaaGreatDoorB11
import Derived.Test.YtjpahkpfkohfkaaGreatDoorB14
import Derived.Test.YtjpahkpfkohfkaaGreatDoorB15
import Derived.KernelRfl
set_option linter.unusedVariables false
set_option linter.unusedSimpArgs false
namespace Go.Proofs.YtjpahkpfkohfkaaGreatDoor
open Go Go.EV
set_option maxRecDepth 1000000
def v1:Y7×Int:=((Y7.mk (Y8.mk true [(Q3.mk 1 1 2113929727 (bs [49,45,48,97,48,48,48,48,48,49,45]) (Z2.mk (bs [10,0,0,1]) 1) (Z2.mk (bs [10,0,0,1]) 1))] [(Q3.mk 1 1 2113929727 (bs [49,45,48,97,48,48,48,48,48,50,45]) (Z2.mk (bs [10,0,0,2]) 1) (Z2.mk (bs [10,0,0,2]) 1))] [(Q9.mk 0 0 9079259047735067646 1)]) 9 0 0 0 (-1) [] [false] []),0)
theorem q1:(s27).o=some v1:=by kernel_rfl
def v2:Y7×Int:=((Y7.mk (Y8.mk false [(Q3.mk 1 1 2113929727 (bs [49,45,48,97,48,48,48,48,48,50,45]) (Z2.mk (bs [10,0,0,2]) 1) (Z2.mk (bs [10,0,0,2]) 1))] [(Q3.mk 1 1 2113929727 (bs [49,45,48,97,48,48,48,48,48,49,45]) (Z2.mk (bs [10,0,0,1]) 1) (Z2.mk (bs [10,0,0,1]) 1))] [(Q9.mk 0 0 9079259047735067646 1)]) 5 0 0 0 (-1) [] [false] []),0)
theorem q2:(s28).o=some v2:=by kernel_rfl
def v3:Int×Int:=(0,0)
theorem q3:(s11 v1.1).o=some v3:=by kernel_rfl
def v4:Y7×List U5×Int:=((Y7.mk (Y8.mk true [(Q3.mk 1 1 2113929727 (bs [49,45,48,97,48,48,48,48,48,49,45]) (Z2.mk (bs [10,0,0,1]) 1) (Z2.mk (bs [10,0,0,1]) 1))] [(Q3.mk 1 1 2113929727 (bs [49,45,48,97,48,48,48,48,48,50,45]) (Z2.mk (bs [10,0,0,2]) 1) (Z2.mk (bs [10,0,0,2]) 1))] [(Q9.mk 0 0 9079259047735067646 2)]) 9 0 50 1 (-1) [] [false] [(Z4.mk 0 0 200 1 false true)]),([(U5.mk (Z2.mk (bs [10,0,0,1]) 1) (Z2.mk (bs [10,0,0,2]) 1) (Y6.mk 1 0 1845494271 true 9 false (Z2.mk (bs []) 0)))],0))
theorem q4:(s12 v1.1 0).o=some v4:=by kernel_rfl
def v5:U5:=(U5.mk (Z2.mk (bs [10,0,0,1]) 1) (Z2.mk (bs [10,0,0,2]) 1) (Y6.mk 1 0 1845494271 true 9 false (Z2.mk (bs []) 0)))
theorem q5:(s29).o=some v5:=by kernel_rfl
def v6:Y7×List U5×Int:=((Y7.mk (Y8.mk false [(Q3.mk 1 1 2113929727 (bs [49,45,48,97,48,48,48,48,48,50,45]) (Z2.mk (bs [10,0,0,2]) 1) (Z2.mk (bs [10,0,0,2]) 1))] [(Q3.mk 1 1 2113929727 (bs [49,45,48,97,48,48,48,48,48,49,45]) (Z2.mk (bs [10,0,0,1]) 1) (Z2.mk (bs [10,0,0,1]) 1))] [(Q9.mk 0 0 9079259047735067646 1)]) 5 5 0 0 (-1) [0] [false] []),([(U5.mk (Z2.mk (bs [10,0,0,2]) 1) (Z2.mk (bs [10,0,0,1]) 1) (Y6.mk 2 0 0 false 0 false (Z2.mk (bs [10,0,0,1]) 1)))],0))
theorem q6:(s17 v2.1 5 v5).o=some v6:=by kernel_rfl
def v7:Q3:=(Q3.mk 1 1 2113929727 (bs [49,45,48,97,48,48,48,48,48,50,45]) (Z2.mk (bs [10,0,0,2]) 1) (Z2.mk (bs [10,0,0,2]) 1))
theorem q7:(s30 2).o=some v7:=by kernel_rfl
def v8:Q3:=(Q3.mk 1 1 2113929727 (bs [49,45,48,97,48,48,48,48,48,49,45]) (Z2.mk (bs [10,0,0,1]) 1) (Z2.mk (bs [10,0,0,1]) 1))
theorem q8:(s30 1).o=some v8:=by kernel_rfl
def v9:Q3:=(Q3.mk 1 1 2113929727 (bs [49,45,48,97,48,48,48,48,48,49,45]) (Z2.mk (bs [10,0,0,1]) 1) (Z2.mk (bs [10,0,0,1]) 1))
theorem q9:(s30 1).o=some v9:=by kernel_rfl
def v10:Y7×List U5×Int:=((Y7.mk (Y8.mk true [(Q3.mk 1 1 2113929727 (bs [49,45,48,97,48,48,48,48,48,49,45]) (Z2.mk (bs [10,0,0,1]) 1) (Z2.mk (bs [10,0,0,1]) 1))] [(Q3.mk 1 1 2113929727 (bs [49,45,48,97,48,48,48,48,48,50,45]) (Z2.mk (bs [10,0,0,2]) 1) (Z2.mk (bs [10,0,0,2]) 1))] [(Q9.mk 0 0 9079259047735067646 3)]) 9 10 50 1 (-1) [0] [true] []),([],0))
theorem q10:(s17 v4.1 10 (U5.mk v7.fAddr v8.fAddr (Y6.mk 2 0 0 false 0 false v9.fAddr))).o=some v10:=by kernel_rfl
def v11:Int×Int:=(2,0)
theorem q11:(s14 v10.1).o=some v11:=by kernel_rfl
def v12:U5:=(U5.mk (Z2.mk (bs [10,0,0,1]) 1) (Z2.mk (bs [10,0,0,2]) 1) (Y6.mk 1 0 1845494271 true 9 false (Z2.mk (bs []) 0)))
theorem q12:(s29).o=some v12:=by kernel_rfl
def v13:U5:=(U5.mk (Z2.mk (bs [10,0,0,1]) 1) (Z2.mk (bs [10,0,0,2]) 1) (Y6.mk 1 0 1845494271 true 9 false (Z2.mk (bs []) 0)))
theorem q13:(s29).o=some v13:=by kernel_rfl
def v14:Bool:=true
theorem q14:(s31 v4.2.1 [v13]).o=some v14:=by kernel_rfl
def v15:Bool:=true
theorem q15:(s31 v6.2.1 [(U5.mk v7.fAddr v8.fAddr (Y6.mk 2 0 0 false 0 false v9.fAddr))]).o=some v15:=by kernel_rfl
def v16:Bool:=true
theorem q16:(s32 v6.1.fQueue [0]).o=some v16:=by kernel_rfl
def v17:U5:=(U5.mk (Z2.mk (bs [10,0,0,1]) 1) (Z2.mk (bs [10,0,0,2]) 1) (Y6.mk 1 0 1845494271 true 9 false (Z2.mk (bs []) 0)))
theorem q17:(s29).o=some v17:=by kernel_rfl
def v18:Int:=0
theorem q18:(s13 v4.1).o=some v18:=by kernel_rfl
def v19:Int:=111
theorem q19:(s13 (Y7.mk (Y8.mk false [] [] []) 0 0 0 0 0 [] [] [])).o=some v19:=by kernel_rfl
theorem wProbe:ProbeD v12.fProbe:=⟨by decide,.inl ⟨rfl,by decide,by decide,by decide,rfl⟩⟩
theorem wAttrs {l:List Q4} (h:R1 v12.fProbe l):M6 (kdP v12.fProbe) 36 (idS v12.fProbe.fId) l=wkBody:=by
 rw[attrs_one h (.inl ⟨⟨rfl,by decide,by decide,by decide,rfl⟩,rfl⟩)]
 kernel_rfl
theorem wNe {l:List Q4} (h:R1 v12.fProbe l):macF (bs [107,101,121]) (M6 (kdP v12.fProbe) 36 (idS v12.fProbe.fId) l)≠macF (bs [111,116,104,101,114]) (M6 (kdP v12.fProbe) 36 (idS v12.fProbe.fId) l):=by
 rw[wAttrs h]
 intro e
 have:=congrArg (fun s=>bAt s 0) e
 simp only[wMac1,wMac2] at this
 exact absurd this (by decide)
theorem okWAKES:SOk s8 (fun r=>r=true):=by
 unfold s8
 refine SOk.fn ?_
 unfold g8
 refine Ok.call (SOk.of q1) fun r hr=>?_
 subst hr
 refine Ok.call (SOk.of q2) fun r hr=>?_
 subst hr
 refine Ok.call (SOk.of q3) fun r hr=>?_
 subst hr
 refine Ok.call (SOk.of q4) fun r hr=>?_
 subst hr
 refine Ok.call (SOk.of q5) fun r hr=>?_
 subst hr
 refine Ok.call (SOk.of q6) fun r hr=>?_
 subst hr
 refine Ok.call (SOk.of q7) fun r hr=>?_
 subst hr
 refine Ok.call (SOk.of q8) fun r hr=>?_
 subst hr
 refine Ok.call (SOk.of q9) fun r hr=>?_
 subst hr
 refine Ok.call (SOk.of q10) fun r hr=>?_
 subst hr
 refine Ok.call (SOk.of q11) fun r hr=>?_
 subst hr
 refine Ok.call (SOk.of q12) fun r hr=>?_
 subst hr
 refine Ok.call (okAWIRE wProbe (by decide)) fun w hw=>?_
 obtain⟨l,hl,rfl⟩:=hw
 refine Ok.call (okAUNWIRE wProbe hl (by decide)) fun x hx=>?_
 subst hx
 refine Ok.call (okAUNWIRE_no hl (by decide) (by decide) (wNe hl)) fun y hy=>?_
 refine Ok.cnd (R:=fun c=>c=true) ?_ fun c hc=>Ok.done hc
 refine Ok.brT rfl (Ok.brT rfl (Ok.brT rfl (Ok.brT rfl (Ok.brT rfl ?_))))
 refine Ok.call (SOk.of q13) fun r hr=>?_
 subst hr
 refine Ok.view (SOk.of q14) fun r hr=>?_
 subst hr
 refine Ok.brT rfl (Ok.brT rfl ?_)
 refine Ok.view (SOk.of q15) fun r hr=>?_
 subst hr
 refine Ok.brT rfl ?_
 refine Ok.view (SOk.of q16) fun r hr=>?_
 subst hr
 refine Ok.brT rfl (Ok.brT rfl (Ok.brT (by rw[W5];rfl) (Ok.brT rfl (Ok.brT rfl (Ok.brT rfl (Ok.brT rfl ?_))))))
 refine Ok.call (SOk.of q17) fun r hr=>?_
 subst hr
 refine Ok.brT (by kernel_rfl) (Ok.brT (by rw[hy];rfl) ?_)
 refine Ok.call (SOk.of q18) fun r hr=>?_
 subst hr
 refine Ok.brT rfl (Ok.call (SOk.of q19) fun r hr=>?_)
 subst hr
 exact Ok.done rfl
end Go.Proofs.YtjpahkpfkohfkaaGreatDoor
