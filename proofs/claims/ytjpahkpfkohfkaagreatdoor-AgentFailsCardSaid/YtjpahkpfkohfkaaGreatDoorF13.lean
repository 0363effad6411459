/- Guides and contracts, printed by a program. Guides and contracts, printed by a program. How often each was asked (AgentFails): a range over a map who ..; no conditions. -/
import Derived.Test.YtjpahkpfkohfkaaGreatDoorF12
import Derived.Test.YtjpahkpfkohfkaaGreatDoorF6
import Derived.Test.YtjpahkpfkohfkaaGreatDoorF7
import Derived.Test.YtjpahkpfkohfkaaGreatDoorF8
import Derived.Test.YtjpahkpfkohfkaaGreatDoorF11
import Derived.Test.YtjpahkpfkohfkaaGreatDoorF10
import Derived.KernelRfl
set_option linter.unusedVariables false
set_option linter.unusedSimpArgs false
set_option maxRecDepth 100000
noncomputable section
namespace Go.Proofs.YtjpahkpfkohfkaaGreatDoor
open Go Go.EV
def s94_1(p0:Bool)(p1 p2 p3 p4 p5:Int)(p6 p7:List Q2)(p8:List Q6)(p9:List Int)(p10:List Bool)(p11:List Q8):Sp (Unit):=.ofFnB 94 [ωb,ωc,ωd,ωe,ωf,ωg] Z0 Tryz.func94 rfl (fun _=>rfl) (show FnB Pg GG [0,1,2] Tryz.f94 [.ptr ωa 0 0] (Ext.of .normal (U6 [.ptr ωa 0 0]) [(ωa,⟨13,true,[[.bool p0,Rf ωb p6,Rf ωc p7,Rf ωd p8,.i p1,.i p2,.i p3,.i p4,.i p5,Rf ωe p9,Rf ωf p10,Rf ωg p11,.nilsl]]⟩)] [Bt ωb Q0 8 p6,Bt ωc Q0 8 p7,Bt ωd Q3 4 p8,Bt ωe Z2 1 p9,Bt ωf Z1 1 p10,Bt ωg Q5 6 p11] (by rfl)) (.done ():TT (Unit)) (fun(r:Unit)=>.fn 167 [] [.ptr 1 0 0]) (fun(r:Unit)=>Ext.of .normal [] [(1,⟨1,true,[[.ptr ωa 0 0]]⟩),(ωa,⟨13,true,[[.bool p0,Rf ωb p6,Rf ωc p7,Rf ωd p8,.i p1,.i p2,.i p3,.i p4,.i p5,Rf ωe p9,Rf ωf p10,Rf ωg p11,.nilsl]]⟩)] [Bt ωb Q0 8 p6,Bt ωc Q0 8 p7,Bt ωd Q3 4 p8,Bt ωe Z2 1 p9,Bt ωf Z1 1 p10,Bt ωg Q5 6 p11] (by rfl)) by unfold FnB;kernel_rfl)
def g37_1(p0:M5):TT (Bool):=.cnd 1 [18] (.br 1008 (decide ((0:Int)≤p0.fB.fV)) (.done true) (.done (p0.fB.fI==1099511627776))) (fun(c935:Bool)=>[.bool c935]) fun c935=>.br 0 c935 (.done false) (.call 3006 (s93 p0.fB.fc) [] [] fun r936=>.cnd 4 [2] (.br 4009 (decide ((0:Int) < (Y9 Z2 p0.fB.fN))) (.done true) (.done (r936.2==0))) (fun(c937:Bool)=>[.bool c937]) fun c937=>.done c937)
def s37_1(p0:M5):Sp (Bool):=.ofFn 37 Z0 Tryz.func37 (show FnD Pg GG [0,2,4,18] Tryz.f37 [.snap [.bool p0.fB.fc.fo,Sl 8 Q0 p0.fB.fc.fu,Sl 8 Q0 p0.fB.fc.fw,Sl 4 Q3 p0.fB.fc.fm,.i p0.fB.fC,.i p0.fB.fP,.i p0.fB.fK,.i p0.fB.fI,.i p0.fB.fV,Sl 1 Z2 p0.fB.fN,Sl 1 Z1 p0.fB.fQ,Sl 6 Q5 p0.fB.fA,Sl 12 Z8 p0.gv]] (g37_1 p0) (fun r=>.bool r) by unfold FnD;kernel_rfl)
def g169(p0:Q8)(p1:Int)(p2:Bool):TT (Bool):=.cnd 1 [4] (.br 1006 (p0.fE==p1) (.done (p0.fF==p2)) (.done false)) (fun(c944:Bool)=>[.bool c944]) fun c944=>.done c944
def s169(p0:Q8)(p1:Int)(p2:Bool):Sp (Bool):=.ofFn 169 Z0 Tryz.func169 (show FnD Pg GG [0,1,2,3,4] Tryz.f169 [.agg (Q5.c p0),.snap [.i p1],.snap [.bool p2]] (g169 p0 p1 p2) (fun r=>.bool r) by unfold FnD;kernel_rfl)
def g223_1(p0:List Q8)(p1:Int)(p2:Bool):TT (Int):=.bind2 1 (.lp (fun(l945:Int)=>Ext.l .normal [(0,Sl 6 Q5 p0),(1,.fn 169 [] [.snap [.i p1],.snap [.bool p2]]),(4,.i 0),(7,.i (Y9 Q5 p0)),(8,.i l945)] []) (fun l945=>.br 0 (decide (l945 < (Y9 Q5 p0))) (.row 4004 Q5 p0 l945.toNat (decide (0≤l945)) fun x946=>.call 4006 (s169 x946 p1 p2) [] [] fun r947=>.br 0 r947 (.done (.inr (.inl l945))) (.done (.inl (Q4 (l945+1))))) (.done (.inr (.inr ())))) 0) (fun(e948:Int)=>Ext.l .ret [(4,.i e948)] []) (fun(e949:Unit)=>Ext.l (.exit 0) [(4,.i 0)] []) (fun e948=>.done e948) (fun e949=>.done (-1))
def s223_1(p0:List Q8)(p1:Int)(p2:Bool):Sp (Int):=.ofFn 223 Z0 Tryz.func223 (show FnD Pg GG [0,1,4,5,7,8,9,16] Tryz.f223 [Sl 6 Q5 p0,.fn 169 [] [.snap [.i p1],.snap [.bool p2]]] (g223_1 p0 p1 p2) (fun r=>.int .i64 r) by unfold FnD;kernel_rfl)
def g168_1(p0:List Q8)(p1:Int)(p2:Bool):TT (Int):=.call 1003 (s223_1 p0 p1 p2) [] [] fun r950=>.done r950
def s168_1(p0:List Q8)(p1:Int)(p2:Bool):Sp (Int):=.ofFn 168 Z0 Tryz.func168 (show FnD Pg GG [0,1,4] Tryz.f168 [Sl 6 Q5 p0,.fn 169 [] [.snap [.i p1],.snap [.bool p2]]] (g168_1 p0 p1 p2) (fun r=>.int .i64 r) by unfold FnD;kernel_rfl)
def g95_1(p0:Q8)(p1:Bool)(p2 p3 p4 p5 p6:Int)(p7 p8:List Q2)(p9:List Q6)(p10:List Int)(p11:List Bool)(p12:List Q8)(p13:List Y6):TT ((List Y6)):=.view 1004 (s75_1 (M5.mk (Y0.mk (Y3.mk p1 p7 p8 p9) p2 p3 p4 p5 p6 p10 p11 p12) p13) p0.fE) [(VwW.o ωb Q0 p7),(VwW.o ωc Q0 p8),(VwW.o ωd Q3 p9),(VwW.o ωe Z2 p10),(VwW.o ωf Z1 p11),(VwW.o ωg Q5 p12),(VwW.o ωi Z8 p13)] fun r962=>.view 2013 (s113_1 (M5.mk (Y0.mk (Y3.mk p1 p7 p8 p9) p2 p3 p4 p5 p6 p10 p11 p12) p13) p0.fE) [(VwW.o ωb Q0 p7),(VwW.o ωc Q0 p8),(VwW.o ωd Q3 p9),(VwW.o ωe Z2 p10),(VwW.o ωf Z1 p11),(VwW.o ωg Q5 p12),(VwW.o ωi Z8 p13)] fun r963=>.app 2026 Z8 p13 [(Y6.mk r962.1 r962.2 (U7.mk 1 p0.fp r963 p0.fo p2 p0.fF (Z7.mk ByteArray.empty 0)))] 120 false (by intro h;cases h) (.done (p13++[(Y6.mk r962.1 r962.2 (U7.mk 1 p0.fp r963 p0.fo p2 p0.fF (Z7.mk ByteArray.empty 0)))]))
def s95_1(p0:Q8)(p1:Bool)(p2 p3 p4 p5 p6:Int)(p7 p8:List Q2)(p9:List Q6)(p10:List Int)(p11:List Bool)(p12:List Q8)(p13:List Y6):Sp ((List Y6)):=.ofFnB 95 [38,ωb,ωc,ωd,ωe,ωf,ωg] Z0 Tryz.func95 rfl (fun _=>rfl) (show FnB Pg GG [0,1,3,4,5] Tryz.f95 [.ptr ωa 0 0,.agg (Q5.c p0)] (Ext.of .normal (U6 [.ptr ωa 0 0,.agg (Q5.c p0)]) [(ωa,⟨13,true,[[.bool p1,Rf ωb p7,Rf ωc p8,Rf ωd p9,.i p2,.i p3,.i p4,.i p5,.i p6,Rf ωe p10,Rf ωf p11,Rf ωg p12,Rf ωi p13]]⟩)] [Bt ωb Q0 8 p7,Bt ωc Q0 8 p8,Bt ωd Q3 4 p9,Bt ωe Z2 1 p10,Bt ωf Z1 1 p11,Bt ωg Q5 6 p12,Bt ωi Z8 12 p13] (by rfl)) (g95_1 p0 p1 p2 p3 p4 p5 p6 p7 p8 p9 p10 p11 p12 p13) (fun(r:(List Y6))=>.tup []) (fun(r:(List Y6))=>Ext.of .normal [] [(ωa,⟨13,true,[[.bool p1,Rf ωb p7,Rf ωc p8,Rf ωd p9,.i p2,.i p3,.i p4,.i p5,.i p6,Rf ωe p10,Rf ωf p11,Rf ωg p12,Rf 38 r]]⟩)] [Bt 38 Z8 12 r,Bt ωb Q0 8 p7,Bt ωc Q0 8 p8,Bt ωd Q3 4 p9,Bt ωe Z2 1 p10,Bt ωf Z1 1 p11,Bt ωg Q5 6 p12] (by rfl)) by unfold FnB;kernel_rfl)
def g97(p0:Int)(p1:Bool)(p2 p3 p4 p5 p6:Int)(p7:Nat)(p8 p9:List Q2)(p10:List Q6)(p11:List Int)(p12:List Bool)(p13:List Q8)(p14:List Y6):TT ((List Q8)×(List Y6)×Int×(List Q6)×Nat):=.br 1008 p1 (.chk 1014 (bD p0 p12.length) (.row 1015 Z1 p12 (0+p0.toNat) true fun x954=>.view 2007 (s168_1 (p13.take p7) p0 x954) [(VwW.part ωg Q5 p13 p7)] fun r955=>.br 0 (decide ((0:Int)≤r955)) (.fail) (.chk 3008 (bD p0 p10.length) (.cnd 4 [47] (.br 4004 (!x954) (.row 4007 Q3 p10 (0+p0.toNat) true fun x956=>.done (x956.fD != 3)) (.done false)) (fun(c957:Bool)=>[.bool c957]) fun c957=>.bind 0 (.br 0 c957 (.row 5004 Q3 p10 (0+p0.toNat) true fun x958=>.re 5004 (ReW.put ωd 4 Q3 p10 (0+p0.toNat) (Q6.mk x958.fH x958.fJ x958.ft 2)) (.gh 0 (.len ωd ((p10.set (0+p0.toNat) (Q6.mk x958.fH x958.fJ x958.ft 2)).length) [p10.length] (by simp)) (.done (p10.set (0+p0.toNat) (Q6.mk x958.fH x958.fJ x958.ft 2))))) (.done p10)) (fun(e959:(List Q6))=>Ext.of .normal [(0,.ptr ωa 0 0),(3,.ptr 3 0 0),(4,.ptr 4 0 0)] [(3,⟨1,true,[[.i p0]]⟩),(4,⟨1,true,[[.bool x954]]⟩),(ωa,⟨13,true,[[.bool p1,Rf ωb p8,Rf ωc p9,Rf ωd e959,.i p2,.i p3,.i p4,.i p5,.i p6,Rf ωe p11,Rf ωf p12,.ref ωg 0 p7,Rf ωi p14]]⟩)] [Bt ωb Q0 8 p8,Bt ωc Q0 8 p9,Bt ωd Q3 4 e959,Bt ωe Z2 1 p11,Bt ωf Z1 1 p12,Bt ωg Q5 6 p13,Bt ωi Z8 12 p14] (by rfl)) (fun e959=>.opr 7009 (Rule.appTo (ty:=Q5) (t:=33) (t2:=33) (e:=101) (e2:=101) (z:=6) (bytes:=40) (.tmp 76) (.tmp 78) 79 ωg p7 p13 78 0 1 true [(Q8.mk p5 p0 (Q4 (p3+200)) 1 x954 p1)] (by kernel_rfl) (by kernel_rfl) (by kernel_rfl) (by decide) (by kernel_rfl) (fun _=>rfl)) fun _=>.call 9003 (s95_1 (Q8.mk p5 p0 (Q4 (p3+200)) 1 x954 p1) p1 p2 p3 p4 (Q4 (p5+1)) p6 p8 p9 e959 p11 p12 (p13.take p7++([(Q8.mk p5 p0 (Q4 (p3+200)) 1 x954 p1)].drop 0).take 1) p14) [(ωa,ωa),(ωb,ωb),(ωc,ωc),(ωd,ωd),(ωe,ωe),(ωf,ωf),(ωg,79),(ωi,ωi)] [(38,500128)] fun r964=>.gh 0 (.ren 79 ωh) (.gh 0 (.ren 500128 ωj) (.done ((p13.take p7++([(Q8.mk p5 p0 (Q4 (p3+200)) 1 x954 p1)].drop 0).take 1),r964,(Q4 (p5+1)),e959,(p13.take p7++([(Q8.mk p5 p0 (Q4 (p3+200)) 1 x954 p1)].drop 0).take 1).length)))))))) (.view 2007 (s168_1 (p13.take p7) p0 false) [(VwW.part ωg Q5 p13 p7)] fun r965=>.br 0 (decide ((0:Int)≤r965)) (.fail) (.chk 3008 (bD p0 p10.length) (.row 4007 Q3 p10 (0+p0.toNat) true fun x966=>.bind 0 (.br 0 (x966.fD != 3) (.row 5004 Q3 p10 (0+p0.toNat) true fun x967=>.re 5004 (ReW.put ωd 4 Q3 p10 (0+p0.toNat) (Q6.mk x967.fH x967.fJ x967.ft 2)) (.gh 0 (.len ωd ((p10.set (0+p0.toNat) (Q6.mk x967.fH x967.fJ x967.ft 2)).length) [p10.length] (by simp)) (.done (p10.set (0+p0.toNat) (Q6.mk x967.fH x967.fJ x967.ft 2))))) (.done p10)) (fun(e968:(List Q6))=>Ext.of .normal [(0,.ptr ωa 0 0),(3,.ptr 3 0 0),(4,.ptr 4 0 0)] [(3,⟨1,true,[[.i p0]]⟩),(4,⟨1,true,[[.bool false]]⟩),(ωa,⟨13,true,[[.bool p1,Rf ωb p8,Rf ωc p9,Rf ωd e968,.i p2,.i p3,.i p4,.i p5,.i p6,Rf ωe p11,Rf ωf p12,.ref ωg 0 p7,Rf ωi p14]]⟩)] [Bt ωb Q0 8 p8,Bt ωc Q0 8 p9,Bt ωd Q3 4 e968,Bt ωe Z2 1 p11,Bt ωf Z1 1 p12,Bt ωg Q5 6 p13,Bt ωi Z8 12 p14] (by rfl)) (fun e968=>.opr 7009 (Rule.appTo (ty:=Q5) (t:=33) (t2:=33) (e:=101) (e2:=101) (z:=6) (bytes:=40) (.tmp 76) (.tmp 78) 79 ωg p7 p13 78 0 1 true [(Q8.mk p5 p0 (Q4 (p3+200)) 1 false p1)] (by kernel_rfl) (by kernel_rfl) (by kernel_rfl) (by decide) (by kernel_rfl) (fun _=>rfl)) fun _=>.call 9003 (s95_1 (Q8.mk p5 p0 (Q4 (p3+200)) 1 false p1) p1 p2 p3 p4 (Q4 (p5+1)) p6 p8 p9 e968 p11 p12 (p13.take p7++([(Q8.mk p5 p0 (Q4 (p3+200)) 1 false p1)].drop 0).take 1) p14) [(ωa,ωa),(ωb,ωb),(ωc,ωc),(ωd,ωd),(ωe,ωe),(ωf,ωf),(ωg,79),(ωi,ωi)] [(38,500129)] fun r971=>.gh 0 (.ren 79 ωh) (.gh 0 (.ren 500129 ωj) (.done ((p13.take p7++([(Q8.mk p5 p0 (Q4 (p3+200)) 1 false p1)].drop 0).take 1),r971,(Q4 (p5+1)),e968,(p13.take p7++([(Q8.mk p5 p0 (Q4 (p3+200)) 1 false p1)].drop 0).take 1).length)))))))
def s97(p0:Int)(p1:Bool)(p2 p3 p4 p5 p6:Int)(p7:Nat)(p8 p9:List Q2)(p10:List Q6)(p11:List Int)(p12:List Bool)(p13:List Q8)(p14:List Y6):Sp ((List Q8)×(List Y6)×Int×(List Q6)×Nat):=.ofFnB 97 [ωh,ωj,ωb,ωc,ωd,ωe,ωf] Z0 Tryz.func97 rfl (fun _=>rfl) (show FnB Pg GG [0,1,3,4,5,6,30,47] Tryz.f97 [.ptr ωa 0 0,.i p0] (Ext.of .normal (U6 [.ptr ωa 0 0,.i p0]) [(ωa,⟨13,true,[[.bool p1,Rf ωb p8,Rf ωc p9,Rf ωd p10,.i p2,.i p3,.i p4,.i p5,.i p6,Rf ωe p11,Rf ωf p12,.ref ωg 0 p7,Rf ωi p14]]⟩)] [Bt ωb Q0 8 p8,Bt ωc Q0 8 p9,Bt ωd Q3 4 p10,Bt ωe Z2 1 p11,Bt ωf Z1 1 p12,Bt ωg Q5 6 p13,Bt ωi Z8 12 p14] (by rfl)) (g97 p0 p1 p2 p3 p4 p5 p6 p7 p8 p9 p10 p11 p12 p13 p14) (fun(r:(List Q8)×(List Y6)×Int×(List Q6)×Nat)=>.tup []) (fun(r:(List Q8)×(List Y6)×Int×(List Q6)×Nat)=>Ext.of .normal [] [(ωa,⟨13,true,[[.bool p1,Rf ωb p8,Rf ωc p9,Rf ωd r.2.2.2.1,.i p2,.i p3,.i p4,.i r.2.2.1,.i p6,Rf ωe p11,Rf ωf p12,.ref ωh 0 r.q,Rf ωj r.2.1]]⟩)] [Bt ωh Q5 6 r.1,Bt ωj Z8 12 r.2.1,Bt ωb Q0 8 p8,Bt ωc Q0 8 p9,Bt ωd Q3 4 r.2.2.2.1,Bt ωe Z2 1 p11,Bt ωf Z1 1 p12] (by rfl)) by unfold FnB;kernel_rfl)
def g55_2(p0:Bool)(p1 p2 p3 p4 p5:Int)(p6:Nat)(p7 p8:List Q2)(p9:List Q6)(p10:List Int)(p11:List Bool)(p12:List Q8)(p13:List Y6):TT ((List Int)×(List Bool)×Nat):=.cnd 1 [27] (.br 1009 (!p0) (.done true) (.br 1017 (decide ((0:Int)≤p5)) (.done true) (.view 1022 (s114 p11 true) [(VwW.o ωf Z1 p11)] fun r966=>.done r966))) (fun(c967:Bool)=>[.bool c967]) fun c967=>.br 0 c967 (.gh 0 (.ren ωe ωh) (.done (p10,p11,p6))) (.bind 1 (.lp (fun(l971:Int×Int)=>Ext.of .normal [(1,.ptr 1 0 0),(2,.ptr 2 0 0),(33,Rf ωd p9),(34,.i (p9.length:Int)),(35,.i l971.2)] [(1,⟨1,true,[[.ptr ωa 0 0]]⟩),(2,⟨1,true,[[.i l971.1]]⟩),(ωa,⟨13,true,[[.bool p0,Rf ωb p7,Rf ωc p8,Rf ωd p9,.i p1,.i p2,.i p3,.i p4,.i p5,Rf ωe p10,Rf ωf p11,.ref ωg 0 p6,Rf ωi p13]]⟩)] [Bt ωb Q0 8 p7,Bt ωc Q0 8 p8,Bt ωd Q3 4 p9,Bt ωe Z2 1 p10,Bt ωf Z1 1 p11,Bt ωg Q5 6 p12,Bt ωi Z8 12 p13] (by rfl)) (fun l971=>.br 0 (decide (l971.2 < (p9.length:Int))) (.chk 5002 (bD l971.2 p9.length) (.row 5003 Q3 p9 (0+l971.2.toNat) true fun x972=>.cnd 6 [61] (.br 6005 (x972.fD==3) (.fail) (.done false)) (fun(c974:Bool)=>[.bool c974]) fun c974=>.br 0 c974 (.fail) (.done (.inl (l971.1,(Q4 (l971.2+1))))))) (.done (.inr l971.1))) ((-1),0)) (fun(e975:Int)=>Ext.of (.exit 0) [(1,.ptr 1 0 0),(2,.ptr 2 0 0)] [(1,⟨1,true,[[.ptr ωa 0 0]]⟩),(2,⟨1,true,[[.i e975]]⟩),(ωa,⟨13,true,[[.bool p0,Rf ωb p7,Rf ωc p8,Rf ωd p9,.i p1,.i p2,.i p3,.i p4,.i p5,Rf ωe p10,Rf ωf p11,.ref ωg 0 p6,Rf ωi p13]]⟩)] [Bt ωb Q0 8 p7,Bt ωc Q0 8 p8,Bt ωd Q3 4 p9,Bt ωe Z2 1 p10,Bt ωf Z1 1 p11,Bt ωg Q5 6 p12,Bt ωi Z8 12 p13] (by rfl)) (fun e975=>.cnd 9 [76] (.br 9004 (decide (e975 < 0)) (.done true) (.fail)) (fun(c977:Bool)=>[.bool c977]) fun c977=>.br 0 c977 (.gh 0 (.ren ωe ωh) (.done (p10,p11,p6))) (.fail)))
def s55_2(p0:Bool)(p1 p2 p3 p4 p5:Int)(p6:Nat)(p7 p8:List Q2)(p9:List Q6)(p10:List Int)(p11:List Bool)(p12:List Q8)(p13:List Y6):Sp ((List Int)×(List Bool)×Nat):=.ofFnB 55 [ωh,ωb,ωc,ωd,ωf,ωg,ωi] Z0 Tryz.func55 rfl (fun _=>rfl) (show FnB Pg GG [0,1,2,3,4,27,33,34,35,36,61,76] Tryz.f55 [.ptr ωa 0 0] (Ext.of .normal (U6 [.ptr ωa 0 0]) [(ωa,⟨13,true,[[.bool p0,Rf ωb p7,Rf ωc p8,Rf ωd p9,.i p1,.i p2,.i p3,.i p4,.i p5,Rf ωe p10,Rf ωf p11,.ref ωg 0 p6,Rf ωi p13]]⟩)] [Bt ωb Q0 8 p7,Bt ωc Q0 8 p8,Bt ωd Q3 4 p9,Bt ωe Z2 1 p10,Bt ωf Z1 1 p11,Bt ωg Q5 6 p12,Bt ωi Z8 12 p13] (by rfl)) (g55_2 p0 p1 p2 p3 p4 p5 p6 p7 p8 p9 p10 p11 p12 p13) (fun(r:(List Int)×(List Bool)×Nat)=>.tup []) (fun(r:(List Int)×(List Bool)×Nat)=>Ext.of .normal [] [(ωa,⟨13,true,[[.bool p0,Rf ωb p7,Rf ωc p8,Rf ωd p9,.i p1,.i p2,.i p3,.i p4,.i p5,Rf ωh r.1,Rf ωf r.2.1,.ref ωg 0 r.2.2,Rf ωi p13]]⟩)] [Bt ωh Z2 1 r.1,Bt ωb Q0 8 p7,Bt ωc Q0 8 p8,Bt ωd Q3 4 p9,Bt ωf Z1 1 r.2.1,Bt ωg Q5 6 p12,Bt ωi Z8 12 p13] (by rfl)) by unfold FnB;kernel_rfl)
def g40_2(p0:Bool)(p1 p2 p3 p4 p5:Int)(p6 p7:List Q2)(p8:List Q6)(p9:List Int)(p10:List Bool)(p11:List Q8):TT ((List Int)×(List Q8)×(List Y6)×Int×Int×(List Q6)×(List Bool)×Nat×(List Q2)×(List Q2)×Bool×Int×Int×Int):=.call 1002 (s94_1 p0 p1 p2 p3 p4 p5 p6 p7 p8 p9 p10 p11) [(ωa,ωa),(ωb,ωb),(ωc,ωc),(ωd,ωd),(ωe,ωe),(ωf,ωf),(ωg,ωg)] [(1,500126)] fun r933=>.gh 1 (.ren 500126 700070) (.gh 1 (.virtC 900070 ωa 12 12) (.sub (subDue (DuS.mk p0 p1 p2 p3 p4 p5 p6 p7 p8 p9 p10 p11 p11.length [])) fun r934=>.cnd 12 [104] (.view 12002 (s37_1 (M5.mk (Y0.mk (Y3.mk r934.c r934.ls r934.rs r934.ps) r934.tie r934.now r934.next r934.ser r934.cho r934.q r934.nm (r934.ck.take r934.m)) r934.out)) [(VwW.o ωb Q0 r934.ls),(VwW.o ωc Q0 r934.rs),(VwW.o ωd Q3 r934.ps),(VwW.o ωe Z2 r934.q),(VwW.o ωf Z1 r934.nm),(VwW.part ωg Q5 r934.ck r934.m),(VwW.o 900070 Z8 r934.out)] fun r938=>.br 12004 r938 (.done (decide (r934.next≤r934.now))) (.done false)) (fun(c939:Bool)=>[.bool c939]) fun c939=>.br 0 c939 (.bind 0 (.br 0 (decide ((0:Int) < (r934.q.length:Int))) (.fail) (.view 17006 (s93 (Y3.mk r934.c r934.ls r934.rs r934.ps)) [(VwW.o ωb Q0 r934.ls),(VwW.o ωc Q0 r934.rs),(VwW.o ωd Q3 r934.ps)] fun r946=>.br 0 (r946.2==0) (.call 19003 (s97 r946.1 r934.c r934.tie r934.now r934.next r934.ser r934.cho r934.m r934.ls r934.rs r934.ps r934.q r934.nm r934.ck r934.out) [(ωa,ωa),(ωb,ωb),(ωc,ωc),(ωd,ωd),(ωe,ωe),(ωf,ωf),(ωg,ωg),(ωi,900070)] [(ωh,500144),(ωj,500145)] fun r951=>.gh 0 (.ren ωe 600146) (.gh 0 (.ren 500144 600147) (.gh 0 (.ren 500145 600148) (.done (r934.q,r951.1,r951.2.1,r951.2.2.1,r951.2.2.2.1,r951.q))))) (.gh 0 (.ren ωe 600146) (.gh 0 (.ren ωg 600147) (.gh 0 (.ren 900070 600148) (.done (r934.q,r934.ck,r934.out,r934.ser,r934.ps,r934.m))))))) (fun(e952:(List Int)×(List Q8)×(List Y6)×Int×(List Q6)×Nat)=>Ext.of .normal [(1,.ptr 1 0 0)] [(1,⟨1,true,[[.ptr ωa 0 0]]⟩),(ωa,⟨13,true,[[.bool r934.c,Rf ωb r934.ls,Rf ωc r934.rs,Rf ωd e952.q.1,.i r934.tie,.i r934.now,.i r934.next,.i e952.2.2.2.1,.i r934.cho,Rf 600146 e952.1,Rf ωf r934.nm,.ref 600147 0 e952.q.2,Rf 600148 e952.2.2.1]]⟩)] [Bt 600146 Z2 1 e952.1,Bt 600147 Q5 6 e952.2.1,Bt 600148 Z8 12 e952.2.2.1,Bt ωb Q0 8 r934.ls,Bt ωc Q0 8 r934.rs,Bt ωd Q3 4 e952.q.1,Bt ωf Z1 1 r934.nm] (by rfl)) (fun e952=>.call 21002 (s55_2 r934.c r934.tie r934.now (Q4 (r934.now+50)) e952.2.2.2.1 r934.cho e952.q.2 r934.ls r934.rs e952.q.1 e952.1 r934.nm e952.2.1 e952.2.2.1) [(ωa,ωa),(ωb,ωb),(ωc,ωc),(ωd,ωd),(ωe,600146),(ωf,ωf),(ωg,600147),(ωi,600148)] [(ωh,500150)] fun r982=>.gh 0 (.ren 500150 ωh) (.gh 0 (.ren 600147 ωj) (.gh 0 (.ren 600148 ωn) (.done (r982.1,e952.2.1,e952.2.2.1,(Q4 (r934.now+50)),e952.2.2.2.1,e952.q.1,r982.2.1,r982.2.2,r934.ls,r934.rs,r934.c,r934.tie,r934.now,r934.cho)))))) (.call 21002 (s55_2 r934.c r934.tie r934.now r934.next r934.ser r934.cho r934.m r934.ls r934.rs r934.ps r934.q r934.nm r934.ck r934.out) [(ωa,ωa),(ωb,ωb),(ωc,ωc),(ωd,ωd),(ωe,ωe),(ωf,ωf),(ωg,ωg),(ωi,900070)] [(ωh,500151)] fun r996=>.gh 0 (.ren 500151 ωh) (.gh 0 (.ren ωg ωj) (.gh 0 (.ren 900070 ωn) (.done (r996.1,r934.ck,r934.out,r934.next,r934.ser,r934.ps,r996.2.1,r996.2.2,r934.ls,r934.rs,r934.c,r934.tie,r934.now,r934.cho)))))))
def s40_2(p0:Bool)(p1 p2 p3 p4 p5:Int)(p6 p7:List Q2)(p8:List Q6)(p9:List Int)(p10:List Bool)(p11:List Q8):Sp ((List Int)×(List Q8)×(List Y6)×Int×Int×(List Q6)×(List Bool)×Nat×(List Q2)×(List Q2)×Bool×Int×Int×Int):=.ofFnB 40 [ωh,ωj,ωn,ωb,ωc,ωd,ωf] Z0 Tryz.func40 rfl (fun _=>rfl) (show FnB Pg GG [0,1,2,3,4,5,6,7,9,10,22,60,104,111,142] Tryz.f40 [.ptr ωa 0 0] (Ext.of .normal (U6 [.ptr ωa 0 0]) [(ωa,⟨13,true,[[.bool p0,Rf ωb p6,Rf ωc p7,Rf ωd p8,.i p1,.i p2,.i p3,.i p4,.i p5,Rf ωe p9,Rf ωf p10,Rf ωg p11,.nilsl]]⟩)] [Bt ωb Q0 8 p6,Bt ωc Q0 8 p7,Bt ωd Q3 4 p8,Bt ωe Z2 1 p9,Bt ωf Z1 1 p10,Bt ωg Q5 6 p11] (by rfl)) (g40_2 p0 p1 p2 p3 p4 p5 p6 p7 p8 p9 p10 p11) (fun(r:(List Int)×(List Q8)×(List Y6)×Int×Int×(List Q6)×(List Bool)×Nat×(List Q2)×(List Q2)×Bool×Int×Int×Int)=>.tup []) (fun(r:(List Int)×(List Q8)×(List Y6)×Int×Int×(List Q6)×(List Bool)×Nat×(List Q2)×(List Q2)×Bool×Int×Int×Int)=>Ext.of .normal [] [(ωa,⟨13,true,[[.bool r.q.q.2.2.1,Rf ωb r.q.q.1,Rf ωc r.q.q.2.1,Rf ωd r.q.2.1,.i r.q.q.2.2.2.1,.i r.q.q.q.1,.i r.2.2.2.1,.i r.q.1,.i r.q.q.q.2,Rf ωh r.1,Rf ωf r.q.2.2.1,.ref ωj 0 r.q.2.2.2.1,Rf ωn r.2.2.1]]⟩)] [Bt ωh Z2 1 r.1,Bt ωj Q5 6 r.2.1,Bt ωn Z8 12 r.2.2.1,Bt ωb Q0 8 r.q.q.1,Bt ωc Q0 8 r.q.q.2.1,Bt ωd Q3 4 r.q.2.1,Bt ωf Z1 1 r.q.2.2.1] (by rfl)) by unfold FnB;kernel_rfl)
def g12(p0:Y0)(p1:Int):TT (Y0×(List Y6)×Int):=.call2 1002 (s36 p0) [] [(7,500118),(500053,500119),(500054,500120),(500055,500121),(500056,500122),(500057,500123),(500058,500124)] (fun r928=>.ff (.tt (.done ((Y0.mk (Y3.mk false [] [] []) 0 0 0 0 0 [] [] []),[],111)))) (fun r929=>.call 2007 (s39 p1 p0.fP 1099511627776) [] [] fun r930=>.bind 0 (.br 0 (!r930) (.done 2) (.done 0)) (fun(e931:Int)=>Ext.of .normal [(1,.i p1),(4,.ptr 4 0 0),(5,.nilsl),(6,.i 0),(7,.ptr 500118 0 0),(8,.i e931)] [(4,⟨12,true,[[.bool false,.nilsl,.nilsl,.nilsl,.i 0,.i 0,.i 0,.i 0,.i 0,.nilsl,.nilsl,.nilsl]]⟩),(500118,⟨13,true,[[.bool p0.fc.fo,Rf 500119 p0.fc.fu,Rf 500120 p0.fc.fw,Rf 500121 p0.fc.fm,.i p0.fC,.i p0.fP,.i p0.fK,.i p0.fI,.i p0.fV,Rf 500122 p0.fN,Rf 500123 p0.fQ,Rf 500124 p0.fA,.nilsl]]⟩)] [Bt 500119 Q0 8 p0.fc.fu,Bt 500120 Q0 8 p0.fc.fw,Bt 500121 Q3 4 p0.fc.fm,Bt 500122 Z2 1 p0.fN,Bt 500123 Z1 1 p0.fQ,Bt 500124 Q5 6 p0.fA] (by rfl)) (fun e931=>.br 0 (e931 != 0) (.done ((Y0.mk (Y3.mk false [] [] []) 0 0 0 0 0 [] [] []),[],e931)) (.call 7002 (s40_2 p0.fc.fo p0.fC p1 p0.fK p0.fI p0.fV p0.fc.fu p0.fc.fw p0.fc.fm p0.fN p0.fQ p0.fA) [(ωa,500118),(ωb,500119),(ωc,500120),(ωd,500121),(ωe,500122),(ωf,500123),(ωg,500124)] [(ωh,500152),(ωj,500153),(ωn,500154)] fun r997=>.gh 0 (.share (VwW.o 500119 Q0 r997.q.q.1) 1) (.gh 0 (.share (VwW.o 500120 Q0 r997.q.q.2.1) 1) (.gh 0 (.share (VwW.o 500121 Q3 r997.q.2.1) 1) (.gh 0 (.share (VwW.o 500123 Z1 r997.q.2.2.1) 1) (.gh 0 (.share (VwW.o 500152 Z2 r997.1) 1) (.gh 0 (.share (VwW.part 500153 Q5 r997.2.1 r997.q.2.2.2.1) 1) (.gh 0 (.share (VwW.o 500154 Z8 r997.2.2.1) 1) (.done ((Y0.mk (Y3.mk r997.q.q.2.2.1 r997.q.q.1 r997.q.q.2.1 r997.q.2.1) r997.q.q.2.2.2.1 r997.q.q.q.1 r997.2.2.2.1 r997.q.1 r997.q.q.q.2 r997.1 r997.q.2.2.1 (r997.2.1.take r997.q.2.2.2.1)),r997.2.2.1,0)))))))))))
def s12(p0:Y0)(p1:Int):Sp (Y0×(List Y6)×Int):=.ofFn 12 Z0 Tryz.func12 (show FnD Pg GG [0,1,2,4,5,6,7,8,22,24] Tryz.f12 [.agg [.bool p0.fc.fo,Sl 8 Q0 p0.fc.fu,Sl 8 Q0 p0.fc.fw,Sl 4 Q3 p0.fc.fm,.i p0.fC,.i p0.fP,.i p0.fK,.i p0.fI,.i p0.fV,Sl 1 Z2 p0.fN,Sl 1 Z1 p0.fQ,Sl 6 Q5 p0.fA],.i p1] (g12 p0 p1) (fun r=>.tup [.agg [.bool r.1.fc.fo,Sl 8 Q0 r.1.fc.fu,Sl 8 Q0 r.1.fc.fw,Sl 4 Q3 r.1.fc.fm,.i r.1.fC,.i r.1.fP,.i r.1.fK,.i r.1.fI,.i r.1.fV,Sl 1 Z2 r.1.fN,Sl 1 Z1 r.1.fQ,Sl 6 Q5 r.1.fA],Sl 12 Z8 r.2.1,.i r.2.2]) by unfold FnD;kernel_rfl)
def g8 :TT (Bool):=.call 1001 s27 [] [] fun r998=>.call 2001 s28 [] [] fun r999=>.call 3002 (s11 r998.1) [] [] fun r1000=>.call 4002 (s12 r998.1 0) [] [] fun r1001=>.call 5002 s29 [] [] fun r1002=>.call 5003 (s17 r999.1 5 r1002) [] [] fun r1003=>.call 6001 (s30 2) [] [] fun r1004=>.call 6003 (s30 1) [] [] fun r1005=>.call 6005 (s30 1) [] [] fun r1006=>.call 7003 (s17 r1001.1 10 (Y6.mk r1004.fG r1005.fG (U7.mk 2 0 0 false 0 false r1006.fG))) [] [] fun r1007=>.call 8002 (s14 r1007.1) [] [] fun r1008=>.call 9001 s29 [] [] fun r1009=>.call 9003 (s19 r1009.fj (bs [107,101,121])) [] [] fun r1010=>.call 10002 (s20 r1010.1 (bs [107,101,121])) [] [] fun r1011=>.call 11002 (s20 r1010.1 (bs [111,116,104,101,114])) [] [] fun r1012=>.cnd 12 [0] (.br 12004 (r998.2==0) (.br 12008 (r999.2==0) (.br 12012 (r1000.2==0) (.br 12016 (r1000.1==0) (.br 12020 (r1001.2.2==0) (.call 12021 s29 [] [] fun r1013=>.view 12023 (s31 r1001.2.1 [r1013]) [] fun r1014=>.br 12026 r1014 (.br 12030 (r1003.2.2==0) (.view 12033 (s31 r1003.2.1 [(Y6.mk r1004.fG r1005.fG (U7.mk 2 0 0 false 0 false r1006.fG))]) [] fun r1015=>.br 12036 r1015 (.view 12039 (s32 r1003.1.fN [0]) [] fun r1016=>.br 12042 r1016 (.br 12046 (r1007.2.2==0) (.br 12051 ((Y9 Z8 r1007.2.1)==0) (.br 12055 (r1008.2==0) (.br 12059 (r1008.1==2) (.br 12063 (r1010.2==0) (.br 12067 (r1011.2==0) (.call 12068 s29 [] [] fun r1017=>.br 12073 ((r1011.1.fy==r1017.fj.fy)&&((r1011.1.fp==r1017.fj.fp)&&((r1011.1.ft==r1017.fj.ft)&&((r1011.1.fo==r1017.fj.fo)&&((r1011.1.fC==r1017.fj.fC)&&((r1011.1.fF==r1017.fj.fF)&&((decide (r1011.1.fO.fe=r1017.fj.fO.fe))&&((r1011.1.fO.fh==r1017.fj.fO.fh)&&true)))))))) (.br 12077 (r1012.2==9) (.call 12078 (s13 r1001.1) [] [] fun r1018=>.br 12082 (r1018==0) (.call 12083 (s13 (Y0.mk (Y3.mk false [] [] []) 0 0 0 0 0 [] [] [])) [] [] fun r1019=>.done (r1019==111)) (.done false)) (.done false)) (.done false)) (.done false)) (.done false)) (.done false)) (.done false)) (.done false)) (.done false)) (.done false)) (.done false)) (.done false)) (.done false)) (.done false)) (.done false)) (.done false)) (.done false)) (.done false)) (fun(c1020:Bool)=>[.bool c1020]) fun c1020=>.done c1020
theorem k8 :FnD Tryz.prog GG [0,1,2,3,4,5,6,7,8,9,10,11,12,13,14,15,16,17,18,19,20,22] Tryz.f8 [] (g8) (fun r=>.bool r):=by unfold FnD;kernel_rfl
def s8 :Sp (Bool):=.ofFn 8 Z0 Tryz.func8 (k8)
def aFnd:Code→Code
 | .seq _ (.seq _ (.seq _ (.seq _ (.seq _ (.seq _ (.seq _ (.seq _ (.seq _ (.seq c _)))))))))=>c
 | _=>.skip
def akC:Code:=aFnd (Tryz.f3.body.getD .skip)
def akO27:Array Oper:=rOps (cL akC)
def akLp:Code:=cB (cB (cR akC))
def akO28:Array Oper:=rOps (cL akLp)
def akBd:Code:=cB (cR (cR akLp))
def akO29:Array Oper:=rOps (cL akBd)
def akO30:Array Oper:=rOps (cL (cR akBd))
def akT:Code→Code
 | .cond _ x _=>x
 | _=>.skip
def akX:Code:=akT (cR (cR akBd))
theorem eAk:akC=.seq (.region 27 akO27 false) (.block 4 (.loop (.seq (.region 28 akO28 false) (.seq (.cond (.tmp 146) .skip (.exit 4)) (.block 5 (.seq (.region 29 akO29 false) (.seq (.region 30 akO30 false) (.cond (.tmp 150) akX .skip)))))))):=by kernel_rfl
def akE:Ext:=Ext.of .normal [] [] [] (by rfl)
def akN:Ext:=Ext.of .normal [(17,.i 4)] [] [] (by rfl)
def akF:Ext:=Ext.of .normal [(150,.bool false)] [] [] (by rfl)
def xAk(l:List U3):Ext:=Ext.of .normal [(6,.mp 700065)] [] [BT.of 700065 O5 1048833 l true] (by rfl)
theorem kAk:A0 Tryz.prog GG [150] 151 30 akO30 2 akN (.done ():TT Unit) (fun _=>akF):=by unfold A0;kernel_rfl
def askB(x:U3)(_:Unit):Option Unit:=if x.fv=4 then some () else none
def askM(l:List U3):Option Unit:=G6 askB l ()
theorem loopAsk(l:List U3){r:Unit}(h:askM l=some r):TV Tryz.prog GG akC ((xAk l).D 151).st (fun e st=>e=.normal∧Gst GG st (akE.D 151).st):=by
 rw[eAk]
 have key:=TV.rangeMapC (P:=Tryz.prog) (G:=GG) (ty:=O5) (z:=1048833) (b:=700065) (mt:=40) (kt:=3) (et:=3) (n:=151) (ex:=true) (l:=l) (kd:=.i64) (fv:=fun x=>x.fv) (i29:=27) (i30:=28) (i31:=29) (B:=4) (B2:=5) (ops29:=akO27) (ops30:=akO28) (ops31:=akO29)
  (C:=.seq (.region 30 akO30 false) (.cond (.tmp 150) akX .skip)) (tm:=6) (t0:=143) (it:=144) (tn:=145) (tb:=146) (te:=147) (tw:=148) (tv:=17) (st:=((xAk l).D 151).st) (S:=fun _:Unit=>(akE.D 151).st) (body:=askB) (s0:=()) (r:=r)
  (by kernel_rfl) (by kernel_rfl) (by kernel_rfl) (by decide) (by decide) (by kernel_rfl) ⟨by decide,by decide⟩ (by decide) rfl rfl rfl (fun x=>rfl) (fun _=>⟨rfl,rfl,rfl,rfl,rfl,rfl,rfl⟩)
  (M3 akE (by rfl) rfl ⟨by rfl,by rfl⟩) (fun x s s' hs=>?_) (fun x y s=>by unfold askB;by_cases h1:x.fv=4<;>by_cases h2:y.fv=4<;>simp[h1,h2]) h
 ·exact key.mono fun e st hq=>⟨hq.1,by rw[hq.2];exact Gst.same _⟩
 ·have hx:x.fv=4:=by
   unfold askB at hs
   split at hs
   ·assumption
   ·cases hs
  rw[hx]
  have e:((akE.D 151).st).setT 17 (.int .i64 4)=(akN.D 151).st:=by
   refine St.ext' rfl fun l=>?_
   cases l with
   | b j=>exact⟨rfl,rfl⟩
   | t j=>
    show (if j=17 then V.int .i64 4 else tOf [] j)=tOf [(17,.int .i64 4)] j
    unfold tOf
    by_cases hj:j=17
    ·subst hj;rfl
    ·have:((17:Nat)==j)=false:=by simpa using fun e=>hj e.symm
     rw[if_neg hj];simp[this]
  rw[e]
  refine rangeMap_look (st':=(akF.D 151).st) (by kernel_rfl) ?_ rfl ?_
  ·exact((kAk).tv Z0 (r:=()) rfl (by rfl))
  ·exact⟨rfl,M3 akE (by rfl) rfl ⟨by rfl,by rfl⟩⟩
def subAsk(l:List U3):Sub Tryz.prog GG Unit:=
 ⟨akC,151,xAk l,askM l,fun _=>akE,fun _ h=>loopAsk l h⟩
structure SDraft where
 fy:Int
 fX:Int
 fG:Int
 fT:Int
 gu:Int
 gn:Int
structure SEvent where
 gy:Int
 gb:Int
 gc:Int
 fp:Int
 gz:Int
 fC:Int
 fo:Bool
 fF:Bool
structure SDraft1 where
 fu:(List SDraft)
 fw:(List SDraft)
 fo:Bool
 fC:Int
 gx:(List SEvent)
def W1:Ty SDraft:=⟨fun x=>[.int .u8 x.fy,.int .u8 x.fX,.int .u8 x.fG,.int .u8 x.fT,.int .u8 x.gu,.int .u16 x.gn],fun x=>[.int .u8 x.fy,.int .u8 x.fX,.int .u8 x.fG,.int .u8 x.fT,.int .u8 x.gu,.int .u16 x.gn],fun _=>rfl,fun _=>rfl,fun _ _=>rfl,fun _=>rfl⟩
def P4:Ty SEvent:=⟨fun x=>[.int .u8 x.gy,.int .u8 x.gb,.int .u8 x.gc,.int .u8 x.fp,.int .u16 x.gz,.int .u8 x.fC,.bool x.fo,.bool x.fF],fun x=>[.int .u8 x.gy,.int .u8 x.gb,.int .u8 x.gc,.int .u8 x.fp,.int .u16 x.gz,.int .u8 x.fC,.bool x.fo,.bool x.fF],fun _=>rfl,fun _=>rfl,fun _ _=>rfl,fun _=>rfl⟩
def g45(p0:Int):TT (Z7):=.br 0 ((Int.tmod p0 8)==7) (.done (Z7.mk (strOfNums [32,1,13,184,0,0,0,0,0,0,0,0,0,0,0,(Int.tmod (wu8 (Int.tdiv p0 8)) 3)]) (Q4 ((1:Int)+(Q4 (wu8 (Int.tdiv p0 24))))))) (.done (Z7.mk (strOfNums [10,0,0,(Int.tmod p0 8)]) (Q4 ((1:Int)+(Q4 (Int.tmod (wu8 (Int.tdiv p0 8)) 4))))))
def s45(p0:Int):Sp (Z7):=.ofFn 45 Z0 Tryz.func45 (show FnD Pg GG [0,2,5] Tryz.f45 [.int .u8 p0] (g45 p0) (fun r=>.agg [.str r.fe,.i r.fh]) by unfold FnD;kernel_rfl)
def g35(p0:SDraft):TT (Q2):=.call 2003 (s45 p0.fG) [] [] fun r1025=>.call 2006 (s45 p0.fT) [] [] fun r1026=>.cnd 3 [35] (.br 3004 ((Q4 ((1:Int)+(Q4 (Int.tmod p0.fy 4))))==1) (.done true) (.br 3008 ((Q4 ((1:Int)+(Q4 (Int.tmod p0.fy 4))))==4) (.done true) (.done ((r1026.fe.size:Int) != (r1025.fe.size:Int))))) (fun(c1027:Bool)=>[.bool c1027]) fun c1027=>.bind 0 (.br 0 c1027 (.done (r1025.fe,r1025.fh)) (.done (r1026.fe,r1026.fh))) (fun(e1028:ByteArray×Int)=>Ext.l .normal [(1,.ptr 1 0 0),(2,.ptr 2 0 0),(3,.i (Q4 ((1:Int)+(Q4 (Int.tmod p0.fy 4))))),(4,.ptr 4 0 0),(5,.ptr 5 0 0),(6,.ptr 6 0 0)] [(1,⟨6,true,[(W1.c p0)]⟩),(2,⟨8,true,[[.i 0,.i 0,.i 0,.str ByteArray.empty,.str ByteArray.empty,.i 0,.str ByteArray.empty,.i 0]]⟩),(4,⟨2,true,[[.str r1025.fe,.i r1025.fh]]⟩),(5,⟨2,true,[[.str e1028.1,.i e1028.2]]⟩),(6,⟨2,true,[[.str ByteArray.empty,.i 0]]⟩)]) (fun e1028=>.cnd 5 [42] (.br 5004 ((Q4 ((1:Int)+(Q4 (Int.tmod p0.fy 4))))==3) (.done true) (.done ((Q4 ((1:Int)+(Q4 (Int.tmod p0.fy 4))))==4))) (fun(c1029:Bool)=>[.bool c1029]) fun c1029=>.bind 0 (.br 0 c1029 (.call 6003 (s45 p0.gu) [] [] fun r1030=>.done (r1030.fe,r1030.fh)) (.done (ByteArray.empty,0))) (fun(e1031:ByteArray×Int)=>Ext.l .normal [(1,.ptr 1 0 0),(2,.ptr 2 0 0),(3,.i (Q4 ((1:Int)+(Q4 (Int.tmod p0.fy 4))))),(4,.ptr 4 0 0),(5,.ptr 5 0 0),(6,.ptr 6 0 0)] [(1,⟨6,true,[(W1.c p0)]⟩),(2,⟨8,true,[[.i 0,.i 0,.i 0,.str ByteArray.empty,.str ByteArray.empty,.i 0,.str ByteArray.empty,.i 0]]⟩),(4,⟨2,true,[[.str r1025.fe,.i r1025.fh]]⟩),(5,⟨2,true,[[.str e1028.1,.i e1028.2]]⟩),(6,⟨2,true,[[.str e1031.1,.i e1031.2]]⟩)]) (fun e1031=>.call 7015 (s74 (Q4 ((1:Int)+(Q4 (Int.tmod p0.fy 4)))) r1025 (Z7.mk e1028.1 e1028.2) (Z7.mk e1031.1 e1031.2) (Q4 ((1:Int)+(Int.tmod (Q4 p0.gn) 65535))) (Q4 ((1:Int)+(Q4 (Int.tmod p0.fX 2))))) [] [] fun r1032=>.done r1032.1))
def s35(p0:SDraft):Sp (Q2):=.ofFn 35 Z0 Tryz.func35 (show FnD Pg GG [0,1,2,3,4,5,6,7,35,42] Tryz.f35 [.agg (W1.c p0)] (g35 p0) (fun r=>.agg (Q0.c r)) by unfold FnD;kernel_rfl)
def g10(p0:List SDraft)(p1:Int):TT ((List Q2)):=.gh 1 (.virt 600156 5 8) (.bind 0 (.lp (fun(l1026:(List Q2)×Int)=>Ext.of .normal [(0,Sl 6 W1 p0),(1,.i p1),(4,.nilsl),(5,Rf 600156 l1026.1),(6,.i l1026.2)] [] [Bt 600156 Q0 8 l1026.1] (by rfl)) (fun l1026=>.cnd 3 [16] (.br 3006 (decide (l1026.2 < (Y9 W1 p0))) (.done (decide (l1026.2 < p1))) (.done false)) (fun(c1027:Bool)=>[.bool c1027]) fun c1027=>.br 0 c1027 (.row 5003 W1 p0 l1026.2.toNat (decide (0≤l1026.2)) fun x1028=>.call 10003 (s35 (SDraft.mk x1028.fy 0 (Int.tmod x1028.fG 7) (Int.tmod x1028.fT 7) (Int.tmod x1028.gu 7) x1028.gn)) [] [] fun r1029=>.app 10005 Q0 l1026.1 [r1029] 88 false (by intro h;cases h) (.gh 0 (.drop [600156]) (.gh 0 (.ren 40 600156) (.done (.inl ((l1026.1++[r1029]),(Q4 (l1026.2+1)))))))) (.done (.inr l1026.1))) ([],0)) (fun(e1030:(List Q2))=>Ext.of (.exit 0) [(4,.nilsl),(5,Rf 600156 e1030)] [] [Bt 600156 Q0 8 e1030] (by rfl)) (fun e1030=>.gh 0 (.share (VwW.o 600156 Q0 e1030) 1) (.done e1030)))
def s10(p0:List SDraft)(p1:Int):Sp ((List Q2)):=.ofFn 10 Z0 Tryz.func10 (show FnD Pg GG [0,1,4,5,6,7,16] Tryz.f10 [Sl 6 W1 p0,.i p1] (g10 p0 p1) (fun r=>Sl 8 Q0 r) by unfold FnD;kernel_rfl)
def g3(p0:SDraft1):TT (Bool):=.call 1001 s8 [] [] fun r1021=>.br 0 (!r1021) (.done false) (.call 3003 (s10 p0.fu 6) [] [] fun r1031=>.call 3006 (s10 p0.fw 6) [] [] fun r1032=>.call 3012 (s9 r1031 r1032 p0.fo (Q4 p0.fC) 0) [] [] fun r1033=>.cnd 4 [46] (.br 4004 (r1033.2 != 0) (.done true) (.done ((Y9 Z1 r1033.1.fQ) != (Y9 Q3 r1033.1.fc.fm)))) (fun(c1034:Bool)=>[.bool c1034]) fun c1034=>.br 0 c1034 (.done false) (.opr 7001 (Rule.makeMap 40 51 1048833 (by decide)) fun _=>.bind2 1 (.lp (fun(l1048:Bool×(List Q2)×(List Q2)×(List Q6)×Int×Int×Int×Int×Int×(List Int)×(List Bool)×(List Q8)×(List U3)×Int×Int×Int)=>Ext.of .normal [(1,.ptr 1 0 0),(2,.bool false),(3,.ptr 3 0 0),(5,.i l1048.q.q.q.2.1),(6,.mp 51),(54,.i l1048.q.q.q.2.2.1),(55,.i l1048.q.q.q.2.2.2)] [(1,⟨5,true,[[Sl 6 W1 p0.fu,Sl 6 W1 p0.fw,.bool p0.fo,.int .u8 p0.fC,Sl 8 P4 p0.gx]]⟩),(3,⟨12,true,[[.bool l1048.1,Sl 8 Q0 l1048.2.1,Sl 8 Q0 l1048.2.2.1,Sl 4 Q3 l1048.2.2.2.1,.i l1048.q.1,.i l1048.q.2.1,.i l1048.q.2.2.1,.i l1048.q.2.2.2.1,.i l1048.q.q.1,Sl 1 Z2 l1048.q.q.2.1,Sl 1 Z1 l1048.q.q.2.2.1,Sl 6 Q5 l1048.q.q.2.2.2.1]]⟩)] [Bt 51 O5 1048833 l1048.q.q.q.1] (by rfl)) (fun l1048=>.br 0 (decide (l1048.q.q.q.2.2.2 < l1048.q.q.q.2.2.1)) (.call 10002 (s11 (Y0.mk (Y3.mk l1048.1 l1048.2.1 l1048.2.2.1 l1048.2.2.2.1) l1048.q.1 l1048.q.2.1 l1048.q.2.2.1 l1048.q.2.2.2.1 l1048.q.q.1 l1048.q.q.2.1 l1048.q.q.2.2.1 l1048.q.q.2.2.2.1)) [] [] fun r1049=>.br 0 (r1049.2==4) (.done (.inr (.inl (l1048.q.q.q.1,l1048.1,l1048.2.1,l1048.2.2.1,l1048.2.2.2.1,l1048.q.1,l1048.q.2.1,l1048.q.2.2.1,l1048.q.2.2.2.1,l1048.q.q.1,l1048.q.q.2.1,l1048.q.q.2.2.1,l1048.q.q.2.2.2.1,l1048.q.q.q.2.1)))) (.call 12003 (s12 (Y0.mk (Y3.mk l1048.1 l1048.2.1 l1048.2.2.1 l1048.2.2.2.1) l1048.q.1 l1048.q.2.1 l1048.q.2.2.1 l1048.q.2.2.2.1 l1048.q.q.1 l1048.q.q.2.1 l1048.q.q.2.2.1 l1048.q.q.2.2.2.1) r1049.1) [] [] fun r1050=>.cnd 13 [93] (.br 13004 (r1049.2 != 0) (.done true) (.br 13008 (r1050.2.2 != 0) (.done true) (.call 13009 (s13 r1050.1) [] [] fun r1051=>.br 13013 (r1051 != 0) (.done true) (.br 13019 (decide (r1049.1 < l1048.q.2.1)) (.done true) (.done (decide ((Q4 (l1048.q.q.q.2.1 * 3050)) < r1049.1))))))) (fun(c1052:Bool)=>[.bool c1052]) fun c1052=>.br 0 c1052 (.done (.inr (.inr (l1048.q.q.q.1,l1048.1,l1048.2.1,l1048.2.2.1,l1048.2.2.2.1,l1048.q.1,l1048.q.2.1,l1048.q.2.2.1,l1048.q.2.2.2.1,l1048.q.q.1,l1048.q.q.2.1,l1048.q.q.2.2.1,l1048.q.q.2.2.2.1,l1048.q.q.q.2.1)))) (.bind2 1 (.lp (fun(l1056:(List U3)×Int)=>Ext.of .normal [(1,.ptr 1 0 0),(2,.bool false),(3,.ptr 3 0 0),(5,.i l1048.q.q.q.2.1),(6,.mp 51),(9,.ptr 9 0 0),(54,.i l1048.q.q.q.2.2.1),(55,.i l1048.q.q.q.2.2.2),(94,Sl 12 Z8 r1050.2.1),(95,.i (Y9 Z8 r1050.2.1)),(96,.i l1056.2)] [(1,⟨5,true,[[Sl 6 W1 p0.fu,Sl 6 W1 p0.fw,.bool p0.fo,.int .u8 p0.fC,Sl 8 P4 p0.gx]]⟩),(3,⟨12,true,[[.bool l1048.1,Sl 8 Q0 l1048.2.1,Sl 8 Q0 l1048.2.2.1,Sl 4 Q3 l1048.2.2.2.1,.i l1048.q.1,.i l1048.q.2.1,.i l1048.q.2.2.1,.i l1048.q.2.2.2.1,.i l1048.q.q.1,Sl 1 Z2 l1048.q.q.2.1,Sl 1 Z1 l1048.q.q.2.2.1,Sl 6 Q5 l1048.q.q.2.2.2.1]]⟩),(9,⟨12,true,[[.bool r1050.1.fc.fo,Sl 8 Q0 r1050.1.fc.fu,Sl 8 Q0 r1050.1.fc.fw,Sl 4 Q3 r1050.1.fc.fm,.i r1050.1.fC,.i r1050.1.fP,.i r1050.1.fK,.i r1050.1.fI,.i r1050.1.fV,Sl 1 Z2 r1050.1.fN,Sl 1 Z1 r1050.1.fQ,Sl 6 Q5 r1050.1.fA]]⟩)] [Bt 51 O5 1048833 l1056.1] (by rfl)) (fun l1056=>.br 0 (decide (l1056.2 < (Y9 Z8 r1050.2.1))) (.row 17001 Z8 r1050.2.1 l1056.2.toNat (decide (0≤l1056.2)) fun x1057=>.cnd 18 [116] (.br 18006 (x1057.fj.fy != 1) (.done true) (.br 18011 x1057.fj.fF (.done true) (.done (!(x1057.fj.fo==p0.fo))))) (fun(c1058:Bool)=>[.bool c1058]) fun c1058=>.br 0 c1058 (.done (.inr (.inl (l1056.1,r1050.1.fc.fo,r1050.1.fc.fu,r1050.1.fc.fw,r1050.1.fc.fm,r1050.1.fC,r1050.1.fP,r1050.1.fK,r1050.1.fI,r1050.1.fV,r1050.1.fN,r1050.1.fQ,r1050.1.fA)))) (.opr 20005 (Rule.look (mt:=40) (kt:=3) (et:=3) (z:=1048833) (ty:=O5) (p:=(fun x=>(x1057.fj.fp==x.fk))) (kc:=[.int .i64 x1057.fj.fp]) (.tmp 117) (.tmp 120) 121 51 true l1056.1 (.int .i64 0) (.int .i64 (K8 l1056.1 (fun x=>(x1057.fj.fp==x.fk)) (fun x=>x.fv) 0)) ⟨by kernel_rfl,by kernel_rfl,by kernel_rfl,fun _=>by kernel_rfl⟩ (by kernel_rfl) (R8 _ _ (fun x:U3=>x.fv) 0 (V.int .i64))) fun _=>.opr 20007 (Rule.put (mt:=40) (kt:=3) (et:=3) (z:=1048833) (ty:=O5) (p:=(fun x=>(x1057.fj.fp==x.fk))) (kc:=[.int .i64 x1057.fj.fp]) (.tmp 117) (.tmp 120) (.tmp 122) 51 l1056.1 (U3.mk x1057.fj.fp (Q4 ((K8 l1056.1 (fun x=>(x1057.fj.fp==x.fk)) (fun x=>x.fv) 0)+1))) [.int .i64 (Q4 ((K8 l1056.1 (fun x=>(x1057.fj.fp==x.fk)) (fun x=>x.fv) 0)+1))] ⟨by kernel_rfl,by kernel_rfl,by kernel_rfl,fun _=>by kernel_rfl⟩ (by rfl) (by kernel_rfl) (by kernel_rfl) (by decide) (by decide)) fun _=>.done (.inl ((mput l1056.1 (fun x=>(x1057.fj.fp==x.fk)) (U3.mk x1057.fj.fp (Q4 ((K8 l1056.1 (fun x=>(x1057.fj.fp==x.fk)) (fun x=>x.fv) 0)+1)))),(Q4 (l1056.2+1)))))) (.done (.inr (.inr (l1056.1,r1050.1.fc.fo,r1050.1.fc.fu,r1050.1.fc.fw,r1050.1.fc.fm,r1050.1.fC,r1050.1.fP,r1050.1.fK,r1050.1.fI,r1050.1.fV,r1050.1.fN,r1050.1.fQ,r1050.1.fA))))) (l1048.q.q.q.1,0)) (fun(e1059:(List U3)×Bool×(List Q2)×(List Q2)×(List Q6)×Int×Int×Int×Int×Int×(List Int)×(List Bool)×(List Q8))=>Ext.of .ret [(1,.ptr 1 0 0),(2,.bool false),(3,.ptr 3 0 0),(5,.i l1048.q.q.q.2.1),(6,.mp 51),(9,.ptr 9 0 0),(54,.i l1048.q.q.q.2.2.1),(55,.i l1048.q.q.q.2.2.2)] [(1,⟨5,true,[[Sl 6 W1 p0.fu,Sl 6 W1 p0.fw,.bool p0.fo,.int .u8 p0.fC,Sl 8 P4 p0.gx]]⟩),(3,⟨12,true,[[.bool l1048.1,Sl 8 Q0 l1048.2.1,Sl 8 Q0 l1048.2.2.1,Sl 4 Q3 l1048.2.2.2.1,.i l1048.q.1,.i l1048.q.2.1,.i l1048.q.2.2.1,.i l1048.q.2.2.2.1,.i l1048.q.q.1,Sl 1 Z2 l1048.q.q.2.1,Sl 1 Z1 l1048.q.q.2.2.1,Sl 6 Q5 l1048.q.q.2.2.2.1]]⟩),(9,⟨12,true,[[.bool e1059.2.1,Sl 8 Q0 e1059.2.2.1,Sl 8 Q0 e1059.2.2.2.1,Sl 4 Q3 e1059.q.1,.i e1059.q.2.1,.i e1059.q.2.2.1,.i e1059.q.2.2.2.1,.i e1059.q.q.1,.i e1059.q.q.2.1,Sl 1 Z2 e1059.q.q.2.2.1,Sl 1 Z1 e1059.q.q.2.2.2.1,Sl 6 Q5 e1059.q.q.q]]⟩)] [Bt 51 O5 1048833 e1059.1] (by rfl)) (fun(e1060:(List U3)×Bool×(List Q2)×(List Q2)×(List Q6)×Int×Int×Int×Int×Int×(List Int)×(List Bool)×(List Q8))=>Ext.of (.exit 2) [(1,.ptr 1 0 0),(2,.bool false),(3,.ptr 3 0 0),(5,.i l1048.q.q.q.2.1),(6,.mp 51),(9,.ptr 9 0 0),(54,.i l1048.q.q.q.2.2.1),(55,.i l1048.q.q.q.2.2.2)] [(1,⟨5,true,[[Sl 6 W1 p0.fu,Sl 6 W1 p0.fw,.bool p0.fo,.int .u8 p0.fC,Sl 8 P4 p0.gx]]⟩),(3,⟨12,true,[[.bool l1048.1,Sl 8 Q0 l1048.2.1,Sl 8 Q0 l1048.2.2.1,Sl 4 Q3 l1048.2.2.2.1,.i l1048.q.1,.i l1048.q.2.1,.i l1048.q.2.2.1,.i l1048.q.2.2.2.1,.i l1048.q.q.1,Sl 1 Z2 l1048.q.q.2.1,Sl 1 Z1 l1048.q.q.2.2.1,Sl 6 Q5 l1048.q.q.2.2.2.1]]⟩),(9,⟨12,true,[[.bool e1060.2.1,Sl 8 Q0 e1060.2.2.1,Sl 8 Q0 e1060.2.2.2.1,Sl 4 Q3 e1060.q.1,.i e1060.q.2.1,.i e1060.q.2.2.1,.i e1060.q.2.2.2.1,.i e1060.q.q.1,.i e1060.q.q.2.1,Sl 1 Z2 e1060.q.q.2.2.1,Sl 1 Z1 e1060.q.q.2.2.2.1,Sl 6 Q5 e1060.q.q.q]]⟩)] [Bt 51 O5 1048833 e1060.1] (by rfl)) (fun e1059=>.done (.inr (.inr (e1059.1,l1048.1,l1048.2.1,l1048.2.2.1,l1048.2.2.2.1,l1048.q.1,l1048.q.2.1,l1048.q.2.2.1,l1048.q.2.2.2.1,l1048.q.q.1,l1048.q.q.2.1,l1048.q.q.2.2.1,l1048.q.q.2.2.2.1,l1048.q.q.q.2.1)))) (fun e1060=>.done (.inl (e1060.2.1,e1060.2.2.1,e1060.2.2.2.1,e1060.q.1,e1060.q.2.1,e1060.q.2.2.1,e1060.q.2.2.2.1,e1060.q.q.1,e1060.q.q.2.1,e1060.q.q.2.2.1,e1060.q.q.2.2.2.1,e1060.q.q.q,e1060.1,l1048.q.q.q.2.1,l1048.q.q.q.2.2.1,(Q4 (l1048.q.q.q.2.2.2+1)))))))) (.done (.inr (.inl (l1048.q.q.q.1,l1048.1,l1048.2.1,l1048.2.2.1,l1048.2.2.2.1,l1048.q.1,l1048.q.2.1,l1048.q.2.2.1,l1048.q.2.2.2.1,l1048.q.q.1,l1048.q.q.2.1,l1048.q.q.2.2.1,l1048.q.q.2.2.2.1,l1048.q.q.q.2.1))))) (r1033.1.fc.fo,r1033.1.fc.fu,r1033.1.fc.fw,r1033.1.fc.fm,r1033.1.fC,r1033.1.fP,r1033.1.fK,r1033.1.fI,r1033.1.fV,r1033.1.fN,r1033.1.fQ,r1033.1.fA,[],(Y9 Q3 r1033.1.fc.fm),(Q4 ((Q4 ((5:Int) * (Y9 Q3 r1033.1.fc.fm)))+1)),0)) (fun(e1061:(List U3)×Bool×(List Q2)×(List Q2)×(List Q6)×Int×Int×Int×Int×Int×(List Int)×(List Bool)×(List Q8)×Int)=>Ext.of (.exit 0) [(2,.bool false),(3,.ptr 3 0 0),(5,.i e1061.q.q.q.2),(6,.mp 51)] [(3,⟨12,true,[[.bool e1061.2.1,Sl 8 Q0 e1061.2.2.1,Sl 8 Q0 e1061.2.2.2.1,Sl 4 Q3 e1061.q.1,.i e1061.q.2.1,.i e1061.q.2.2.1,.i e1061.q.2.2.2.1,.i e1061.q.q.1,.i e1061.q.q.2.1,Sl 1 Z2 e1061.q.q.2.2.1,Sl 1 Z1 e1061.q.q.2.2.2.1,Sl 6 Q5 e1061.q.q.q.1]]⟩)] [Bt 51 O5 1048833 e1061.1] (by rfl)) (fun(e1062:(List U3)×Bool×(List Q2)×(List Q2)×(List Q6)×Int×Int×Int×Int×Int×(List Int)×(List Bool)×(List Q8)×Int)=>Ext.of .ret [(2,.bool false),(3,.ptr 3 0 0),(5,.i e1062.q.q.q.2),(6,.mp 51)] [(3,⟨12,true,[[.bool e1062.2.1,Sl 8 Q0 e1062.2.2.1,Sl 8 Q0 e1062.2.2.2.1,Sl 4 Q3 e1062.q.1,.i e1062.q.2.1,.i e1062.q.2.2.1,.i e1062.q.2.2.2.1,.i e1062.q.q.1,.i e1062.q.q.2.1,Sl 1 Z2 e1062.q.q.2.2.1,Sl 1 Z1 e1062.q.q.2.2.2.1,Sl 6 Q5 e1062.q.q.q.1]]⟩)] [Bt 51 O5 1048833 e1062.1] (by rfl)) (fun e1061=>.call 24002 (s14 (Y0.mk (Y3.mk e1061.2.1 e1061.2.2.1 e1061.2.2.2.1 e1061.q.1) e1061.q.2.1 e1061.q.2.2.1 e1061.q.2.2.2.1 e1061.q.q.1 e1061.q.q.2.1 e1061.q.q.2.2.1 e1061.q.q.2.2.2.1 e1061.q.q.q.1)) [] [] fun r1063=>.cnd 25 [142] (.br 25004 (r1063.2 != 0) (.done true) (.br 25008 (r1063.1 != 4) (.done true) (.opr 25009 (Rule.mapLen (ty:=O5) (t:=40) (kt:=3) (et:=3) (.tmp 138) 139 51 1048833 true e1061.1 (by kernel_rfl)) fun _=>.done ((e1061.1.length:Int) != e1061.q.q.q.2)))) (fun(c1064:Bool)=>[.bool c1064]) fun c1064=>.br 0 c1064 (.done false) (.gh 1 (.ren 51 700065) (.sub (subAsk e1061.1) fun r1065=>.done true))) (fun e1062=>.done false)))
theorem k3(p0:SDraft1):FnD Tryz.prog GG [0,1,2,3,4,5,6,7,8,9,10,11,13,14,15,17,19,46,54,55,56,63,93,94,95,96,97,116,142,146,150] Tryz.f3 [.agg [.sl false 6 (List.map W1.c p0.fu),.sl false 6 (List.map W1.c p0.fw),.bool p0.fo,.int .u8 p0.fC,.sl false 8 (List.map P4.c p0.gx)]] (g3 p0) (fun r=>.bool r):=by unfold FnD;kernel_rfl
def s3(p0:SDraft1):Sp (Bool):=.ofFn 3 Z0 Tryz.func3 (k3 p0)
theorem okMIN(l:List Int)(hn:0 < l.length)(hl:l.length≤1000):SOk (s38 l) (fun r=>r∈l∧∀x,x∈l→r≤x):=by
 unfold s38
 refine SOk.d ?_
 unfold g38
 simp only[E7]
 have h0:l[0]?=some (l[0]'hn):=ζd hn
 refine Ok.f (ξs (by omega)) (Ok.r rfl h0 (Ok.b (R:=fun r=>r∈l∧∀x,x∈l→r≤x) ?_ fun e he=>Ok.d he))
 refine Ok.s (l.length - 1) (by omega) (fun k y=>y.2=((k+1:Nat):Int)∧y.1∈l∧∀j x,j < k+1→l[j]?=some x→y.1≤x) ⟨rfl,ζi h0,fun j x hj hx=>?_⟩ (fun k y hy hk=>?_) (fun y hy=>?_)
 ·have:j=0:=by omega
  subst this
  rw[h0] at hx;obtain rfl:=ζR hx
  exact ζL _
 ·obtain⟨m,y2⟩:=y
  obtain⟨hi,hm,hd⟩:=hy
  simp only at hi hm hd
  subst hi
  obtain⟨x,hx1,hx2⟩:=A6 (l:=l) (k:=k+1) (by omega)
  refine Ok.t (by simp;omega) (Ok.r (by simp;omega) hx1 (Ok.d ⟨?_,?_,?_⟩))
  ·exact J9 (k:=k+1) (n:=l.length) (by omega) (by omega)
  ·show (if x < m then x else m)∈l
   split
   ·exact ζi hx2
   ·exact hm
  ·intro j z hj hz
   show (if x < m then x else m)≤z
   rcases ζN j (k+1) with h1|h1
   ·have:=hd j z h1 hz
    split<;>omega
   ·have:j=k+1:=by omega
    subst this
    rw[hx2] at hz;obtain rfl:=ζR hz
    split<;>omega
 ·obtain⟨m,y2⟩:=y
  obtain⟨hi,hm,hd⟩:=hy
  simp only at hi hm hd
  subst hi
  refine Ok.f (ξs (by omega)) (Ok.d ⟨hm,fun x hx=>?_⟩)
  obtain⟨j,hj⟩:=ζh.1 hx
  exact hd j x (by have:=(ζe.1 hj).1;omega) hj
def E6(l:Y3):Prop:=∃r,(s93 l).o=some r∧r.2=0
theorem ready_iff{l:Y3}{r:Int×Int}(h:(s93 l).o=some r):(r.2==0)=true↔E6 l:=by
 rw[beq_iff_eq]
 refine⟨fun e=>⟨r,h,e⟩,fun⟨q,q1,q2⟩=>?_⟩
 rw[h] at q1
 rw[ζR q1];exact q2
theorem okRDY(c:Bool)(ls rs:List Q2)(ps:List Q6)(tie now next ser:Int)(nm:List Bool)(ck:List Q8)(hv:X6 ⟨c,ls,rs,ps⟩)(hs:ser≤36) :
  SOk (s37 c ls rs ps tie now next ser (-1) [] nm ck) (fun r=>r=true↔E6 ⟨c,ls,rs,ps⟩):=by
 unfold s37
 refine SOk.d ?_
 unfold g37
 obtain⟨r,er,hr⟩:=okNEXTW _ hv
 refine Ok.n (R:=fun c=>c=false) (Ok.f rfl (Ok.d (by rw[ζY];omega))) fun c hc=>Ok.f hc ?_
 refine Ok.c (SOk.o er) fun q hq=>Ok.n (R:=fun c=>c=true↔E6 _) (Ok.f rfl (Ok.d ?_)) fun c hc=>Ok.d hc
 rw[hq];exact ready_iff er
theorem okRDY1(w:M5)(hv:X6 w.fB.fc)(h1:w.fB.fV=-1)(h2:w.fB.fN=[])(h3:w.fB.fI≤36):SOk (s37_1 w) (fun r=>r=true↔E6 w.fB.fc):=by
 unfold s37_1
 refine SOk.d ?_
 unfold g37_1
 rw[h1,h2]
 obtain⟨r,er,hr⟩:=okNEXTW _ hv
 refine Ok.n (R:=fun c=>c=false) (Ok.f rfl (Ok.d (by rw[ζY];omega))) fun c hc=>Ok.f hc ?_
 refine Ok.c (SOk.o er) fun q hq=>Ok.n (R:=fun c=>c=true↔E6 _) (Ok.f rfl (Ok.d ?_)) fun c hc=>Ok.d hc
 rw[hq];exact ready_iff er
def WakeR(a:Y0)(r:Int×Int):Prop:=
 (r.2=4∧a.fA=[]∧¬E6 a.fc)∨
 (r.2=0∧a.fP≤r.1∧(∀c,c∈a.fA→r.1≤c.gd)∧(E6 a.fc→r.1≤a.fK)∧((∃c,c∈a.fA∧c.gd=r.1)∨(E6 a.fc∧a.fK=r.1)))
theorem okWAKE{n:Int}{ctl:Bool}{a:Y0}(h:AInv n ctl a)(hr:E6 a.fc→a.fP≤a.fK):SOk (s11 a) (WakeR a):=by
 obtain⟨z1,z2,z3,z4,z5,z6,z7,z8⟩:=h.sz
 unfold s11
 refine SOk.d ?_
 unfold g11
 refine Ok.call2 (okST36 h) (fun r he=>he.elim) (fun r _=>Ok.ff (Ok.g ?_))
 refine Ok.b (R:=fun e=>e=a.fA.map (·.gd)) ?_ fun e he=>?_
 ·refine Ok.s a.fA.length (by omega) (fun k y=>y=((a.fA.take k).map (·.gd),(k:Int))) rfl (fun k y hy hk=>?_) (fun y hy=>?_)
  ·subst hy
   obtain⟨x,hx1,hx2⟩:=A6 hk
   refine Ok.t (by simp;omega) (Ok.k (by simp;omega) (Ok.r rfl (by rw[ξv];exact hx1) (Ok.app ?_ (Ok.g (Ok.g (Ok.d ?_))))))
   ·simp;omega
   ·exact Prod.ext (F5 hx2).symm (J9 hk (by omega))
  ·subst hy
   exact Ok.f (by simp) (Ok.d (by simp))
 subst he
 rw[h.cho,h.q]
 refine Ok.v (okRDY _ _ _ _ _ _ _ _ _ _ h.list (by omega)) fun rd hrd=>?_
 refine Ok.b (R:=fun e=>e=a.fA.map (·.gd)++(if rd=true then [a.fK] else [])) (Ok.e (fun e=>Ok.app (by simp;omega) (Ok.g (Ok.d (by rw[if_pos e])))) fun e=>Ok.g (Ok.d (by rw[e];simp))) fun e he=>?_
 have hmem:∀t,t∈e↔(∃c,c∈a.fA∧c.gd=t)∨(E6 a.fc∧t=a.fK):=fun t=>by
  rw[he,ζr,ζt]
  have:t∈(if rd=true then [a.fK] else [])↔E6 a.fc∧t=a.fK:=by
   cases rd with
   | true=>rw[if_pos rfl];simp only[ζu];exact⟨fun e=>⟨hrd.1 rfl,e⟩,fun e=>e.2⟩
   | false=>simp only[Bool.false_eq_true,if_false,ζw,false_iff];exact fun e=>by have:=hrd.2 e.1;cases this
  rw[this]
 refine Ok.e (fun h0=>Ok.d ?_) fun h0=>?_
 ·rw[beq_iff_eq] at h0
  have e0:e=[]:=List.eq_nil_of_length_eq_zero (by omega)
  refine .inl ⟨rfl,?_,fun hR=>?_⟩
  ·cases hc:a.fA with
   | nil=>rfl
   | cons c l=>
    have:=(hmem c.gd).2 (.inl ⟨c,by rw[hc];simp,rfl⟩)
    rw[e0] at this;simp at this
  ·have:=(hmem a.fK).2 (.inr ⟨hR,rfl⟩)
   rw[e0] at this;simp at this
 ·rw[ζY] at h0
  have hlen:e.length≤1000:=by
   rw[he,ζn,ζs]
   split<;>simp<;>omega
  refine Ok.v (okMIN e (by omega) hlen) fun t ht=>Ok.d ?_
  have hno:a.fP≤t:=by
   rcases(hmem t).1 ht.1 with⟨c,c1,c2⟩|⟨c1,c2⟩
   ·have:=(h.ck.each c c1).q.2.1;omega
   ·have:=hr c1;omega
  have e2:(if a.fP > t then a.fP else t)=t:=if_neg (by omega)
  rw[e2]
  refine .inr ⟨rfl,hno,fun c hc=>ht.2 _ ((hmem _).2 (.inl ⟨c,hc,rfl⟩)),fun hR=>ht.2 _ ((hmem _).2 (.inr ⟨hR,rfl⟩)),?_⟩
  rcases(hmem t).1 ht.1 with hc|⟨c1,c2⟩
  ·exact .inl hc
  ·exact .inr ⟨c1,c2.symm⟩
theorem okF98(l:List Q6)(h:∀x,x∈l→x.fD≠3)(hl:l.length≤1000000):SOk (s41 l) (fun r=>r=-1):=by
 show Ok (g41 l) _
 unfold g41
 refine Ok.c (R:=fun r=>r=-1) ?_ fun r hr=>Ok.d hr
 show Ok (g98 l) _
 unfold g98
 simp only[E7]
 refine Ok.p (R:=fun e=>match e with|.inl _=>False|.inr _=>True) ?_ (fun e he=>he.elim) (fun e _=>Ok.d rfl)
 refine Ok.s l.length hl (fun k y=>y=(k:Int)) rfl (fun k y hy hk=>?_) (fun y hy=>?_)
 ·subst hy
  obtain⟨x,hx1,hx2⟩:=A6 hk
  refine Ok.t (by simp;omega) (Ok.r (by simp) hx1 (Ok.c (R:=fun b=>b=false) ⟨_,rfl,?_⟩ fun b hb=>?_))
  ·show (x.fD==3)=false
   rw[ζY];exact h x (ζi hx2)
  ·subst hb;exact Ok.f rfl (Ok.d (J9 hk hl))
 ·subst hy;exact Ok.f (by simp) (Ok.d trivial)
theorem okF981(l:List Q6)(h:∀x,x∈l→x.fD=4)(hl:l.length≤1000000):SOk (s41_1 l) (fun r=>r=-1):=by
 show Ok (g41_1 l) _
 unfold g41_1
 refine Ok.c (R:=fun r=>r=-1) ?_ fun r hr=>Ok.d hr
 show Ok (g98_1 l) _
 unfold g98_1
 simp only[E7]
 refine Ok.p (R:=fun e=>match e with|.inl _=>False|.inr _=>True) ?_ (fun e he=>he.elim) (fun e _=>Ok.d rfl)
 refine Ok.s l.length hl (fun k y=>y=(k:Int)) rfl (fun k y hy hk=>?_) (fun y hy=>?_)
 ·subst hy
  obtain⟨x,hx1,hx2⟩:=A6 hk
  refine Ok.t (by simp;omega) (Ok.r (by simp) hx1 (Ok.c (R:=fun b=>b=false) ⟨_,rfl,?_⟩ fun b hb=>?_))
  ·show (x.fD != 4)=false
   rw[h x (ζi hx2)];rfl
  ·subst hb;exact Ok.f rfl (Ok.d (J9 hk hl))
 ·subst hy;exact Ok.f (by simp) (Ok.d trivial)
theorem AInv.no3{n:Int}{ctl:Bool}{a:Y0}(h:AInv n ctl a):∀x,x∈a.fc.fm→x.fD≠3:=fun x hx=>by
 have:=h.ck.st x hx
 unfold StP at this;omega
theorem AInv.over{n:Int}{ctl:Bool}{a:Y0}(h:AInv n ctl a)(h1:a.fA=[])(h2:¬E6 a.fc):(∀x,x∈a.fc.fm→x.fD=4)∧a.fI=n:=by
 obtain⟨r,er,hr⟩:=okNEXTW _ h.list
 have h4:∀x,x∈a.fc.fm→x.fD=4:=by
  rcases hr with⟨e,_⟩|⟨_,hr⟩
  ·exact absurd ⟨r,er,e⟩ h2
  ·have no2:∀x,x∈a.fc.fm→x.fD≠2:=fun x hx e=>by
    obtain⟨i,hi⟩:=ζh.1 hx
    obtain⟨c,c1,_⟩:=(h.ck.run i x hi).1 e
    rw[h1] at c1;simp at c1
   intro x hx
   have a1:=hr no2 x hx
   have a2:=no2 x hx
   have a3:=h.ck.st x hx
   unfold StP at a3;omega
 refine⟨h4,?_⟩
 rw[h.ck.ser,h.ck.len,List.countP_eq_length.2 fun x hx=>by unfold B8;rw[h4 x hx];rfl]
theorem okPHASE{n:Int}{ctl:Bool}{a:Y0}(h:AInv n ctl a)(h1:a.fA=[])(h2:¬E6 a.fc):SOk (s14 a) (fun r=>r=(4,0)):=by
 obtain⟨z1,z2,z3,z4,z5,z6,z7,z8⟩:=h.sz
 unfold s14
 refine SOk.d ?_
 unfold g14
 rw[h.cho,h.q,h1]
 refine Ok.call2 (okST36 h) (fun r he=>he.elim) (fun r _=>Ok.ff (Ok.f rfl (Ok.v (okF98 _ h.no3 (by omega)) fun r1 e1=>Ok.f (by rw[e1];rfl) (Ok.n (R:=fun c=>c=true) ?_ fun c hc=>Ok.t hc (Ok.d rfl)))))
 exact Ok.v (okF981 _ (h.over h1 h2).1 (by omega)) fun r2 e2=>Ok.t (by rw[e2];rfl) (Ok.d rfl)
theorem no_call{P:Program}{G:Nat→Option (List V)}{ρ α:Type}{a:Nat}{s:EV.Spec P G α}{Li Lo:List (Nat×Nat)}{k:α→T P G ρ}(h:∀r,(k r).run=none):(T.call a s Li Lo k).run=none:=by
 simp only[T.run]
 cases s.o with
 | none=>rfl
 | some r=>exact h r
theorem no_bind{P:Program}{G:Nat→Option (List V)}{ρ ε:Type}{j:Nat}{first:T P G ε}{E:ε→Ext}{k:ε→T P G ρ}(h:∀e,(k e).run=none):(T.bind j first E k).run=none:=by
 simp only[T.run]
 cases first.run with
 | none=>rfl
 | some r=>exact h r
theorem no_row{P:Program}{G:Nat→Option (List V)}{ρ α:Type}{a:Nat}{ty:Ty α}{l:List α}{j:Nat}{c:Bool}{k:α→T P G ρ}(h:∀x,l[j]?=some x→(k x).run=none):(T.row a ty l j c k).run=none:=by
 simp only[T.run]
 cases c with
 | false=>rfl
 | true=>
  simp only[cond_true]
  cases hx:l[j]? with
  | none=>rfl
  | some x=>exact h x hx
theorem no_chk{P:Program}{G:Nat→Option (List V)}{ρ:Type}{a:Nat}{c:Bool}{k:T P G ρ}(h:k.run=none):(T.chk a c k).run=none:=by
 simp only[T.run]
 cases c with
 | false=>rfl
 | true=>exact h
theorem no_brF{P:Program}{G:Nat→Option (List V)}{ρ:Type}{a:Nat}{c:Bool}{x y:T P G ρ}(hc:c=false)(h:y.run=none):(T.br a c x y).run=none:=by
 subst hc;exact h
theorem okR185:SOk s185 (fun _=>True):=by
 unfold s185
 refine SOk.d ?_
 unfold g185
 refine Ok.n (R:=fun _=>True) (Ok.c (N6 _ _ _) fun r hr=>Ok.e (fun _=>Ok.d trivial) fun _=>Ok.c (N6 _ _ _) fun r hr=>Ok.e (fun _=>Ok.d trivial) fun _=>Ok.c (N6 _ _ _) fun r hr=>Ok.d trivial) fun c _=>Ok.e (fun _=>Ok.d trivial) fun _=>Ok.ff (Ok.d trivial)
def AskH(x:Q8)(h:Y6):Prop:=h.fj.fy=1∧h.fj.fp=x.fp∧h.fj.fF=x.fF∧h.fj.fo=x.fo
theorem okPATH1(w:M5)(p:Int)(hv:X6 w.fB.fc)(h0:0≤p)(h1:p < (w.fB.fc.fm.length:Int)):SOk (s75_1 w p) (fun _=>True)∧SOk (s113_1 w p) (fun _=>True):=by
 obtain⟨x,hx⟩:=at_of h0 h1
 have hI:=(hv.2.1 x (ζi hx)).1
 constructor
 ·show Ok (g75_1 w p) _
  unfold g75_1
  exact Ok.r (by simpa using h0) hx (Ok.r hI.lc hI.loc (Ok.r hI.rc hI.rem (Ok.d trivial)))
 ·show Ok (g113_1 w p) _
  unfold g113_1
  exact Ok.c okR185 fun _ _=>Ok.r (by simpa using h0) hx (Ok.r hI.lc hI.loc (Ok.d trivial))
theorem okASK(x:Q8)(c:Bool)(tie now next ser cho:Int)(m:Nat)(ls rs:List Q2)(ps:List Q6)(q:List Int)(nm:List Bool)(ck:List Q8)(out:List Y6)
  (hv:X6 ⟨c,ls,rs,ps⟩) (h0:0≤x.fE) (h1:x.fE < (ps.length:Int)) (ho:out.length≤1000) :
  SOk (s95 x c tie now next ser cho m ls rs ps q nm ck out) (fun r=>r.2=m∧∃h,AskH x h∧r.1=out++[h]):=by
 show Ok (g95 x c tie now next ser cho m ls rs ps q nm ck out) _
 unfold g95
 obtain⟨k1,k2⟩:=okPATH1 (M5.mk (Y0.mk (Y3.mk c ls rs ps) tie now next ser cho q nm (ck.take m)) out) x.fE hv h0 h1
 exact Ok.v k1 fun r1 _=>Ok.v k2 fun r2 _=>Ok.app (by simp;omega) (Ok.d ⟨rfl,_,⟨rfl,rfl,rfl,rfl⟩,rfl⟩)
theorem okASK1(x:Q8)(c:Bool)(tie now next ser cho:Int)(ls rs:List Q2)(ps:List Q6)(q:List Int)(nm:List Bool)(ck:List Q8)(out:List Y6)
  (hv:X6 ⟨c,ls,rs,ps⟩) (h0:0≤x.fE) (h1:x.fE < (ps.length:Int)) (ho:out.length≤1000) :
  SOk (s95_1 x c tie now next ser cho ls rs ps q nm ck out) (fun r=>∃h,AskH x h∧r=out++[h]):=by
 show Ok (g95_1 x c tie now next ser cho ls rs ps q nm ck out) _
 unfold g95_1
 obtain⟨k1,k2⟩:=okPATH1 (M5.mk (Y0.mk (Y3.mk c ls rs ps) tie now next ser cho q nm ck) out) x.fE hv h0 h1
 exact Ok.v k1 fun r1 _=>Ok.v k2 fun r2 _=>Ok.app (by simp;omega) (Ok.d ⟨_,⟨rfl,rfl,rfl,rfl⟩,rfl⟩)
theorem okDEL(m i:Nat)(ck:List Q8)(hi:i < m)(hm:m≤ck.length)(hl:ck.length≤1000):SOk (s96_1 m (i:Int) ((i:Int)+1) ck) (fun r=>r.2=m - 1∧m - 1≤r.1.length∧r.1.length≤1000∧r.1.take (m - 1)=(ck.take m).eraseIdx i):=by
 show Ok (g96_1 m (i:Int) ((i:Int)+1) ck) _
 unfold g96_1
 have e1:((i:Int)).toNat=i:=ζz i
 have e2:((i:Int)+1).toNat=i+1:=by omega
 have e3:i+(m - (i+1))=m - 1:=by omega
 have e4:((m:Int)).toNat=m:=ζz m
 rw[e1,e2,e3,e4,ζz]
 have h1:((ck.drop (i+1)).take (m - (i+1))).length=m - (i+1):=by simp;omega
 have l1:(over ck i ((ck.drop (i+1)).take (m - (i+1)))).length=ck.length:=P6 _ _ _ (by rw[h1];omega)
 refine Ok.o (r:=()) ?_ (Ok.f (by rw[ζY];omega) (Ok.k (by simp;omega) (Ok.k (by simp;omega) (Ok.o (r:=()) ?_ (Ok.o (r:=()) ?_ (Ok.o (r:=()) rfl (Ok.d ⟨rfl,?_,?_,?_⟩)))))))
 ·show (bif decide (0≤(i:Int)∧(i:Int)≤(i:Int)+1∧(i:Int)+1≤(m:Int)∧(m:Int)≤(ck.length:Int)) then some () else none)=some ()
  rw[ξr (by omega)];rfl
 ·show (bif decide (i≤i+1∧i+1+(m - (i+1))≤ck.length∧0 < ck.length) then some () else none)=some ()
  rw[ξr (by omega)];rfl
 ·show (bif decide (0≤((m - 1:Nat):Int)∧((m - 1:Nat):Int)≤(m:Int)∧(m:Int)≤((over ck i ((ck.drop (i+1)).take (m - (i+1)))).length:Int)) then some () else none)=some ()
  rw[l1,ξr (by omega)];rfl
 ·rw[P6 _ _ _ (by rw[ζH,l1];omega),l1];omega
 ·rw[P6 _ _ _ (by rw[ζH,l1];omega),l1];exact hl
 ·refine List.ext_getElem? fun q=>?_
  rw[ζx,List.getElem?_eraseIdx]
  by_cases hq:q < m - 1
  ·rw[if_pos hq,over_get _ _ _ (by rw[ζH,l1];omega),if_neg (by omega),over_get _ _ _ (by rw[h1];omega),h1]
   by_cases h2:q < i
   ·rw[if_neg (by omega),if_pos h2,ζx,if_pos (by omega)]
   ·rw[if_pos (by omega),if_neg h2,ζx,if_pos (by omega),ζx,if_pos (by omega),ζy]
    congr 1;omega
  ·rw[if_neg hq,if_neg (by omega),ζx,if_neg (by omega)]
def liv(s:DuS):List Q8:=s.ck.take s.m
structure DuI(n:Int)(ctl:Bool)(s0 s:DuS)(i:Nat):Prop where
 keep:s.c=ctl∧s.tie=s0.tie∧s.now=s0.now∧s.next=s0.next∧s.ser=s0.ser∧s.cho=-1∧s.ls=s0.ls∧s.rs=s0.rs∧s.q=s0.q
 valid:X6 ⟨s.c,s.ls,s.rs,s.ps⟩
 m:s.m≤s.ck.length∧s.ck.length≤1000∧i≤s.m
 ck:CkI s.ser n s.now ctl s.ps (liv s)
 nm:s.nm=List.replicate s.ps.length false
 past:∀(j:Nat) c,j < i→(liv s)[j]?=some c→s.now < c.gd
 less:ckW (liv s) < ckW (liv s0)∨(s.ps=s0.ps∧liv s=liv s0)
 tot:∀id v,Tot s.ser (liv s0) id v→Tot s.ser (liv s) id (v+cnt id s.out)
 out:s.out.length≤i∧∀h,h∈s.out→h.fj.fy=1∧h.fj.fF=false∧h.fj.fo=ctl
theorem pw_shift{t:Int}(h:1≤t∧t < 4){now:Int}(h0:0≤now∧now≤1000000):Q4 (now+(V9 .i64 200 (Q4 (Q4 (t+1) - 1))))=now+(pw (t+1) - pw t)∧Q4 (t+1)=t+1:=by
 have e1:Q4 (t+1)=t+1:=Z6 (by omega) (by omega)
 rw[e1,show t+1 - 1=t by omega,Z6 (n:=t) (by omega) (by omega)]
 refine⟨?_,rfl⟩
 have:t=1∨t=2∨t=3:=by omega
 rcases this with rfl|rfl|rfl
 ·show Q4 (now+400)=now+400
  exact Z6 (by omega) (by omega)
 ·show Q4 (now+800)=now+800
  exact Z6 (by omega) (by omega)
 ·show Q4 (now+1600)=now+1600
  exact Z6 (by omega) (by omega)
theorem take_set_lt{α:Type}(l:List α){i m:Nat}(h:i < m)(y:α):(l.set i y).take m=(l.take m).set i y:=List.take_set
theorem duStep_ok{n:Int}{ctl:Bool}{s0 s:DuS}{i:Nat}(h:DuI n ctl s0 s i)(h0:0≤s.now∧s.now≤1000000)(hi:i < s.m) :
  ∃s' i',A7 (s,(i:Int))=some (.inl (s',((i':Nat):Int)))∧DuI n ctl s0 s' i'∧s'.m - i' < s.m - i:=by
 obtain⟨m1,m2,m3⟩:=h.m
 have hll:(liv s).length=s.m:=by unfold liv;simp;omega
 have hn36:s.ps.length≤36:=h.valid.1.2.2.1
 have hm36:s.m≤36:=by have a1:=h.ck.few;have a2:=h.ck.low;have a3:=h.ck.len;omega
 obtain⟨x,hx⟩:∃x,s.ck[i]?=some x:=⟨_,ζd (by omega)⟩
 have hxl:(liv s)[i]?=some x:=by unfold liv;rw[ζx,if_pos hi];exact hx
 have hxm:=ζi hxl
 obtain⟨p1,p2,p3,p4,p5,p6,p7⟩:=h.ck.each x hxm
 have hlen:=h.ck.len
 have c0:(decide (0≤(i:Int))&&decide ((i:Int) < (s.m:Int)))=true:=by simp;omega
 have eN:0+((i:Int)).toNat=i:=by omega
 have hcd:decide ((i:Int) < (s.m:Int))=true:=ξr (by omega)
 by_cases hd:x.gd≤s.now
 ·have e1:(gRt s (i:Int)).run=some ():=by
   obtain⟨r,e,_⟩:Ok (gRt s (i:Int)) (fun _=>True):=by
    unfold gRt
    exact Ok.k c0 (Ok.r rfl (by rw[eN];exact hx) (Ok.t (ξr hd) (Ok.d trivial)))
   exact e
  by_cases ht:x.fU < 4
  ·
   obtain⟨e2,e3⟩:=pw_shift ⟨p3.1,ht⟩ h0
   have hA:Ok (gDuA s.c s.tie s.now s.next s.ser s.cho s.ls s.rs s.ps s.q s.nm s.ck s.m s.out (i:Int)) (fun r=>r.2.2=s.m∧∃hp y,AskH x hp∧r.1=s.out++[hp]∧r.2.1=s.ck.set i y∧
     y.fp=x.fp∧y.fE=x.fE∧y.fU=x.fU+1∧y.fF=x.fF∧y.fo=x.fo∧y.gd=s.now+(pw (x.fU+1) - pw x.fU)):=by
    have il:i < s.ck.length:=by omega
    unfold gDuA
    refine Ok.k c0 (Ok.r rfl (by rw[eN];exact hx) (Ok.t (ξr ht) (Ok.r rfl (by rw[eN];exact hx) (Ok.r rfl (by rw[eN];exact hx) (Ok.re ?_)))))
    rw[eN]
    refine Ok.r rfl (ζj il) (Ok.k ?_ (Ok.r rfl (ζj il) (Ok.re (Ok.r rfl (ζj (by rw[ζI];exact il)) (Ok.c (okASK _ _ _ _ _ _ _ _ _ _ _ _ _ _ _ h.valid p2.1 (by rw[←hlen];exact p2.2) (by have:=h.out.1;omega)) fun r hr=>Ok.d ?_)))))
    ·show decide (0≤Q4 (Q4 (x.fU+1) - 1))=true
     rw[e3,show x.fU+1 - 1=x.fU by omega,Z6 (by omega) (by omega)]
     exact ξr (by omega)
    ·obtain⟨r1,hp,r2,r3⟩:=hr
     refine⟨r1,hp,_,r2,r3,List.set_set ..,rfl,rfl,e3,rfl,rfl,e2⟩
   obtain⟨r,er,r1,hp,y,r2,r3,r4,y1,y2,y3,y4,y5,y6⟩:=hA
   have eB:duBody s (i:Int)=some { s with out:=r.1,ck:=r.2.1,m:=r.2.2 }:=by unfold duBody;rw[er]
   obtain⟨w1,w2,w3,w4⟩:=h.ck.again hxl ht hd y1 y2 y3 y4 y5 y6
   have el:liv { s with out:=r.1,ck:=r.2.1,m:=r.2.2 }=(liv s).set i y:=by
    show r.2.1.take r.2.2=_
    rw[r1,r4];exact take_set_lt _ hi y
   refine⟨{ s with out:=r.1,ck:=r.2.1,m:=r.2.2 },i+1,?_,⟨h.keep,h.valid,?_,by rw[el];exact w1,h.nm,fun j c hj hc=>?_,.inl ?_,fun id v hv=>?_,?_,?_⟩,?_⟩
   ·unfold A7
    simp only[hcd,e1,eB,cond_true]
    show some (Sum.inl (_,bif ((r.2.2:Int)==(s.m:Int)) then Q4 ((i:Int)+1) else (i:Int)))=_
    rw[r1,show ((s.m:Int)==(s.m:Int))=true from by simp,cond_true,J9 (k:=i) (n:=s.m) hi (by omega)]
   ·show r.2.2≤r.2.1.length∧r.2.1.length≤1000∧i+1≤r.2.2
    rw[r1,r4,ζI];omega
   ·rw[el] at hc
    rcases set_at hc with⟨rfl,rfl⟩|⟨hne,hc⟩
    ·exact w3
    ·exact h.past j c (by omega) hc
   ·rw[el]
    rcases h.less with h1|⟨_,h1⟩
    ·omega
    ·rw[←h1];exact w2
   ·rw[el]
    have:=w4 id _ (h.tot id v hv)
    have e:v+cnt id s.out+(if id=x.fp then 1 else 0)=v+cnt id r.1:=by
     rw[r3,cnt_snoc,r2.2.1];omega
    rw[e] at this;exact this
   ·show r.1.length≤i+1
    rw[r3,ζn]
    have:=h.out.1
    simp only[ξj,List.length_nil];omega
   ·intro q hq
    have hq:q∈r.1:=hq
    rw[r3] at hq
    rcases ζr.1 hq with hq|hq
    ·exact h.out.2 q hq
    ·obtain rfl:q=hp:=by simpa using hq
     exact⟨r2.1,r2.2.2.1.trans p4,r2.2.2.2.trans p5⟩
   ·show r.2.2 - (i+1) < s.m - i
    omega
  ·
   have hA:(gDuA s.c s.tie s.now s.next s.ser s.cho s.ls s.rs s.ps s.q s.nm s.ck s.m s.out (i:Int)).run=none:=by
    unfold gDuA
    refine no_chk (no_row fun z hz=>no_brF ?_ (by first|exact rfl|exact no_row fun z2 _=>no_bind fun e=>no_call fun _=>rfl))
    rw[eN,hx] at hz
    rw[←ζR hz];exact ξs ht
   obtain⟨z,hz⟩:=at_of (l:=s.ps) p2.1 (by rw[←hlen];exact p2.2)
   have zl:=(ζe.1 hz).1
   have hcho:=h.keep.q.2.1
   have hB:Ok (gDuB s.c s.tie s.now s.next s.ser s.cho s.ls s.rs s.ps s.q s.nm s.ck s.m s.out (i:Int)) (fun r=>r.1=s.ps.set x.fE.toNat ⟨z.fH,z.fJ,z.ft,4⟩∧r.2.1=s.nm∧r.2.2.2=s.m - 1∧s.m - 1≤r.2.2.1.length∧r.2.2.1.length≤1000∧r.2.2.1.take (s.m - 1)=(liv s).eraseIdx i):=by
    unfold gDuB
    refine Ok.k c0 (Ok.r rfl (by rw[eN];exact hx) (Ok.f (ξs ht) (Ok.r rfl (by rw[eN];exact hx) ?_)))
    refine Ok.b (R:=fun e=>e.1=s.ps.set x.fE.toNat ⟨z.fH,z.fJ,z.ft,4⟩∧e.2=s.nm) ?_ fun e he=>?_
    ·have enl:s.nm.length=s.ps.length:=by rw[h.nm,ζH]
     have zp:0+x.fE.toNat=x.fE.toNat:=ξv _
     refine Ok.t (by rw[hcho,bne_iff_ne];omega) (Ok.k (by simp;omega) (Ok.r rfl (by rw[zp];exact hz) (Ok.re (Ok.k (by simp;omega) (Ok.r (x:=false) rfl ?_ (Ok.re (Ok.g (Ok.g (Ok.d ⟨by rw[zp],?_⟩)))))))))
     ·rw[zp,h.nm,List.getElem?_replicate,if_pos zl]
     ·show s.nm.set (0+x.fE.toNat) false=s.nm
      rw[zp,h.nm]
      exact List.set_replicate_self
    ·rw[J9 (k:=i) (n:=s.m) hi (by omega)]
     have:=okDEL s.m i s.ck hi m1 m2
     rw[show ((i:Int)+1)=((i+1:Nat):Int) by omega] at this
     exact Ok.c this fun r hr=>Ok.d ⟨he.1,he.2,hr.1,hr.2.1,hr.2.2.1,hr.2.2.2⟩
   obtain⟨r,er,r1,r2,r3,r4,r5,r6⟩:=hB
   have eB:duBody s (i:Int)=some { s with ps:=r.1,nm:=r.2.1,ck:=r.2.2.1,m:=r.2.2.2 }:=by unfold duBody;rw[hA,er]
   obtain⟨w1,w2,w3⟩:=h.ck.drop hxl ht hz (y:=⟨z.fH,z.fJ,z.ft,4⟩) rfl
   have el:liv { s with ps:=r.1,nm:=r.2.1,ck:=r.2.2.1,m:=r.2.2.2 }=(liv s).eraseIdx i:=by
    show r.2.2.1.take r.2.2.2=_
    rw[r3];exact r6
   refine⟨{ s with ps:=r.1,nm:=r.2.1,ck:=r.2.2.1,m:=r.2.2.2 },i,?_,⟨h.keep,?_,?_,?_,?_,fun j c hj hc=>?_,.inl ?_,fun id v hv=>?_,h.out⟩,?_⟩
   ·unfold A7
    simp only[hcd,e1,eB,cond_true]
    show some (Sum.inl (_,bif ((r.2.2.2:Int)==(s.m:Int)) then Q4 ((i:Int)+1) else (i:Int)))=_
    rw[r3,show (((s.m - 1:Nat):Int)==(s.m:Int))=false from by rw[ζY];omega,cond_false]
   ·show X6 ⟨s.c,s.ls,s.rs,r.1⟩
    rw[r1]
    exact valid_set h.valid hz 4 (by decide) (by decide)
   ·show r.2.2.2≤r.2.2.1.length∧r.2.2.1.length≤1000∧i≤r.2.2.2
    rw[r3];omega
   ·rw[el]
    show CkI s.ser n s.now ctl r.1 _
    rw[r1];exact w1
   ·show r.2.1=List.replicate r.1.length false
    rw[r2,r1,ζI];exact h.nm
   ·rw[el] at hc
    rcases erase_at hc with⟨_,hc⟩|⟨h1,_⟩
    ·exact h.past j c hj hc
    ·omega
   ·rw[el]
    rcases h.less with h1|⟨_,h1⟩
    ·omega
    ·rw[←h1];exact w2
   ·rw[el];exact w3 id _ (h.tot id v hv)
   ·show r.2.2.2 - i < s.m - i
    omega
 ·
  have e1:(gRt s (i:Int)).run=none:=by
   unfold gRt
   refine no_chk (no_row fun z hz=>no_brF ?_ rfl)
   rw[eN,hx] at hz
   rw[←ζR hz];exact ξs hd
  have e2:(gRf s (i:Int)).run=some ():=by
   obtain⟨r,e,_⟩:Ok (gRf s (i:Int)) (fun _=>True):=by
    unfold gRf
    exact Ok.k c0 (Ok.r rfl (by rw[eN];exact hx) (Ok.f (ξs hd) (Ok.d trivial)))
   exact e
  refine⟨s,i+1,?_,⟨h.keep,h.valid,⟨m1,m2,hi⟩,h.ck,h.nm,fun j c hj hc=>?_,h.less,h.tot,by have:=h.out.1;omega,h.out.2⟩,by omega⟩
  ·unfold A7
   simp only[hcd,e1,e2,cond_true]
   rw[show ((s.m:Int)==(s.m:Int))=true from by simp,cond_true,J9 (k:=i) (n:=s.m) hi (by omega)]
  ·rcases ζN j i with h1|h1
   ·exact h.past j c h1 hc
   ·have:j=i:=by omega
    subst this
    rw[hxl] at hc;obtain rfl:=ζR hc
    omega
theorem duLoop{n:Int}{ctl:Bool}{s0:DuS}(h:DuI n ctl s0 s0 0)(h0:0≤s0.now∧s0.now≤1000000):∃r,dueM s0=some r∧DuI n ctl s0 r r.m:=by
 have key:∀(f:Nat) (s:DuS) (i:Nat),DuI n ctl s0 s i→s.m - i < f→∃r,I8 A7 f (s,(i:Int))=some r∧DuI n ctl s0 r r.m:=by
  intro f
  induction f with
  | zero=>intro s i _ h;omega
  | succ f ih=>
   intro s i hs hf
   rw[T6]
   by_cases hi:i < s.m
   ·have hk:=hs.keep.2.2.1
    obtain⟨s',i',q1,q2,q3⟩:=duStep_ok hs (by rw[hk];exact h0) hi
    rw[q1]
    exact ih s' i' q2 (by omega)
   ·have e2:A7 (s,(i:Int))=some (.inr s):=by
     unfold A7
     simp only[show decide ((i:Int) < (s.m:Int))=false from ξs (by omega)]
     rfl
    rw[e2]
    have:i=s.m:=by have:=hs.m.2.2;omega
    subst this
    exact⟨s,rfl,hs⟩
 exact key FUEL s0 0 h (M1 (by have:=h.m;omega))
theorem okNM114(n:Nat)(hn:n≤1000):SOk (s114 (List.replicate n false) true) (fun r=>r=false):=by
 show Ok (g114 _ _) _
 unfold g114
 refine Ok.c (R:=fun r=>r=-1) ?_ fun r hr=>Ok.d (by rw[hr];rfl)
 show Ok (g186 _ _) _
 unfold g186
 simp only[E7]
 refine Ok.p (R:=fun e=>match e with|.inl _=>False|.inr _=>True) ?_ (fun e he=>he.elim) (fun e _=>Ok.d rfl)
 refine Ok.s n (by omega) (fun k y=>y=(k:Int)) rfl (fun k y hy hk=>?_) (fun y hy=>?_)
 ·subst hy
  exact Ok.t (by simp;omega) (Ok.r (x:=false) (by simp) (by rw[ζz,List.getElem?_replicate,if_pos hk]) (Ok.f rfl (Ok.d (J9 hk (by omega)))))
 ·subst hy;exact Ok.f (by simp) (Ok.d trivial)
theorem okNAME(c:Bool)(tie now next ser:Int)(m:Nat)(ls rs:List Q2)(ps:List Q6)(nm:List Bool)(ck:List Q8)(out:List Y6)
  (hn:nm=List.replicate ps.length false) (h3:∀x,x∈ps→x.fD≠3) (hl:ps.length≤36):SOk (s55_2 c tie now next ser (-1) m ls rs ps [] nm ck out) (fun r=>r=([],nm,m)):=by
 unfold s55_2
 refine SOk.b ?_
 unfold g55_2
 subst hn
 refine Ok.n (R:=fun b=>b=!c) ?_ fun b hb=>?_
 ·cases c with
  | false=>exact Ok.t rfl (Ok.d rfl)
  | true=>exact Ok.f rfl (Ok.f rfl (Ok.v (okNM114 _ (by omega)) fun r hr=>Ok.d (by rw[hr];rfl)))
 ·cases c with
  | false=>exact Ok.t hb (Ok.g (Ok.d rfl))
  | true=>
   refine Ok.f hb (Ok.b (R:=fun e=>e=-1) ?_ fun e he=>?_)
   ·refine Ok.s ps.length (by omega) (fun k y=>y=(-1,(k:Int))) rfl (fun k y hy hk=>?_) (fun y hy=>?_)
    ·subst hy
     obtain⟨x,hx1,hx2⟩:=A6 hk
     refine Ok.t (by simp;omega) (Ok.k (by simp;omega) (Ok.r rfl (by rw[ξv];exact hx1) (Ok.n (R:=fun b=>b=false) (Ok.f ?_ (Ok.d rfl)) fun b hb=>Ok.f hb (Ok.d ?_))))
     ·rw[ζY];exact h3 x (ζi hx2)
     ·exact Prod.ext rfl (J9 hk (by omega))
    ·subst hy;exact Ok.f (by simp) (Ok.d rfl)
   ·subst he
    exact Ok.n (R:=fun b=>b=true) (Ok.t rfl (Ok.d rfl)) fun b hb=>Ok.t hb (Ok.g (Ok.d rfl))
theorem okF223(l:List Q8)(p:Int)(h:∀x,x∈l→x.fE≠p)(hl:l.length≤1000):SOk (s168_1 l p false) (fun r=>r=-1):=by
 show Ok (g168_1 l p false) _
 unfold g168_1
 refine Ok.c (R:=fun r=>r=-1) ?_ fun r hr=>Ok.d hr
 show Ok (g223_1 l p false) _
 unfold g223_1
 simp only[E7]
 refine Ok.p (R:=fun e=>match e with|.inl _=>False|.inr _=>True) ?_ (fun e he=>he.elim) (fun e _=>Ok.d rfl)
 refine Ok.s l.length (by omega) (fun k y=>y=(k:Int)) rfl (fun k y hy hk=>?_) (fun y hy=>?_)
 ·subst hy
  obtain⟨x,hx1,hx2⟩:=A6 hk
  refine Ok.t (by simp;omega) (Ok.r (by simp) hx1 (Ok.c (R:=fun b=>b=false) ?_ fun b hb=>?_))
  ·show Ok (g169 x p false) _
   unfold g169
   refine Ok.n (R:=fun b=>b=false) (Ok.f ?_ (Ok.d rfl)) fun b hb=>Ok.d hb
   rw[ζY];exact h x (ζi hx2)
  ·subst hb;exact Ok.f rfl (Ok.d (J9 hk (by omega)))
 ·subst hy;exact Ok.f (by simp) (Ok.d trivial)
def newC(ser p now:Int)(c:Bool):Q8:=⟨ser,p,now+200,1,false,c⟩
theorem okBEGIN(i:Nat)(c:Bool)(tie now next ser cho:Int)(m:Nat)(ls rs:List Q2)(ps:List Q6)(q:List Int)(nm:List Bool)(ck:List Q8)(out:List Y6){x:Q6}
  (hv:X6 ⟨c,ls,rs,ps⟩) (hn:nm=List.replicate ps.length false) (hx:ps[i]?=some x) (h3:x.fD≠3) (hm:m≤ck.length) (hck:ck.length≤1000) (ho:out.length≤1000)
  (hno:∀d,d∈ck.take m→d.fE≠(i:Int)) (h0:0≤now∧now≤1000000) (hs:0≤ser∧ser≤1000) :
  SOk (s97 (i:Int) c tie now next ser cho m ls rs ps q nm ck out) (fun r=>r.1=ck.take m++[newC ser (i:Int) now c]∧(∃h,AskH (newC ser (i:Int) now c) h∧r.2.1=out++[h])∧r.2.2.1=ser+1∧r.2.2.2.1=ps.set i ⟨x.fH,x.fJ,x.ft,2⟩∧r.q=m+1):=by
 have il:=(ζe.1 hx).1
 have hl:ps.length≤36:=hv.1.2.2.1
 have hlm:(ck.take m).length=m:=by simp;omega
 have eN:0+((i:Int)).toNat=i:=by omega
 have e1:Q4 (now+200)=now+200:=Z6 (by omega) (by omega)
 have e2:Q4 (ser+1)=ser+1:=Z6 (by omega) (by omega)
 have hv2:X6 ⟨c,ls,rs,ps.set i ⟨x.fH,x.fJ,x.ft,2⟩⟩:=valid_set hv hx 2 (by decide) (by decide)
 have rest:∀(e:List Q6),e=ps.set i ⟨x.fH,x.fJ,x.ft,2⟩→
   SOk (s95_1 (newC ser (i:Int) now c) c tie now next (ser+1) cho ls rs e q nm (ck.take m++[newC ser (i:Int) now c]) out) (fun r=>∃h,AskH (newC ser (i:Int) now c) h∧r=out++[h]):=fun e he=>by
  subst he
  exact okASK1 _ _ _ _ _ _ _ _ _ _ _ _ _ _ hv2 (by show (0:Int)≤(i:Int);omega) (by show (i:Int) < _;rw[ζI];omega) ho
 have oo:∀(y:Q8),(bif decide (m≤ck.length∧0+1≤[y].length∧(m+1) * 40≤140737488355328) then some () else none)=some ():=fun y=>by
  rw[ξr ⟨hm,by simp,by omega⟩];rfl
 unfold s97
 refine SOk.b ?_
 unfold g97
 rw[e1,e2]
 refine Ok.e (fun hc=>?_) (fun hc=>?_)
 ·refine Ok.k (by rw[hn,ζH];simp;omega) (Ok.r (x:=false) rfl (by rw[eN,hn,List.getElem?_replicate,if_pos il]) ?_)
  refine Ok.v (okF223 _ _ hno (by omega)) fun r hr=>Ok.f (by rw[hr];rfl) (Ok.k (by simp;omega) ?_)
  refine Ok.n (R:=fun b=>b=true) (Ok.t rfl (Ok.r rfl (by rw[eN];exact hx) (Ok.d (by rw[bne_iff_ne];exact h3)))) fun b hb=>?_
  refine Ok.b (R:=fun e=>e=ps.set i ⟨x.fH,x.fJ,x.ft,2⟩) (Ok.t hb (Ok.r rfl (by rw[eN];exact hx) (Ok.re (Ok.g (Ok.d (by rw[eN])))))) fun e he=>?_
  refine Ok.o (r:=()) (oo _) (Ok.c (rest e he) fun r2 h2=>Ok.g (Ok.g (Ok.d ⟨rfl,h2,rfl,he,?_⟩)))
  show (ck.take m++[_]).length=m+1
  rw[ζn,hlm];rfl
 ·refine Ok.v (okF223 _ _ hno (by omega)) fun r hr=>Ok.f (by rw[hr];rfl) (Ok.k (by simp;omega) (Ok.r rfl (by rw[eN];exact hx) ?_))
  refine Ok.b (R:=fun e=>e=ps.set i ⟨x.fH,x.fJ,x.ft,2⟩) (Ok.t (by rw[bne_iff_ne];exact h3) (Ok.r rfl (by rw[eN];exact hx) (Ok.re (Ok.g (Ok.d (by rw[eN])))))) fun e he=>?_
  refine Ok.o (r:=()) (oo _) (Ok.c (rest e he) fun r2 h2=>Ok.g (Ok.g (Ok.d ⟨rfl,h2,rfl,he,?_⟩)))
  show (ck.take m++[_]).length=m+1
  rw[ζn,hlm];rfl
def leftA(n:Int)(a:Y0):Nat:=(5 * (n - a.fI)).toNat+ckW a.fA
structure TimeR(n:Int)(ctl:Bool)(a:Y0)(r:Y0×List Y6×Int):Prop where
 ok:r.2.2=0
 inv:AInv n ctl r.1
 rdy:E6 r.1.fc→r.1.fP≤r.1.fK
 left:leftA n r.1 < leftA n a
 tot:∀id v,Tot a.fI a.fA id v→Tot r.1.fI r.1.fA id (v+cnt id r.2.1)
 out:r.2.1.length≤1000∧∀h,h∈r.2.1→h.fj.fy=1∧h.fj.fF=false∧h.fj.fo=ctl
theorem okTIME{n:Int}{ctl:Bool}{a:Y0}(h:AInv n ctl a)(t:Int)(hw:WakeR a (t,0)):SOk (s12 a t) (TimeR n ctl a):=by
 obtain⟨z1,z2,z3,z4,z5,z6,z7,z8⟩:=h.sz
 have hno:=h.now
 have hnx:=h.next
 obtain⟨t1,t2,t3,t4⟩:a.fP≤t∧(∀c,c∈a.fA→t≤c.gd)∧(E6 a.fc→t≤a.fK)∧((∃c,c∈a.fA∧c.gd=t)∨(E6 a.fc∧a.fK=t)):=by
  rcases hw with⟨e,_⟩|⟨_,hw⟩
  ·exact absurd (show (0:Int)=4 from e) (by decide)
  ·exact hw
 have tb:t≤3050 * a.fI:=by
  rcases t4 with⟨c,c1,c2⟩|⟨_,c2⟩
  ·obtain⟨p1,p2,p3,p4,p5,p6,p7⟩:=h.ck.each c c1
   have:=pw_le c.fU
   omega
  ·omega
 have hv0:X6 ⟨a.fc.fo,a.fc.fu,a.fc.fw,a.fc.fm⟩:=h.list
 have hst:DuI n ctl ⟨a.fc.fo,a.fC,t,a.fK,a.fI,a.fV,a.fc.fu,a.fc.fw,a.fc.fm,a.fN,a.fQ,a.fA,a.fA.length,[]⟩ ⟨a.fc.fo,a.fC,t,a.fK,a.fI,a.fV,a.fc.fu,a.fc.fw,a.fc.fm,a.fN,a.fQ,a.fA,a.fA.length,[]⟩ 0:=
  ⟨⟨h.role,rfl,rfl,rfl,rfl,h.cho,rfl,rfl,rfl⟩,hv0,⟨ζK _,by show a.fA.length≤1000;omega,Nat.zero_le _⟩,by
   show CkI a.fI n t ctl a.fc.fm (a.fA.take a.fA.length)
   rw[List.take_length];exact h.ck.later t2,h.nm,fun j c hj=>absurd hj (Nat.not_lt_zero _),.inr ⟨rfl,rfl⟩,fun id v hv=>by rw[cnt_nil,Int.add_zero];exact hv,⟨Nat.zero_le _,fun h hh=>by simp at hh⟩⟩
 obtain⟨s,hs1,hs2⟩:=duLoop hst (by show 0≤t∧t≤1000000;omega)
 obtain⟨k1,k2,k3,k4,k5,k6,k7,k8,k9⟩:=hs2.keep
 simp only at k2 k3 k4 k5 k7 k8 k9
 have kq:s.q=[]:=k9.trans h.q
 have hlive:liv (⟨a.fc.fo,a.fC,t,a.fK,a.fI,a.fV,a.fc.fu,a.fc.fw,a.fc.fm,a.fN,a.fQ,a.fA,a.fA.length,[]⟩:DuS)=a.fA:=by
  show a.fA.take a.fA.length=a.fA
  exact List.take_length
 have hless:=hs2.less
 have htot:=hs2.tot
 rw[hlive] at hless htot
 have hll:(liv s).length=s.m:=by unfold liv;rw[List.length_take];have:=hs2.m.1;omega
 have slen:=hs2.ck.len
 have hlp:s.ps.length≤36:=hs2.valid.1.2.2.1
 have hm36:s.m≤36:=by have a1:=hs2.ck.few;have a2:=hs2.ck.low;omega
 have h3:∀x,x∈s.ps→x.fD≠3:=fun x hx=>by have:=hs2.ck.st x hx;unfold StP at this;omega
 have hone:OneC s.ls∧OneC s.rs:=by rw[k7,k8];exact h.one
 have fin:SOk (s40_2 a.fc.fo a.fC t a.fK a.fI a.fV a.fc.fu a.fc.fw a.fc.fm a.fN a.fQ a.fA)
   (fun r=>TimeR n ctl a ((Y0.mk (Y3.mk r.q.q.2.2.1 r.q.q.1 r.q.q.2.1 r.q.2.1) r.q.q.2.2.2.1 r.q.q.q.1 r.2.2.2.1 r.q.1 r.q.q.q.2 r.1 r.q.2.2.1 (r.2.1.take r.q.2.2.2.1)),r.2.2.1,0)):=by
  unfold s40_2
  refine SOk.b ?_
  unfold g40_2
  refine Ok.c (R:=fun _=>True) ⟨_,rfl,trivial⟩ fun _ _=>Ok.g (Ok.g (Ok.sub (S:=subDue _) (r:=s) hs1 ?_))
  have hR:=okRDY1 (M5.mk (Y0.mk (Y3.mk s.c s.ls s.rs s.ps) s.tie s.now s.next s.ser s.cho s.q s.nm (s.ck.take s.m)) s.out) hs2.valid k6 kq (by show s.ser≤36;omega)
  refine Ok.n (R:=fun c=>(c=true↔E6 ⟨s.c,s.ls,s.rs,s.ps⟩∧s.next≤s.now)) (Ok.v hR fun rd hrd=>Ok.e (fun e=>Ok.d ?_) fun e=>Ok.d ?_) fun c hc=>?_
  ·rw[ζF];exact⟨fun h=>⟨hrd.1 e,h⟩,fun h=>h.2⟩
  ·exact⟨fun h=>(by cases h),fun h=>by rw[hrd.2 h.1] at e;cases e⟩
  refine Ok.e (fun ec=>?_) fun ec=>?_
  ·
   obtain⟨⟨nx,n1,n2⟩,hnow⟩:=hc.1 ec
   obtain⟨nx',n1',n3⟩:=okNEXTW _ hs2.valid
   rw[n1] at n1'
   obtain rfl:=ζR n1'
   obtain⟨m0,m1,x,x1,x2⟩:nx.2=0∧0≤nx.1∧∃x,s.ps[nx.1.toNat]?=some x∧(x.fD=0∨x.fD=1):=by
    rcases n3 with n3|⟨n3,_⟩
    ·exact n3
    ·rw[n2] at n3;exact absurd n3 (by decide)
   obtain⟨i,hi⟩:=Int.eq_ofNat_of_zero_le m1
   have x1':s.ps[i]?=some x:=by rw[hi,ζz] at x1;exact x1
   have hnoc:∀d,d∈s.ck.take s.m→d.fE≠(i:Int):=fun d hd e=>by
    have:=(hs2.ck.run i x x1').2 ⟨d,hd,e⟩;omega
   have hout:=hs2.out
   have hm3:=hs2.m
   have B:=okBEGIN i s.c s.tie s.now s.next s.ser s.cho s.m s.ls s.rs s.ps s.q s.nm s.ck s.out hs2.valid hs2.nm x1' (by omega) hm3.1 hm3.2.1 (by omega) hnoc (by omega) (by omega)
   obtain⟨w1,w2,w3⟩:=hs2.ck.begin (c:=newC s.ser (i:Int) s.now s.c) x1' x2 (y:=⟨x.fH,x.fJ,x.ft,2⟩) rfl (by omega) rfl rfl rfl rfl k1 rfl
   have hnn:s.nm=List.replicate (s.ps.set i ⟨x.fH,x.fJ,x.ft,2⟩).length false:=by rw[ζI];exact hs2.nm
   have hv2:X6 ⟨s.c,s.ls,s.rs,s.ps.set i ⟨x.fH,x.fJ,x.ft,2⟩⟩:=valid_set hs2.valid x1' 2 (by decide) (by decide)
   have h32:∀y,y∈s.ps.set i ⟨x.fH,x.fJ,x.ft,2⟩→y.fD≠3:=fun y hy=>by have:=w1.st y hy;unfold StP at this;omega
   refine Ok.b (R:=fun(e:List Int×List Q8×List Y6×Int×List Q6×Nat)=>e.1=[]∧e.2.1=liv s++[newC s.ser (i:Int) s.now s.c]∧(∃h,AskH (newC s.ser (i:Int) s.now s.c) h∧e.2.2.1=s.out++[h])∧e.2.2.2.1=s.ser+1∧e.q.1=s.ps.set i ⟨x.fH,x.fJ,x.ft,2⟩∧e.q.2=s.m+1) ?_ fun e he=>?_
   ·refine Ok.f (by rw[kq];rfl) (Ok.v (SOk.o n1) fun q hq=>?_)
    subst hq
    refine Ok.t (by rw[m0];rfl) ?_
    rw[hi]
    exact Ok.c B fun r hr=>Ok.g (Ok.g (Ok.g (Ok.d ⟨kq,hr⟩)))
   ·obtain⟨e1,e2,e3,e4,e5,e6⟩:=e
    obtain⟨rfl,f2,⟨hp,f3,f4⟩,rfl,rfl,rfl⟩:=he
    simp only at f2 f4
    subst f2
    have e50:Q4 (s.now+50)=s.now+50:=Z6 (by omega) (by omega)
    have NM:=okNAME s.c s.tie s.now (s.now+50) (s.ser+1) (s.m+1) s.ls s.rs _ s.nm (liv s++[newC s.ser (i:Int) s.now s.c]) e3 hnn h32 (by rw[ζI];exact hlp)
    rw[e50,k6]
    refine Ok.c NM fun r hr=>Ok.g (Ok.g (Ok.g (Ok.d ?_)))
    subst hr
    have el:(liv s++[newC s.ser (i:Int) s.now s.c]).take (s.m+1)=liv s++[newC s.ser (i:Int) s.now s.c]:=List.take_of_length_le (by rw[ζn,hll];exact ζK _)
    have low:=w1.low
    simp only[el]
    refine⟨rfl,⟨hv2,hone,k1,by show 0≤s.tie∧s.tie≤255;rw[k2];exact h.tie,?_,?_,rfl,rfl,hnn,w1⟩,fun _=>?_,?_,fun id v hv=>?_,?_,fun q hq=>?_⟩
    ·show 0≤s.now∧s.now≤3050 * n
     omega
    ·show 0≤s.now+50∧s.now+50≤3050 * (s.ser+1)
     omega
    ·show s.now≤s.now+50
     omega
    ·unfold leftA
     show (5 * (n - (s.ser+1))).toNat+ckW (liv s++[newC s.ser (i:Int) s.now s.c]) < (5 * (n - a.fI)).toNat+ckW a.fA
     have:ckW (liv s)≤ckW a.fA:=by
      rcases hless with h1|⟨_,h1⟩
      ·omega
      ·rw[h1];exact ζK _
     omega
    ·have:=w3 id _ (htot id v (by rw[k5];exact hv))
     have ee:v+cnt id s.out+(if id=s.ser then 1 else 0)=v+cnt id e3:=by
      rw[f4,cnt_snoc,f3.2.1]
      show _=v+(cnt id s.out+(if id=s.ser then 1 else 0))
      omega
     rw[ee] at this;exact this
    ·show e3.length≤1000
     rw[f4,ζn]
     simp only[ξj,List.length_nil];omega
    ·have hq:q∈e3:=hq
     rw[f4] at hq
     rcases ζr.1 hq with hq|hq
     ·exact hs2.out.2 q hq
     ·obtain rfl:q=hp:=by simpa using hq
      exact⟨f3.1,f3.2.2.1,f3.2.2.2.trans k1⟩
  ·
   have NM:=okNAME s.c s.tie s.now s.next s.ser s.m s.ls s.rs s.ps s.nm s.ck s.out hs2.nm h3 hlp
   rw[kq,k6]
   refine Ok.c NM fun r hr=>Ok.g (Ok.g (Ok.g (Ok.d ?_)))
   subst hr
   have nrd:E6 ⟨s.c,s.ls,s.rs,s.ps⟩→s.now < s.next:=fun hr=>by
    by_cases h1:s.next≤s.now
    ·rw[hc.2 ⟨hr,h1⟩] at ec;cases ec
    ·omega
   have low:=hs2.ck.low
   refine⟨rfl,⟨hs2.valid,hone,k1,by show 0≤s.tie∧s.tie≤255;rw[k2];exact h.tie,?_,?_,rfl,rfl,hs2.nm,hs2.ck⟩,fun hr=>?_,?_,fun id v hv=>?_,?_,hs2.out.2⟩
   ·show 0≤s.now∧s.now≤3050 * n
    omega
   ·show 0≤s.next∧s.next≤3050 * s.ser
    rw[k4,k5];exact hnx
   ·show s.now≤s.next
    have:=nrd hr;omega
   ·unfold leftA
    show (5 * (n - s.ser)).toNat+ckW (liv s) < (5 * (n - a.fI)).toNat+ckW a.fA
    rcases hless with h1|⟨q1,q2⟩
    ·omega
    ·exfalso
     rcases t4 with⟨c,c1,c2⟩|⟨c1,c2⟩
     ·rw[←q2] at c1
      obtain⟨j,hj⟩:=ζh.1 c1
      have jl:=(ζe.1 hj).1
      have:=hs2.past j c (by omega) hj
      omega
     ·have:E6 ⟨s.c,s.ls,s.rs,s.ps⟩:=by
       rw[k7,k8,q1,k1,←h.role];exact c1
      have:=nrd this
      omega
   ·have:=htot id v (by rw[k5];exact hv)
    exact this
   ·show s.out.length≤1000
    have:=hs2.out.1;omega
 unfold s12
 refine SOk.d ?_
 unfold g12
 refine Ok.call2 (okST36 h) (fun r he=>he.elim) (fun r _=>Ok.c (okW39 _ _ _ (by omega)) fun b hb=>?_)
 refine Ok.b (R:=fun e=>e=0) (Ok.f (by rw[hb];rfl) (Ok.d rfl)) fun e he=>Ok.f (by rw[he];rfl) ?_
 exact Ok.c fin fun r hr=>Ok.g (Ok.g (Ok.g (Ok.g (Ok.g (Ok.g (Ok.g (Ok.d hr)))))))
open Classical
def HexL(s:ByteArray):Prop:=∀u:UInt8,u∈s.data.toList→HexD ((u.toNat:Nat):Int)
theorem HexL.all{s:ByteArray}(h:HexL s):AllHex s:=fun i hi=>by
 have hi':i < s.data.size:=hi
 have e:bAt s (i:Int)=((s.data[i]'hi').toNat:Int):=by
  unfold bAt
  rw[ζz,ζW,ζg hi'];rfl
 rw[e]
 exact h _ (by simp)
theorem HexL.app{a b:ByteArray}(h:HexL a)(k:HexL b):HexL (a++b):=fun u hu=>by
 rw[ByteArray.data_append,Array.toList_append] at hu
 rcases ζr.1 hu with hu|hu
 ·exact h u hu
 ·exact k u hu
theorem hexT:∀i:Fin 16,HexD (bAt (bs [48,49,50,51,52,53,54,55,56,57,97,98,99,100,101,102]) (i.val:Int)):=by
 unfold HexD;decide
theorem hexT_at{i:Int}(h0:0≤i)(h:i < 16):HexD (bAt (bs [48,49,50,51,52,53,54,55,56,57,97,98,99,100,101,102]) i):=by
 obtain⟨n,rfl⟩:=Int.eq_ofNat_of_zero_le h0
 exact hexT ⟨n,by omega⟩
theorem hexL_nums{l:List Int}(h:∀x,x∈l→HexD x):HexL (strOfNums l):=fun u hu=>by
 unfold strOfNums at hu
 simp only[ζt] at hu
 obtain⟨x,hx,rfl⟩:=hu
 have hd:=h x hx
 unfold HexD at hd
 have e:((UInt8.ofNat x.toNat).toNat:Int)=x:=by
  rw[UInt8.toNat_ofNat']
  omega
 rw[e];exact h x hx
theorem hexL_dash:HexL (bs [45]):=fun u hu=>by
 simp[bs] at hu;subst hu
 exact .inr (.inr rfl)
theorem okITOAH(n:Int)(h:1≤n∧n≤4):SOk (s218 n) (fun r=>r.size=1∧HexL r):=by
 have h1:SOk (s286 n) (fun r=>r.size=1∧HexL r):=by
  show Ok (g286 n) _
  unfold g286
  refine Ok.t (by simp;omega) (Ok.k ?_ (Ok.d ?_))
  ·rw[Z6 (by omega) (by omega)];simp;omega
  ·rw[Z6 (by omega) (by omega)]
   have:n=1∨n=2∨n=3∨n=4:=by omega
   rcases this with rfl|rfl|rfl|rfl
   all_goals (refine⟨by decide,fun u hu=>?_⟩;revert u;unfold HexD;decide)
 have h2:SOk (s273 n 10) (fun r=>r.size=1∧HexL r):=by
  show Ok (g273 n 10) _
  unfold g273
  refine Ok.t rfl (Ok.n (R:=fun c=>c=true) (Ok.t (by simp;omega) (Ok.d (by simp;omega))) fun c hc=>?_)
  subst hc
  exact Ok.t rfl (Ok.c h1 fun r hr=>Ok.d hr)
 have h3:SOk (s256 n) (fun r=>r.size=1∧HexL r):=by
  show Ok (g256 n) _
  unfold g256
  exact Ok.c h2 fun r hr=>Ok.d hr
 show Ok (g218 n) _
 unfold g218
 exact Ok.c h3 fun r hr=>Ok.d hr
theorem okHEXH(s:ByteArray)(h:s.size≤100000):SOk (s219 s) (fun r=>r.size=2 * s.size∧HexL r):=by
 show Ok (g219 s) _
 unfold g219
 have e:Q4 ((2:Int) * (s.size:Int))=2 * (s.size:Int):=Z6 (by omega) (by omega)
 refine Ok.o (r:=()) (by rw[e];simp only[Rule.makeD];rw[show (decide ((0:Int)≤0)&&decide ((0:Int)≤2 * (s.size:Int))&&decide (1 * (2 * (s.size:Int)).toNat≤281474976710656)&&decide (2 * (s.size:Int)≤9223372036854775807))=true from by simp;omega];rfl) ?_
 refine Ok.g (Ok.b (R:=fun l=>l.length=2 * s.size∧∀x,x∈l→HexD x) ?_ fun e he=>Ok.o (r:=()) rfl (Ok.d ⟨by rw[strOfNums_size];exact he.1,hexL_nums he.2⟩))
 refine Ok.s s.size (by omega) (fun k y=>y.2=(k:Int)∧y.1.length=2 * k∧∀x,x∈y.1→HexD x) ⟨rfl,rfl,fun x h=>by simp at h⟩ (fun k y hy hk=>?_) (fun y hy=>?_)
 ·obtain⟨hi,hs,hh⟩:=hy
  obtain⟨y1,y2⟩:=y
  simp only at hi hs hh
  subst hi
  have hb:=bAt_lt s (k:Int)
  have hq:(wu8 (Int.tdiv (bAt s (k:Int)) 16))=bAt s (k:Int) / 16:=by
   rw[Int.tdiv_eq_ediv_of_nonneg hb.1]
   unfold wu8 IntKind.wrap
   simp[IntKind.signed,IntKind.bits]
   omega
  have hm:Int.tmod (bAt s (k:Int)) 16=bAt s (k:Int) % 16:=Int.tmod_eq_emod_of_nonneg hb.1
  refine Ok.e (fun hc=>?_) (fun hc=>by simp at hc;omega)
  refine Ok.k (by simp;omega) (Ok.k (by rw[hq];simp[bs,ByteArray.size];omega) (Ok.k (by simp;omega) (Ok.k (by rw[hm];simp[bs,ByteArray.size];omega) (Ok.app ?_ (Ok.g (Ok.g (Ok.d ⟨J9 hk (by omega),?_,fun x hx=>?_⟩)))))))
  ·simp[hs];omega
  ·simp[hs];omega
  ·rcases ζr.1 hx with hx|hx
   ·exact hh x hx
   ·simp only[ζv,ζw,or_false] at hx
    rcases hx with rfl|rfl
    ·rw[hq];exact hexT_at (by omega) (by omega)
    ·rw[hm];exact hexT_at (by omega) (by omega)
 ·obtain⟨hi,hs,hh⟩:=hy
  obtain⟨y1,y2⟩:=y
  simp only at hi hs hh
  subst hi
  exact Ok.e (fun hc=>by simp at hc) (fun hc=>Ok.d ⟨by show y1.length=_;omega,hh⟩)
theorem okRFOUNDH(k:Int)(b s:Z7)(hk:1≤k∧k≤4)(hb:W7 b)(hs:s=⟨ByteArray.empty,0⟩∨W7 s):SOk (s150 k b s) (fun r=>r.2=0∧1≤r.1.size∧r.1.size≤80∧HexL r.1):=by
 show Ok (g150 k b s) _
 unfold g150
 have hbs:b.fe.size≤16:=by have:=hb.1;omega
 have hss:s.fe.size≤16:=by
  rcases hs with rfl|hs
  ·show (0:Nat)≤16;omega
  ·have:=hs.1;omega
 refine Ok.n (R:=fun c=>c=false) ?_ fun c hc=>?_
 ·refine Ok.f (by simp;omega) (Ok.f (by simp;omega) (Ok.c (okRUSABLE _) fun r hr=>Ok.f (by rw[hr.2 hb];rfl) ?_))
  refine Ok.e (fun h=>Ok.c (okRUSABLE _) fun r2 hr2=>Ok.d ?_) (fun h=>Ok.d rfl)
  rcases hs with rfl|hs
  ·simp at h
  ·rw[hr2.2 hs];rfl
 ·refine Ok.f hc ?_
  have h1:(bs [45]).size=1:=rfl
  refine Ok.c (okITOAH k hk) fun r hr=>Ok.k (by simp only[ζF];omega) (Ok.c (okHEXH _ (by omega)) fun r2 hr2=>?_)
  refine Ok.k (by simp only[ζF,ByteArray.size_append];omega) (Ok.k (by simp only[ζF,ByteArray.size_append];omega) (Ok.c (okHEXH _ (by omega)) fun r3 hr3=>Ok.k (by simp only[ζF,ByteArray.size_append];omega) (Ok.d ⟨rfl,?_,?_,?_⟩)))
  ·simp only[ByteArray.size_append];omega
  ·simp only[ByteArray.size_append];omega
  ·exact(((hr.2.app hexL_dash).app hr2.2).app hexL_dash).app hr3.2
theorem okRPRI9H(k p q:Int)(hk:1≤k∧k≤4)(hp:1≤p∧p≤65535)(hq:1≤q∧q≤2):SOk (s151 k p q) (fun r=>r.2=0∧1≤r.1∧r.1≤2147483647):=by
 show Ok (g151 k p q) _
 unfold g151
 refine Ok.n (R:=fun c=>c=false) (Ok.f (by simp;omega) (Ok.f (by simp;omega) (Ok.f (by simp;omega) (Ok.f (by simp;omega) (Ok.f (by simp;omega) (Ok.d (by simp;omega))))))) fun c hc=>?_
 refine Ok.f hc ?_
 have key:∀b:Int,0≤b→b≤2113929216→Q4 (Q4 (Q4 (b+Q4 (256 * p))+256) - q)=b+256 * p+256 - q:=fun b h0 h1=>by
  rw[Z6 (n:=256 * p) (by omega) (by omega),Z6 (n:=b+256 * p) (by omega) (by omega),Z6 (n:=b+256 * p+256) (by omega) (by omega),Z6 (by omega) (by omega)]
 have seg:∀b:Int,0≤b→b≤2113929216→Ok (.br 0 ((Q4 ((Q4 ((Q4 (b+(Q4 ((256:Int) * p))))+256)) - q))==0) (.done (0,2)) (.done ((Q4 ((Q4 ((Q4 (b+(Q4 ((256:Int) * p))))+256)) - q)),0)):TT (Int×Int)) (fun r=>r.2=0∧1≤r.1∧r.1≤2147483647):=fun b h0 h1=>by
  rw[key b h0 h1]
  exact Ok.f (by simp;omega) (Ok.d ⟨rfl,by simp only;omega,by simp only;omega⟩)
 have:k=1∨k=2∨k=3∨k=4:=by omega
 rcases this with rfl|rfl|rfl|rfl
 ·exact Ok.ceq rfl (seg 2113929216 (by omega) (by omega))
 ·exact Ok.ceq rfl (seg 1845493760 (by omega) (by omega))
 ·exact Ok.ceq rfl (seg 1677721600 (by omega) (by omega))
 ·exact Ok.ceq rfl (seg 0 (by omega) (by omega))
theorem okPLACEH(p:Int)(hp:0≤p∧p≤255):SOk (s45 p) (fun r=>W7 r):=by
 show Ok (g45 p) _
 unfold g45
 have w:∀d:Int,0 < d→wu8 (Int.tdiv p d)=p / d:=fun d hd=>by
  rw[Int.tdiv_eq_ediv_of_nonneg hp.1]
  have h1:0≤p / d:=Int.ediv_nonneg hp.1 (by omega)
  have h2:p / d≤p:=Int.ediv_le_self _ hp.1
  unfold wu8 IntKind.wrap
  simp[IntKind.signed,IntKind.bits]
  omega
 rw[w 8 (by omega),w 24 (by omega)]
 have e4:Int.tmod (p / 8) 4=(p / 8) % 4:=Int.tmod_eq_emod_of_nonneg (by omega)
 rw[e4]
 refine Ok.e (fun _=>Ok.d ⟨.inr (by rw[strOfNums_size];rfl),?_⟩) (fun _=>Ok.d ⟨.inl (by rw[strOfNums_size];rfl),?_⟩)
 ·simp only;rw[Z6 (n:=p / 24) (by omega) (by omega),Z6 (by omega) (by omega)];omega
 ·simp only;rw[Z6 (n:=p / 8 % 4) (by omega) (by omega),Z6 (by omega) (by omega)];omega
theorem okRNEWH(k:Int)(a b s:Z7)(p c:Int)(hk:1≤k∧k≤4)(ha:W7 a)(hb:W7 b)(hs:s=⟨ByteArray.empty,0⟩∨W7 s)(hp:1≤p∧p≤65535)(hc:1≤c∧c≤2)
  (hab:(a.fe.size:Int)=(b.fe.size:Int)) (he:a=b∨k=2∨k=3):SOk (s74 k a b s p c) (fun r=>R3 r.1∧r.1.fX=c):=by
 show Ok (g74 k a b s p c) _
 unfold g74
 refine Ok.c (okRFOUNDH k b s hk hb hs) fun f hf=>Ok.f (by rw[hf.1];rfl) (Ok.c (okRPRI9H _ _ _ hk hp hc) fun q hq=>Ok.f (by rw[hq.1];rfl) (Ok.c (okRCAND _) fun r3 hr3=>?_))
 have hok:R3 (Q2.mk k c q.1 f.1 a b):=⟨hk,by simp only;omega,hq.2,by simp only;omega,hf.2.2.2.all,ha,hb,hab,he⟩
 exact Ok.f (by rw[hr3.2 hok];rfl) (Ok.d ⟨hok,rfl⟩)
def DraftOk(d:SDraft):Prop:=(0≤d.fy∧d.fy≤255)∧(0≤d.fX∧d.fX≤255)∧(0≤d.fG∧d.fG≤255)∧(0≤d.fT∧d.fT≤255)∧(0≤d.gu∧d.gu≤255)∧0≤d.gn∧d.gn≤65535
theorem okDCANDH(d:SDraft)(h:DraftOk d):SOk (s35 d) (fun c=>R3 c∧c.fX=1+d.fX % 2):=by
 obtain⟨hK,hC,hA,hB,hS,hP⟩:=h
 show Ok (g35 d) _
 unfold g35
 have ek:Q4 ((1:Int)+Q4 (Int.tmod d.fy 4))=1+d.fy % 4:=by
  rw[Int.tmod_eq_emod_of_nonneg hK.1,Z6 (n:=d.fy % 4) (by omega) (by omega),Z6 (by omega) (by omega)]
 have ec:Q4 ((1:Int)+Q4 (Int.tmod d.fX 2))=1+d.fX % 2:=by
  rw[Int.tmod_eq_emod_of_nonneg hC.1,Z6 (n:=d.fX % 2) (by omega) (by omega),Z6 (by omega) (by omega)]
 have ep:Q4 ((1:Int)+Int.tmod (Q4 d.gn) 65535)=1+d.gn % 65535:=by
  rw[Z6 (n:=d.gn) (by omega) (by omega),Int.tmod_eq_emod_of_nonneg hP.1,Z6 (by omega) (by omega)]
 rw[ek,ec,ep]
 refine Ok.c (okPLACEH _ hA) fun a ha=>Ok.c (okPLACEH _ hB) fun b hb=>Ok.n (R:=fun c=>c=false→(1+d.fy % 4≠1∧1+d.fy % 4≠4)∧(b.fe.size:Int)=(a.fe.size:Int)) ?_ fun c hc=>?_
 ·refine Ok.e (fun _=>Ok.d fun h=>by simp at h) (fun h1=>Ok.e (fun _=>Ok.d fun h=>by simp at h) (fun h2=>Ok.d fun h3=>?_))
  rw[ζY] at h1 h2
  rw[bne_eq_false_iff_eq] at h3
  exact⟨⟨h1,h2⟩,h3⟩
 refine Ok.b (R:=fun e=>W7 ⟨e.1,e.2⟩∧(a.fe.size:Int)=(e.1.size:Int)∧(a=⟨e.1,e.2⟩∨1+d.fy % 4=2∨1+d.fy % 4=3)) ?_ fun e he=>?_
 ·refine Ok.e (fun _=>Ok.d ⟨ha,rfl,.inl rfl⟩) (fun h=>Ok.d ⟨hb,?_,.inr ?_⟩)
  ·exact(hc h).2.symm
  ·have:=(hc h).1;omega
 refine Ok.n (R:=fun _=>True) (Ok.e (fun _=>Ok.d trivial) (fun _=>Ok.d trivial)) fun c2 _=>?_
 refine Ok.b (R:=fun e=>(Z7.mk e.1 e.2)=⟨ByteArray.empty,0⟩∨W7 ⟨e.1,e.2⟩) (Ok.e (fun _=>Ok.c (okPLACEH _ hS) fun q hq=>Ok.d (.inr hq)) (fun _=>Ok.d (.inl rfl))) fun e2 he2=>?_
 exact Ok.c (okRNEWH _ a ⟨e.1,e.2⟩ ⟨e2.1,e2.2⟩ _ _ (by omega) ha he.1 he2 (by omega) (by omega) he.2.1 he.2.2) fun r hr=>Ok.d hr
end Go.Proofs.YtjpahkpfkohfkaaGreatDoor
namespace Go.Proofs.YtjpahkpfkohfkaaGreatDoor
open Go Go.EV
theorem inP{i p:Nat}(h:i < p):(decide (0≤(i:Int))&&decide ((i:Int) < (p:Int)))=true:=by simp;omega
theorem okCMPW(x y:Q6):SOk (s80 x y) (fun _=>True):=by
 have nan:∀n:Int,SOk (s159 n) (fun _=>True):=fun n=>⟨_,rfl,trivial⟩
 show Ok (g80 x y) _
 unfold g80
 refine Ok.c (R:=fun _=>True) ?_ fun r hr=>Ok.d trivial
 show Ok (g81 y.ft x.ft) _
 unfold g81
 have fin:∀n:Int,Ok (.done n:TT Int) (fun _=>True):=fun n=>Ok.d trivial
 refine Ok.c (nan _) fun a _=>Ok.c (nan _) fun b _=>Ok.e (fun _=>Ok.e (fun _=>fin _) fun _=>fin _) fun _=>Ok.e (fun _=>fin _) fun _=>Ok.e (fun _=>fin _) fun _=>Ok.e (fun _=>fin _) fun _=>fin _
theorem swap_perm{l:List Q6}{i j:Nat}{x y:Q6}(hi:l[i]?=some y)(hj:l[j]?=some x):((l.set i x).set j y).Perm l:=by
 letI:DecidableEq Q6:=fun a b=>Classical.propDecidable (a=b)
 refine List.perm_iff_count.2 fun a=>?_
 have hil:=(ζe.1 hi).1
 have h1:=V7 (·==a) l i y x hi
 have h2:(l.set i x)[j]?=some x:=by
  by_cases e:i=j
  ·subst e;exact ζj hil
  ·rw[ζk e];exact hj
 have h3:=V7 (·==a) (l.set i x) j x y h2
 show ((l.set i x).set j y).countP (·==a)=l.countP (·==a)
 omega
theorem Ok.swp{ρ:Type}{Q:ρ→Prop}{l:List Q6}{p:Nat}{i j:Int}{a1 a2 a3 a4 a5 a6 a7 a8 a9 a10:Nat}{w:Q6→Q6→Q6→ReW}{w2:Q6→Q6→Q6→Q6→ReW}{f:Q6→Q6→ρ}
  (hp:l.length=p) (hi:0≤i∧i < (p:Int)) (hj:0≤j∧j < (p:Int)) (h:∀x y,((l.set (0+i.toNat) x).set (0+j.toNat) y).Perm l→Q (f x y)) :
  Ok (.chk a1 (decide (0≤j)&&decide (j < (p:Int))) (.row a2 Q3 l (0+j.toNat) true fun x=>.chk a3 (decide (0≤i)&&decide (i < (p:Int))) (.row a4 Q3 l (0+i.toNat) true fun y=>.chk a5 (decide (0≤i)&&decide (i < (p:Int))) (.row a6 Q3 l (0+i.toNat) true fun z=>.re a7 (w x y z) (.chk a8 (decide (0≤j)&&decide (j < (p:Int))) (.row a9 Q3 (l.set (0+i.toNat) x) (0+j.toNat) true fun u=>.re a10 (w2 x y z u) (.done (f x y))))))):TT ρ) Q:=by
 obtain⟨x,hx⟩:=at_of (l:=l) hj.1 (by omega)
 obtain⟨y,hy⟩:=at_of (l:=l) hi.1 (by omega)
 have ci:(decide (0≤i)&&decide (i < (p:Int)))=true:=by simp;omega
 have cj:(decide (0≤j)&&decide (j < (p:Int)))=true:=by simp;omega
 obtain⟨u,hu⟩:=at_of (l:=l.set i.toNat x) hj.1 (by rw[ζI];omega)
 have hs:=swap_perm hy hx
 rw[ξv,ξv] at h ⊢
 exact Ok.k cj (Ok.r rfl hx (Ok.k ci (Ok.r rfl hy (Ok.k ci (Ok.r rfl hy (Ok.re (Ok.k cj (Ok.r rfl hu (Ok.re (Ok.d (h x y hs)))))))))))
theorem okSWAPW(l:List Q6)(p:Nat)(a b n:Int)(hp:l.length=p)(hp2:p≤1000)(ha:0≤a∧a+n≤p)(hb:0≤b∧b+n≤p)(hn:0≤n):SOk (s274 p a b n l) (fun r=>r.Perm l):=by
 show Ok (g274 p a b n l) _
 unfold g274
 refine Ok.b (R:=fun r=>r.Perm l) ?_ fun e he=>Ok.d he
 refine Ok.s n.toNat (by omega) (fun k y=>y.2=(k:Int)∧y.1.Perm l) ⟨rfl,.refl _⟩ (fun k y hy hk=>?_) (fun y hy=>?_)
 ·obtain⟨y1,y2⟩:=y
  obtain⟨hi,hl⟩:=hy
  simp only at hi hl
  subst hi
  have e1:Q4 (a+(k:Int))=a+k:=Z6 (by omega) (by omega)
  have e2:Q4 (b+(k:Int))=b+k:=Z6 (by omega) (by omega)
  refine Ok.t (ξr (by show (k:Int) < n;omega)) (Ok.swp (hl.length_eq.trans hp) (by rw[e1];omega) (by rw[e2];omega) fun x y h=>⟨J9 hk (by omega),h.trans hl⟩)
 ·obtain⟨y1,y2⟩:=y
  obtain⟨hi,hl⟩:=hy
  simp only at hi hl
  subst hi
  exact Ok.f (ξs (by show ¬((n.toNat:Nat):Int) < n;omega)) (Ok.d hl)
theorem okROTW(l:List Q6)(p:Nat)(a m b:Int)(hp:l.length=p)(hp2:p≤1000)(ha:0≤a)(ham:a < m)(hmb:m < b)(hb:b≤p):SOk (s257 p a m b l) (fun r=>r.Perm l):=by
 show Ok (g257 p a m b l) _
 unfold g257
 have i0:Q4 (m - a)=m - a:=Z6 (by omega) (by omega)
 have j0:Q4 (b - m)=b - m:=Z6 (by omega) (by omega)
 refine Ok.b (R:=fun e=>e.1.Perm l∧0 < e.2∧e.2≤m - a∧e.2≤b - m) ?_ fun e he=>?_
 ·refine Ok.lp (fun y=>y.1.Perm l∧0 < y.2.1∧y.2.1≤m - a∧0 < y.2.2∧y.2.2≤b - m) (fun y=>y.2.1.toNat+y.2.2.toNat) ⟨.refl _,by show 0 < Q4 _;omega,by show Q4 _≤_;omega,by show 0 < Q4 _;omega,by show Q4 _≤_;omega⟩ (M1 (by show (Q4 _).toNat+(Q4 _).toNat≤_;omega)) (fun y hy=>?_)
  obtain⟨y1,i,j⟩:=y
  obtain⟨hl,q1,q2,q3,q4⟩:=hy
  simp only at hl q1 q2 q3 q4
  have hlp:=hl.length_eq.trans hp
  have e1:Q4 (m - i)=m - i:=Z6 (by omega) (by omega)
  have e2:Q4 (m+j)=m+j:=Z6 (by omega) (by omega)
  have e3:Q4 (m+j - i)=m+j - i:=Z6 (by omega) (by omega)
  have e4:Q4 (i - j)=i - j:=Z6 (by omega) (by omega)
  have e5:Q4 (j - i)=j - i:=Z6 (by omega) (by omega)
  refine Ok.e (fun h=>Ok.e (fun h2=>?_) fun h2=>?_) fun h=>Ok.d ⟨hl,q1,q2,?_⟩
  ·have h2:j < i:=by simpa using h2
   refine Ok.c (okSWAPW y1 p _ m j hlp hp2 (by show 0≤Q4 (m - i)∧Q4 (m - i)+j≤_;omega) (by omega) (by omega)) fun r hr=>Ok.d ⟨⟨hr.trans hl,?_,?_,q3,q4⟩,?_⟩
   ·show 0 < Q4 (i - j);omega
   ·show Q4 (i - j)≤_;omega
   ·show (Q4 (i - j)).toNat+j.toNat < i.toNat+j.toNat;omega
  ·have h2:¬j < i:=by simpa using h2
   have h:i≠j:=by simpa using h
   refine Ok.c (okSWAPW y1 p _ _ i hlp hp2 (by show 0≤Q4 (m - i)∧Q4 (m - i)+i≤_;omega) (by show 0≤Q4 (Q4 (m+j) - i)∧Q4 (Q4 (m+j) - i)+i≤_;rw[e2,e3];omega) (by omega)) fun r hr=>Ok.d ⟨⟨hr.trans hl,q1,q2,?_,?_⟩,?_⟩
   ·show 0 < Q4 (j - i);omega
   ·show Q4 (j - i)≤_;omega
   ·show i.toNat+(Q4 (j - i)).toNat < i.toNat+j.toNat;omega
  ·have h:i=j:=by simpa using h
   show i≤b - m
   omega
 ·obtain⟨y1,i⟩:=e
  obtain⟨hl,q1,q2,q3⟩:=he
  simp only at hl q1 q2 q3
  have e1:Q4 (m - i)=m - i:=Z6 (by omega) (by omega)
  exact Ok.c (okSWAPW y1 p _ m i (hl.length_eq.trans hp) hp2 (by show 0≤Q4 (m - i)∧Q4 (m - i)+i≤_;omega) (by omega) (by omega)) fun r hr=>Ok.d (hr.trans hl)
theorem okINSW(l:List Q6)(p:Nat)(a b:Int)(hp:l.length=p)(hp2:p≤1000)(ha:0≤a)(hb:b≤p)(hab:a≤p):SOk (s221 p a b l) (fun r=>r.Perm l):=by
 show Ok (g221 p a b l) _
 unfold g221
 have i0:Q4 (a+1)=a+1:=Z6 (by omega) (by omega)
 refine Ok.b (R:=fun r=>r.Perm l) ?_ fun e he=>Ok.d he
 refine Ok.lp (fun y=>y.1.Perm l∧a < y.2∧y.2≤p+1) (fun y=>((p:Int)+1 - y.2).toNat) ⟨.refl _,by show a < Q4 _;omega,by show Q4 _≤_;omega⟩ (M1 (by show ((p:Int)+1 - Q4 _).toNat≤_;omega)) (fun y hy=>?_)
 obtain⟨y1,i⟩:=y
 obtain⟨hl,q1,q2⟩:=hy
 simp only at hl q1 q2
 refine Ok.e (fun h=>?_) fun h=>Ok.d hl
 have h:i < b:=by simpa using h
 refine Ok.b (R:=fun r=>r.Perm l) ?_ fun e he=>Ok.d ⟨⟨he,?_,?_⟩,?_⟩
 ·refine Ok.lp (fun y=>y.1.Perm l∧a≤y.2∧y.2 < p) (fun y=>y.2.toNat) ⟨hl,by show a≤i;omega,by show i < _;omega⟩ (M1 (by show i.toNat≤_;omega)) (fun y hy=>?_)
  obtain⟨y1,j⟩:=y
  obtain⟨hl,c1,c2⟩:=hy
  simp only at hl c1 c2
  have hlp:=hl.length_eq.trans hp
  refine Ok.n (R:=fun c=>c=true→a < j) (Ok.e (fun h3=>?_) fun h3=>Ok.d fun e=>by cases e) fun c hc=>Ok.e (fun h3=>?_) fun h3=>Ok.d hl
  ·have h3:a < j:=by simpa using h3
   have e1:Q4 (j - 1)=j - 1:=Z6 (by omega) (by omega)
   obtain⟨x,hx⟩:=at_of (l:=y1) (i:=j) (by omega) (by omega)
   obtain⟨z,hz⟩:=at_of (l:=y1) (i:=Q4 (j - 1)) (by omega) (by omega)
   exact Ok.k (by simp;omega) (Ok.r rfl (by rw[ξv];exact hx) (Ok.k (by rw[e1];simp;omega) (Ok.r rfl (by rw[ξv];exact hz) (Ok.c (okCMPW _ _) fun r _=>Ok.d fun _=>h3))))
  ·have h4:=hc h3
   have e1:Q4 (j - 1)=j - 1:=Z6 (by omega) (by omega)
   refine Ok.swp hlp (by show 0≤j∧j < _;omega) (by show 0≤Q4 (j - 1)∧Q4 (j - 1) < _;omega) fun x y h=>⟨⟨h.trans hl,?_,?_⟩,?_⟩
   ·show a≤Q4 (j - 1);omega
   ·show Q4 (j - 1) < _;omega
   ·show (Q4 (j - 1)).toNat < j.toNat;omega
 ·show a < Q4 (i+1)
  rw[Z6 (by omega) (by omega)];omega
 ·show Q4 (i+1)≤_
  rw[Z6 (by omega) (by omega)];omega
 ·show ((p:Int)+1 - Q4 (i+1)).toNat < ((p:Int)+1 - i).toNat
  rw[Z6 (by omega) (by omega)];omega
theorem mid_i{a b:Int}(ha:0≤a∧a≤1000)(hb:0≤b∧b≤1000):Q4 (Z3 .u64 (Z4 (Q4 (a+b))) 1)=(a+b) / 2:=by
 have e0:Q4 (a+b)=a+b:=Z6 (by omega) (by omega)
 have e:Z4 (a+b)=a+b:=by
  unfold Z4 IntKind.wrap
  simp[IntKind.signed,IntKind.bits]
  omega
 have e2:Z3 .u64 (a+b) 1=(a+b) / 2:=by
  unfold Z3
  have:(2:Int) ^ (min (1:Int).toNat (IntKind.bits .u64))=2:=by decide
  rw[this,Int.fdiv_eq_ediv_of_nonneg _ (by omega)]
 rw[e0,e,e2]
 exact Z6 (by omega) (by omega)
def SymW(R:SymR)(N:Int):Prop:=∀(l:List Q6) (p:Nat) (a m b:Int),l.length=p→p≤1000→0≤a→a < m→m < b→b≤p→b - a≤N→SOk (symSh.spec R (p,a,m,b,l)) (fun r=>r.Perm l)
theorem okSYMW(R:SymR)(N:Int)(hR:SymW R N)(l:List Q6)(p:Nat)(a m b:Int)(hp:l.length=p)(hp2:p≤1000)(ha:0≤a)(ham:a < m)(hmb:m < b)(hb:b≤p)(hN:b - a≤2 * N):SOk (s222 R p a m b l) (fun r=>r.Perm l):=by
 show Ok (g222 R p a m b l) _
 unfold g222
 have i0:Q4 (m - a)=m - a:=Z6 (by omega) (by omega)
 have i1:Q4 (b - m)=b - m:=Z6 (by omega) (by omega)
 have getl:∀i:Int,0≤i→i < p→∃x,l[0+i.toNat]?=some x:=fun i h0 h1=>by
  obtain⟨x,hx⟩:=at_of (l:=l) h0 (by omega)
  exact⟨x,by rw[ξv];exact hx⟩
 have inI:∀i:Int,0≤i→i < p→(decide (0≤i)&&decide (i < (p:Int)))=true:=fun i h0 h1=>by simp;omega
 refine Ok.e (fun _=>?_) fun _=>Ok.e (fun _=>?_) fun _=>?_
 ·refine Ok.b (R:=fun e=>m≤e∧e≤b) ?_ fun e he=>Ok.b (R:=fun r=>r.Perm l) ?_ fun r hr=>Ok.d hr
  ·refine Ok.lp (fun y=>m≤y.1∧y.1≤y.2∧y.2≤b) (fun y=>(y.2 - y.1).toNat) ⟨ζL _,by show m≤b;omega,ζL _⟩ (M1 (by show (b - m).toNat≤_;omega)) (fun y hy=>?_)
   obtain⟨i,j⟩:=y
   obtain⟨q1,q2,q3⟩:=hy
   simp only at q1 q2 q3
   refine Ok.e (fun h=>?_) fun h=>Ok.d ⟨q1,by show i≤b;omega⟩
   have h:i < j:=by simpa using h
   have em:=mid_i (a:=i) (b:=j) (by omega) (by omega)
   simp only[em]
   obtain⟨x,hx⟩:=getl ((i+j) / 2) (by omega) (by omega)
   obtain⟨z,hz⟩:=getl a (by omega) (by omega)
   refine Ok.k (inI _ (by omega) (by omega)) (Ok.r rfl hx (Ok.k (inI _ (by omega) (by omega)) (Ok.r rfl hz (Ok.c (okCMPW _ _) fun r _=>Ok.e (fun _=>Ok.d ⟨⟨?_,?_,q3⟩,?_⟩) fun _=>Ok.d ⟨⟨q1,?_,?_⟩,?_⟩))))
   all_goals have e1:Q4 ((i+j) / 2+1)=(i+j) / 2+1:=Z6 (by omega) (by omega)
   ·show m≤Q4 _;omega
   ·show Q4 _≤j;omega
   ·show (j - Q4 _).toNat < (j - i).toNat;omega
   ·show i≤(i+j) / 2;omega
   ·show (i+j) / 2≤b;omega
   ·show ((i+j) / 2 - i).toNat < (j - i).toNat;omega
  ·have e1:Q4 (e - 1)=e - 1:=Z6 (by omega) (by omega)
   refine Ok.lp (fun y=>y.1.Perm l∧a≤y.2∧y.2≤p) (fun y=>((p:Int) - y.2).toNat) ⟨.refl _,ζL _,by show a≤_;omega⟩ (M1 (by show ((p:Int) - a).toNat≤_;omega)) (fun y hy=>?_)
   obtain⟨y1,i⟩:=y
   obtain⟨hl,c1,c2⟩:=hy
   simp only at hl c1 c2
   refine Ok.e (fun h=>?_) fun h=>Ok.d hl
   have h:i < Q4 (e - 1):=by simpa using h
   have e2:Q4 (i+1)=i+1:=Z6 (by omega) (by omega)
   refine Ok.swp (hl.length_eq.trans hp) (by show 0≤i∧i < _;omega) (by show 0≤Q4 (i+1)∧Q4 (i+1) < _;omega) fun x y h=>⟨⟨h.trans hl,?_,?_⟩,?_⟩
   ·show a≤Q4 (i+1);omega
   ·show Q4 (i+1)≤_;omega
   ·show ((p:Int) - Q4 (i+1)).toNat < ((p:Int) - i).toNat;omega
 ·refine Ok.b (R:=fun e=>a≤e∧e≤m) ?_ fun e he=>Ok.b (R:=fun r=>r.Perm l) ?_ fun r hr=>Ok.d hr
  ·refine Ok.lp (fun y=>a≤y.1∧y.1≤y.2∧y.2≤m) (fun y=>(y.2 - y.1).toNat) ⟨ζL _,by show a≤m;omega,ζL _⟩ (M1 (by show (m - a).toNat≤_;omega)) (fun y hy=>?_)
   obtain⟨i,j⟩:=y
   obtain⟨q1,q2,q3⟩:=hy
   simp only at q1 q2 q3
   refine Ok.e (fun h=>?_) fun h=>Ok.d ⟨q1,by show i≤m;omega⟩
   have h:i < j:=by simpa using h
   have em:=mid_i (a:=i) (b:=j) (by omega) (by omega)
   simp only[em]
   obtain⟨x,hx⟩:=getl ((i+j) / 2) (by omega) (by omega)
   obtain⟨z,hz⟩:=getl m (by omega) (by omega)
   refine Ok.k (inI _ (by omega) (by omega)) (Ok.r rfl hz (Ok.k (inI _ (by omega) (by omega)) (Ok.r rfl hx (Ok.c (okCMPW _ _) fun r _=>Ok.e (fun _=>Ok.d ⟨⟨?_,?_,q3⟩,?_⟩) fun _=>Ok.d ⟨⟨q1,?_,?_⟩,?_⟩))))
   all_goals have e1:Q4 ((i+j) / 2+1)=(i+j) / 2+1:=Z6 (by omega) (by omega)
   ·show a≤Q4 _;omega
   ·show Q4 _≤j;omega
   ·show (j - Q4 _).toNat < (j - i).toNat;omega
   ·show i≤(i+j) / 2;omega
   ·show (i+j) / 2≤m;omega
   ·show ((i+j) / 2 - i).toNat < (j - i).toNat;omega
  ·refine Ok.lp (fun y=>y.1.Perm l∧a≤y.2∧y.2≤m) (fun y=>y.2.toNat) ⟨.refl _,by show a≤m;omega,ζL _⟩ (M1 (by show m.toNat≤_;omega)) (fun y hy=>?_)
   obtain⟨y1,i⟩:=y
   obtain⟨hl,c1,c2⟩:=hy
   simp only at hl c1 c2
   refine Ok.e (fun h=>?_) fun h=>Ok.d hl
   have h:e < i:=by simpa using h
   have e2:Q4 (i - 1)=i - 1:=Z6 (by omega) (by omega)
   refine Ok.swp (hl.length_eq.trans hp) (by show 0≤i∧i < _;omega) (by show 0≤Q4 (i - 1)∧Q4 (i - 1) < _;omega) fun x y h=>⟨⟨h.trans hl,?_,?_⟩,?_⟩
   ·show a≤Q4 (i - 1);omega
   ·show Q4 (i - 1)≤_;omega
   ·show (Q4 (i - 1)).toNat < i.toNat;omega
 ·obtain⟨mid,hmid⟩:∃q,(a+b) / 2=q:=⟨_,rfl⟩
  have em:=mid_i (a:=a) (b:=b) (by omega) (by omega)
  rw[hmid] at em
  have en:Q4 (mid+m)=mid+m:=Z6 (by omega) (by omega)
  have en1:Q4 (mid+m - 1)=mid+m - 1:=Z6 (by omega) (by omega)
  simp only[em,en,en1]
  refine Ok.b (R:=fun e=>a≤e.1∧e.1≤e.2∧e.2≤m∧e.2≤mid∧mid+m - e.1≤b) (Ok.e (fun h=>Ok.d ?_) fun h=>Ok.d ?_) fun e he=>?_
  ·have h:mid < m:=by simpa using h
   have e1:Q4 (mid+m - b)=mid+m - b:=Z6 (by omega) (by omega)
   show a≤Q4 _∧Q4 _≤mid∧mid≤m∧mid≤mid∧mid+m - Q4 _≤b
   omega
  ·have h:¬mid < m:=by simpa using h
   show a≤a∧a≤m∧m≤m∧m≤mid∧mid+m - a≤b
   omega
  obtain⟨s0,r0⟩:=e
  obtain⟨c1,c2,c3,c4,c5⟩:=he
  simp only at c1 c2 c3 c4 c5
  refine Ok.b (R:=fun e=>s0≤e∧e≤r0) ?_ fun st hst=>?_
  ·refine Ok.lp (fun y=>s0≤y.1∧y.1≤y.2∧y.2≤r0) (fun y=>(y.2 - y.1).toNat) ⟨ζL _,c2,ζL _⟩ (M1 (by show (r0 - s0).toNat≤_;omega)) (fun y hy=>?_)
   obtain⟨i,j⟩:=y
   obtain⟨q1,q2,q3⟩:=hy
   simp only at q1 q2 q3
   refine Ok.e (fun h=>?_) fun h=>Ok.d ⟨q1,by show i≤r0;omega⟩
   have h:i < j:=by simpa using h
   have ec:=mid_i (a:=i) (b:=j) (by omega) (by omega)
   have ep:Q4 (mid+m - 1 - (i+j) / 2)=mid+m - 1 - (i+j) / 2:=Z6 (by omega) (by omega)
   simp only[ec,ep]
   obtain⟨x,hx⟩:=getl ((i+j) / 2) (by omega) (by omega)
   obtain⟨z,hz⟩:=getl (mid+m - 1 - (i+j) / 2) (by omega) (by omega)
   refine Ok.k (inI _ (by omega) (by omega)) (Ok.r rfl hz (Ok.k (inI _ (by omega) (by omega)) (Ok.r rfl hx (Ok.c (okCMPW _ _) fun r _=>Ok.e (fun _=>Ok.d ⟨⟨?_,?_,q3⟩,?_⟩) fun _=>Ok.d ⟨⟨q1,?_,?_⟩,?_⟩))))
   all_goals have e1:Q4 ((i+j) / 2+1)=(i+j) / 2+1:=Z6 (by omega) (by omega)
   ·show s0≤Q4 _;omega
   ·show Q4 _≤j;omega
   ·show (j - Q4 _).toNat < (j - i).toNat;omega
   ·show i≤(i+j) / 2;omega
   ·show (i+j) / 2≤r0;omega
   ·show ((i+j) / 2 - i).toNat < (j - i).toNat;omega
  have ee:Q4 (mid+m - st)=mid+m - st:=Z6 (by omega) (by omega)
  simp only[ee]
  refine Ok.n (R:=fun c=>c=true→st < m∧m < mid+m - st) (Ok.e (fun h=>Ok.d fun h2=>⟨by simpa using h,by simpa using h2⟩) fun h=>Ok.d fun e=>by cases e) fun c hc=>?_
  refine Ok.b (R:=fun r=>r.Perm l) (Ok.e (fun h=>Ok.c (okROTW l p _ _ _ hp hp2 (by omega) (hc h).1 (hc h).2 (by omega)) fun r hr=>Ok.d hr) fun h=>Ok.d (.refl _)) fun e1 he1=>?_
  refine Ok.n (R:=fun c=>c=true→a < st∧st < mid) (Ok.e (fun h=>Ok.d fun h2=>⟨by simpa using h,by simpa using h2⟩) fun h=>Ok.d fun e=>by cases e) fun c2 hc2=>?_
  refine Ok.b (R:=fun r=>r.Perm l) (Ok.e (fun h=>Ok.c (hR e1 p a st mid (he1.length_eq.trans hp) hp2 ha (hc2 h).1 (hc2 h).2 (by omega) (by omega)) fun r hr=>Ok.d (hr.trans he1)) fun h=>Ok.d he1) fun e2 he2=>?_
  refine Ok.n (R:=fun c=>c=true→mid < mid+m - st∧mid+m - st < b) (Ok.e (fun h=>Ok.d fun h2=>⟨by simpa using h,by simpa using h2⟩) fun h=>Ok.d fun e=>by cases e) fun c3 hc3=>?_
  exact Ok.e (fun h=>Ok.c (hR e2 p mid _ b (he2.length_eq.trans hp) hp2 (by omega) (hc3 h).1 (hc3 h).2 hb (by omega)) fun r hr=>Ok.d (hr.trans he2)) fun h=>Ok.d he2
def symNW(n:Nat):SymR:=symSh.fix (fun R a=>(s222 R a.1 a.2.1 a.2.2.1 a.2.2.2.1 a.q)) (fun R a r h=>(s222 R a.1 a.2.1 a.2.2.1 a.2.2.2.1 a.q).ok r h) n
theorem symW:∀n:Nat,SymW (symNW n) (((2 ^ n:Nat)):Int)
 | 0=>fun l p a m b hp hp2 ha ham hmb hb hN=>by simp at hN;omega
 | n+1=>fun l p a m b hp hp2 ha ham hmb hb hN=>okSYMW (symNW n) (((2 ^ n:Nat)):Int) (symW n) l p a m b hp hp2 ha ham hmb hb (by rw[Nat.pow_succ] at hN;omega)
theorem okSYMAW(l:List Q6)(p:Nat)(a m b:Int)(hp:l.length=p)(hp2:p≤1000)(ha:0≤a)(ham:a < m)(hmb:m < b)(hb:b≤p):SOk (s222 symAll p a m b l) (fun r=>r.Perm l):=by
 refine okSYMW symAll (((2 ^ 60:Nat)):Int) (symW 60) l p a m b hp hp2 ha ham hmb hb ?_
 have h2:(1000:Nat)≤2 * 2 ^ 60:=by decide
 omega
theorem okSORTW(l:List Q6)(hl:l.length≤1000):SOk (s79 l.length l) (fun r=>r.Perm l):=by
 show Ok (g79 l.length l) _
 unfold g79
 refine Ok.c (R:=fun r=>r.Perm l) ?_ fun r hr=>Ok.d hr
 obtain⟨p,hp⟩:∃p,l.length=p:=⟨_,rfl⟩
 rw[hp] at hl ⊢
 show Ok (g158 p (p:Int) l) _
 unfold g158
 refine Ok.b (R:=fun e=>e.1.Perm l∧0≤e.2∧e.2≤p) ?_ fun e he=>?_
 ·refine Ok.lp (fun y=>y.1.Perm l∧0≤y.2.1∧y.2.1≤p∧y.2.2=y.2.1+20) (fun y=>((p:Int) - y.2.1).toNat) ⟨.refl _,ζL _,by show (0:Int)≤_;omega,rfl⟩ (M1 (by show ((p:Int) - 0).toNat≤_;omega)) (fun y hy=>?_)
  obtain⟨y1,a,b⟩:=y
  obtain⟨q1,q2,q3,q4⟩:=hy
  simp only at q1 q2 q3 q4
  refine Ok.e (fun h=>?_) fun h=>Ok.d ⟨q1,q2,q3⟩
  have h:b≤p:=by simpa using h
  refine Ok.c (okINSW y1 p a b (q1.length_eq.trans hp) hl q2 h q3) fun r hr=>Ok.d ⟨⟨hr.trans q1,?_,?_,?_⟩,?_⟩
  ·show 0≤b;omega
  ·exact h
  ·show Q4 (b+20)=b+20
   exact Z6 (by omega) (by omega)
  ·show ((p:Int) - b).toNat < ((p:Int) - a).toNat;omega
 obtain⟨y1,a⟩:=e
 obtain⟨q1,q2,q3⟩:=he
 simp only at q1 q2 q3
 refine Ok.c (okINSW y1 p a p (q1.length_eq.trans hp) hl q2 (ζL _) q3) fun r hr=>?_
 refine Ok.b (R:=fun r=>r.Perm l) ?_ fun e he=>Ok.d he
 refine Ok.lp (fun y=>y.1.Perm l∧1≤y.2∧y.2≤2000) (fun y=>((p:Int) - y.2).toNat) ⟨hr.trans q1,by show (1:Int)≤20;decide,by show (20:Int)≤2000;decide⟩ (M1 (by show ((p:Int) - 20).toNat≤_;omega)) (fun y hy=>?_)
 obtain⟨y1,k⟩:=y
 obtain⟨q1,q2,q3⟩:=hy
 simp only at q1 q2 q3
 refine Ok.e (fun h=>?_) fun h=>Ok.d q1
 have h:k < p:=by simpa using h
 have e1:Q4 ((2:Int) * k)=2 * k:=Z6 (by omega) (by omega)
 have e2:Q4 (k * 2)=k * 2:=Z6 (by omega) (by omega)
 have fin:∀L:List Q6,L.Perm l→Rnd (fun y:List Q6×Int=>y.1.Perm l∧1≤y.2∧y.2≤2000) (fun y=>((p:Int) - y.2).toNat) ((p:Int) - k).toNat (fun r:List Q6=>r.Perm l) (.inl (L,Q4 (k * 2))):=fun L hL=>by
  refine⟨⟨hL,?_,?_⟩,?_⟩
  ·show 1≤Q4 (k * 2);omega
  ·show Q4 (k * 2)≤2000;omega
  ·show ((p:Int) - Q4 (k * 2)).toNat < ((p:Int) - k).toNat;omega
 refine Ok.b (R:=fun e=>e.1.Perm l∧0≤e.2∧e.2≤p) ?_ fun e he=>?_
 ·refine Ok.lp (fun y=>y.1.Perm l∧0≤y.2.1∧y.2.1≤p∧y.2.2=y.2.1+2 * k) (fun y=>((p:Int) - y.2.1).toNat) ⟨q1,ζL _,by show (0:Int)≤_;omega,by show Q4 (2 * k)=0+2 * k;omega⟩ (M1 (by show ((p:Int) - 0).toNat≤_;omega)) (fun y hy=>?_)
  obtain⟨y2,a,b⟩:=y
  obtain⟨c1,c2,c3,c4⟩:=hy
  simp only at c1 c2 c3 c4
  refine Ok.e (fun h=>?_) fun h=>Ok.d ⟨c1,c2,c3⟩
  have h:b≤p:=by simpa using h
  have e3:Q4 (a+k)=a+k:=Z6 (by omega) (by omega)
  refine Ok.c (okSYMAW y2 p a _ b (c1.length_eq.trans hp) hl c2 (by show a < Q4 (a+k);omega) (by show Q4 (a+k) < b;omega) h) fun r hr=>Ok.d ⟨⟨hr.trans c1,?_,?_,?_⟩,?_⟩
  ·show 0≤b;omega
  ·exact h
  ·show Q4 (b+Q4 ((2:Int) * k))=b+2 * k
   rw[e1];exact Z6 (by omega) (by omega)
  ·show ((p:Int) - b).toNat < ((p:Int) - a).toNat;omega
 ·obtain⟨y2,a⟩:=e
  obtain⟨c1,c2,c3⟩:=he
  simp only at c1 c2 c3
  have e3:Q4 (a+k)=a+k:=Z6 (by omega) (by omega)
  refine Ok.e (fun h=>?_) fun h=>Ok.d (fin _ c1)
  have h:Q4 (a+k) < p:=by simpa using h
  exact Ok.c (okSYMAW y2 p a _ p (c1.length_eq.trans hp) hl c2 (by show a < Q4 (a+k);omega) h (ζL _)) fun r hr=>Ok.d (fin _ (hr.trans c1))
end Go.Proofs.YtjpahkpfkohfkaaGreatDoor
