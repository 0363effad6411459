/- Guides and contracts, printed by a program. The pairs of candidates that fit, gathered: a range over a function (a method value), put together by han ..; no conditions. -/
import Derived.Test.YtjpahkpfkohfkaaGreatDoorF9
import Derived.Test.YtjpahkpfkohfkaaGreatDoorF6
import Derived.Test.YtjpahkpfkohfkaaGreatDoorF7
import Derived.Test.YtjpahkpfkohfkaaGreatDoorF8
import Derived.KernelRfl
set_option linter.unusedVariables false
set_option linter.unusedSimpArgs false
set_option maxRecDepth 100000
noncomputable section
namespace Go.Proofs.YtjpahkpfkohfkaaGreatDoor
open Go Go.EV
structure U3 where
 fk:Int
 fv:Int
structure R1 where
 a0:ByteArray
 a1:ByteArray
structure F9 where
 fk:R1
 fv:Int
def O5:Ty U3:=⟨fun x=>[.i x.fk,.i x.fv],fun x=>[.i x.fk,.i x.fv],fun _=>rfl,fun _=>rfl,fun _ _=>rfl,fun _=>rfl⟩
def C9:Ty F9:=⟨fun x=>[.str x.fk.a0,.str x.fk.a1,.i x.fv],fun x=>[.str x.fk.a0,.str x.fk.a1,.i x.fv],fun _=>rfl,fun _=>rfl,fun _ _=>rfl,fun _=>rfl⟩
def g156_1(p0:Bool)(p1 p2:List Q2)(p3:Q6):TT (Int):=.row 1008 Q0 p1 p3.fH.toNat (decide (0≤p3.fH)) fun x283=>.row 1018 Q0 p2 p3.fJ.toNat (decide (0≤p3.fJ)) fun x284=>.bind 0 (.br 0 (!p0) (.done (x284.ft,x283.ft)) (.done (x283.ft,x284.ft))) (fun(e285:Int×Int)=>Ext.l .normal [(4,.i 0),(5,.i e285.1),(6,.i e285.2)] []) (fun e285=>.call 4003 (s183 e285.1 e285.2) [] [] fun r286=>.done r286.1)
def s156_1(p0:Bool)(p1 p2:List Q2)(p3:Q6):Sp (Int):=.ofFn 156 Z0 Tryz.func156 (show FnD Pg GG [0,1,3,4,5,6,7,34] Tryz.f156 [.snap [.bool p0,Sl 8 Q0 p1,Sl 8 Q0 p2,.nilsl],.agg (Q3.c p3)] (g156_1 p0 p1 p2 p3) (fun r=>.int .i64 r) by unfold FnD;kernel_rfl)
def s159(p0:Int):Sp (Bool):=.ofFn 159 Z0 Tryz.func159 (show FnD Pg GG [0,2] Tryz.f159 [.i p0] (.done (p0 != p0):TT (Bool)) (fun r=>.bool r) by unfold FnD;kernel_rfl)
def g81(p0 p1:Int):TT (Int):=.call 1002 (s159 p0) [] [] fun r292=>.call 2002 (s159 p1) [] [] fun r293=>.br 0 r292 (.br 0 r293 (.done 0) (.done (-1))) (.br 0 r293 (.done 1) (.br 0 (decide (p0 < p1)) (.done (-1)) (.br 0 (decide (p1 < p0)) (.done 1) (.done 0))))
def s81(p0 p1:Int):Sp (Int):=.ofFn 81 Z0 Tryz.func81 (show FnD Pg GG [0,1,4,5,6,11,12,13,16,19] Tryz.f81 [.i p0,.i p1] (g81 p0 p1) (fun r=>.int .i64 r) by unfold FnD;kernel_rfl)
def g80(p0 p1:Q6):TT (Int):=.call 1005 (s81 p1.ft p0.ft) [] [] fun r294=>.done r294
def s80(p0 p1:Q6):Sp (Int):=.ofFn 80 Z0 Tryz.func80 (show FnD Pg GG [0,1,2,3,4] Tryz.f80 [.agg (Q3.c p0),.agg (Q3.c p1)] (g80 p0 p1) (fun r=>.int .i64 r) by unfold FnD;kernel_rfl)
def g221(p0:Nat)(p1 p2:Int)(p3:List Q6):TT ((List Q6)):=.bind 1 (.lp (fun(l330:(List Q6)×Int)=>Ext.of .normal [(0,.ref ωa 0 p0),(1,.i p1),(2,.i p2),(3,.fn 80 [] []),(8,.i l330.2)] [] [Bt ωa Q3 4 l330.1] (by rfl)) (fun l330=>.br 0 (decide (l330.2 < p2)) (.bind 2 (.lp (fun(l340:(List Q6)×Int)=>Ext.of .normal [(0,.ref ωa 0 p0),(1,.i p1),(2,.i p2),(3,.fn 80 [] []),(8,.i l330.2),(9,.i l340.2)] [] [Bt ωa Q3 4 l340.1] (by rfl)) (fun l340=>.cnd 4 [34] (.br 4005 (decide (p1 < l340.2)) (.chk 4008 (bD l340.2 p0) (.row 4009 Q3 l340.1 (0+l340.2.toNat) true fun x341=>.chk 4013 (decide (0≤(Q4 (l340.2 - 1)))&&decide ((Q4 (l340.2 - 1)) < (p0:Int))) (.row 4014 Q3 l340.1 (0+(Q4 (l340.2 - 1)).toNat) true fun x342=>.call 4015 (s80 x341 x342) [] [] fun r343=>.done (decide (r343 < 0))))) (.done false)) (fun(c344:Bool)=>[.bool c344]) fun c344=>.br 0 c344 (.chk 6009 (decide (0≤(Q4 (l340.2 - 1)))&&decide ((Q4 (l340.2 - 1)) < (p0:Int))) (.row 6010 Q3 l340.1 (0+(Q4 (l340.2 - 1)).toNat) true fun x345=>.chk 6013 (bD l340.2 p0) (.row 6014 Q3 l340.1 (0+l340.2.toNat) true fun x346=>.chk 6015 (bD l340.2 p0) (.row 6016 Q3 l340.1 (0+l340.2.toNat) true fun x347=>.re 6016 (ReW.put ωa 4 Q3 l340.1 (0+l340.2.toNat) x345) (.chk 6017 (decide (0≤(Q4 (l340.2 - 1)))&&decide ((Q4 (l340.2 - 1)) < (p0:Int))) (.row 6018 Q3 (l340.1.set (0+l340.2.toNat) x345) (0+(Q4 (l340.2 - 1)).toNat) true fun x348=>.re 6018 (ReW.put ωa 4 Q3 (l340.1.set (0+l340.2.toNat) x345) (0+(Q4 (l340.2 - 1)).toNat) x346) (.done (.inl (((l340.1.set (0+l340.2.toNat) x345).set (0+(Q4 (l340.2 - 1)).toNat) x346),(Q4 (l340.2 - 1))))))))))) (.done (.inr l340.1))) (l330.1,l330.2)) (fun(e349:(List Q6))=>Ext.of (.exit 2) [(0,.ref ωa 0 p0),(1,.i p1),(2,.i p2),(3,.fn 80 [] []),(8,.i l330.2)] [] [Bt ωa Q3 4 e349] (by rfl)) (fun e349=>.done (.inl (e349,(Q4 (l330.2+1)))))) (.done (.inr l330.1))) (p3,(Q4 (p1+1)))) (fun(e350:(List Q6))=>Ext.of (.exit 0) [] [] [Bt ωa Q3 4 e350] (by rfl)) (fun e350=>.done e350)
def s221(p0:Nat)(p1 p2:Int)(p3:List Q6):Sp ((List Q6)):=.ofFnB 221 [ωa] Z0 Tryz.func221 rfl (fun _=>rfl) (show FnB Pg GG [0,1,2,3,8,9,14,34] Tryz.f221 [.ref ωa 0 p0,.i p1,.i p2,.fn 80 [] []] (Ext.of .normal (U6 [.ref ωa 0 p0,.i p1,.i p2,.fn 80 [] []]) [] [Bt ωa Q3 4 p3] (by rfl)) (g221 p0 p1 p2 p3) (fun(r:(List Q6))=>.tup []) (fun(r:(List Q6))=>Ext.of .normal [] [] [Bt ωa Q3 4 r] (by rfl)) by unfold FnB;kernel_rfl)
def g274(p0:Nat)(p1 p2 p3:Int)(p4:List Q6):TT ((List Q6)):=.bind 1 (.lp (fun(l414:(List Q6)×Int)=>Ext.of .normal [(0,.ref ωa 0 p0),(1,.i p1),(2,.i p2),(3,.i p3),(10,.i l414.2)] [] [Bt ωa Q3 4 l414.1] (by rfl)) (fun l414=>.br 0 (decide (l414.2 < p3)) (.chk 3013 (decide (0≤(Q4 (p2+l414.2)))&&decide ((Q4 (p2+l414.2)) < (p0:Int))) (.row 3014 Q3 l414.1 (0+(Q4 (p2+l414.2)).toNat) true fun x415=>.chk 3019 (decide (0≤(Q4 (p1+l414.2)))&&decide ((Q4 (p1+l414.2)) < (p0:Int))) (.row 3020 Q3 l414.1 (0+(Q4 (p1+l414.2)).toNat) true fun x416=>.chk 3021 (decide (0≤(Q4 (p1+l414.2)))&&decide ((Q4 (p1+l414.2)) < (p0:Int))) (.row 3022 Q3 l414.1 (0+(Q4 (p1+l414.2)).toNat) true fun x417=>.re 3022 (ReW.put ωa 4 Q3 l414.1 (0+(Q4 (p1+l414.2)).toNat) x415) (.chk 3023 (decide (0≤(Q4 (p2+l414.2)))&&decide ((Q4 (p2+l414.2)) < (p0:Int))) (.row 3024 Q3 (l414.1.set (0+(Q4 (p1+l414.2)).toNat) x415) (0+(Q4 (p2+l414.2)).toNat) true fun x418=>.re 3024 (ReW.put ωa 4 Q3 (l414.1.set (0+(Q4 (p1+l414.2)).toNat) x415) (0+(Q4 (p2+l414.2)).toNat) x416) (.done (.inl (((l414.1.set (0+(Q4 (p1+l414.2)).toNat) x415).set (0+(Q4 (p2+l414.2)).toNat) x416),(Q4 (l414.2+1))))))))))) (.done (.inr l414.1))) (p4,0)) (fun(e419:(List Q6))=>Ext.of (.exit 0) [] [] [Bt ωa Q3 4 e419] (by rfl)) (fun e419=>.done e419)
def s274(p0:Nat)(p1 p2 p3:Int)(p4:List Q6):Sp ((List Q6)):=.ofFnB 274 [ωa] Z0 Tryz.func274 rfl (fun _=>rfl) (show FnB Pg GG [0,1,2,3,10,13] Tryz.f274 [.ref ωa 0 p0,.i p1,.i p2,.i p3,.fn 80 [] []] (Ext.of .normal (U6 [.ref ωa 0 p0,.i p1,.i p2,.i p3,.fn 80 [] []]) [] [Bt ωa Q3 4 p4] (by rfl)) (g274 p0 p1 p2 p3 p4) (fun(r:(List Q6))=>.tup []) (fun(r:(List Q6))=>Ext.of .normal [] [] [Bt ωa Q3 4 r] (by rfl)) by unfold FnB;kernel_rfl)
def g257(p0:Nat)(p1 p2 p3:Int)(p4:List Q6):TT ((List Q6)):=.bind 1 (.lp (fun(l415:(List Q6)×Int×Int)=>Ext.of .normal [(0,.ref ωa 0 p0),(2,.i p2),(4,.fn 80 [] []),(10,.i l415.2.1),(11,.i l415.2.2)] [] [Bt ωa Q3 4 l415.1] (by rfl)) (fun l415=>.br 0 (l415.2.1 != l415.2.2) (.br 0 (decide (l415.2.2 < l415.2.1)) (.call 4008 (s274 p0 (Q4 (p2 - l415.2.1)) p2 l415.2.2 l415.1) [(ωa,ωa)] [] fun r420=>.done (.inl (r420,(Q4 (l415.2.1 - l415.2.2)),l415.2.2))) (.call 6012 (s274 p0 (Q4 (p2 - l415.2.1)) (Q4 ((Q4 (p2+l415.2.2)) - l415.2.1)) l415.2.1 l415.1) [(ωa,ωa)] [] fun r425=>.done (.inl (r425,l415.2.1,(Q4 (l415.2.2 - l415.2.1)))))) (.done (.inr (l415.1,l415.2.1)))) (p4,(Q4 (p2 - p1)),(Q4 (p3 - p2)))) (fun(e426:(List Q6)×Int)=>Ext.of (.exit 0) [(0,.ref ωa 0 p0),(2,.i p2),(4,.fn 80 [] []),(10,.i e426.2)] [] [Bt ωa Q3 4 e426.1] (by rfl)) (fun e426=>.call 8008 (s274 p0 (Q4 (p2 - e426.2)) p2 e426.2 e426.1) [(ωa,ωa)] [] fun r431=>.done r431)
def s257(p0:Nat)(p1 p2 p3:Int)(p4:List Q6):Sp ((List Q6)):=.ofFnB 257 [ωa] Z0 Tryz.func257 rfl (fun _=>rfl) (show FnB Pg GG [0,1,2,3,4,10,11,20,23] Tryz.f257 [.ref ωa 0 p0,.i p1,.i p2,.i p3,.fn 80 [] []] (Ext.of .normal (U6 [.ref ωa 0 p0,.i p1,.i p2,.i p3,.fn 80 [] []]) [] [Bt ωa Q3 4 p4] (by rfl)) (g257 p0 p1 p2 p3 p4) (fun(r:(List Q6))=>.tup []) (fun(r:(List Q6))=>Ext.of .normal [] [] [Bt ωa Q3 4 r] (by rfl)) by unfold FnB;kernel_rfl)
def symSh : Shape Tryz.prog GG (Nat × Int × Int × Int × (List Q6)) ((List Q6)) := {
 f:=222
 args:=fun a=>[.ref 1000000 0 a.1,.int .i64 a.2.1,.int .i64 a.2.2.1,.int .i64 a.2.2.2.1,.fn 80 [] []]
 X:=fun a=>Ext.of .normal (U6 [.ref 1000000 0 a.1,.i a.2.1,.i a.2.2.1,.i a.2.2.2.1,.fn 80 [] []]) [] [BT.of 1000000 Q3 4 a.q true] (by rfl)
 res:=fun _ r=>.tup []
 O:=fun _ r=>Ext.of .normal [] [] [BT.of 1000000 Q3 4 r true] (by rfl)
 dt:=[1000000]
 hdt := fun _ _ => rfl }
abbrev SymR:Type:=symSh.R
def g222(R:SymR)(p0:Nat)(p1:Int)(p2:Int)(p3:Int)(p4:(List Q6)):TT ((List Q6)):=.br 0 ((Q4 (p2 - p1))==1) (.bind 1 (.lp (fun(l352:Int×Int)=>Ext.of .normal [(0,.ref ωa 0 p0),(1,.i p1),(2,.i p2),(3,.i p3),(4,.fn 80 [] []),(10,.i l352.1),(11,.i l352.2)] [] [Bt ωa Q3 4 p4] (by rfl)) (fun l352=>.br 0 (decide (l352.1 < l352.2)) (.chk 5004 (decide (0≤(Q4 (Z3 .u64 (Z4 (Q4 (l352.1+l352.2))) 1)))&&decide ((Q4 (Z3 .u64 (Z4 (Q4 (l352.1+l352.2))) 1)) < (p0:Int))) (.row 5005 Q3 p4 (0+(Q4 (Z3 .u64 (Z4 (Q4 (l352.1+l352.2))) 1)).toNat) true fun x353=>.chk 5008 (bD p1 p0) (.row 5009 Q3 p4 (0+p1.toNat) true fun x354=>.call 5010 (s80 x353 x354) [] [] fun r355=>.br 0 (decide (r355 < 0)) (.done (.inl ((Q4 ((Q4 (Z3 .u64 (Z4 (Q4 (l352.1+l352.2))) 1))+1)),l352.2))) (.done (.inl (l352.1,(Q4 (Z3 .u64 (Z4 (Q4 (l352.1+l352.2))) 1)))))))) (.done (.inr l352.1))) (p2,p3)) (fun(e356:Int)=>Ext.of (.exit 0) [(0,.ref ωa 0 p0),(1,.i p1),(2,.i p2),(3,.i p3),(4,.fn 80 [] []),(10,.i e356)] [] [Bt ωa Q3 4 p4] (by rfl)) (fun e356=>.bind 1 (.lp (fun(l362:(List Q6)×Int)=>Ext.of .normal [(0,.ref ωa 0 p0),(1,.i p1),(2,.i p2),(3,.i p3),(4,.fn 80 [] []),(10,.i e356),(13,.i l362.2)] [] [Bt ωa Q3 4 l362.1] (by rfl)) (fun l362=>.br 0 (decide (l362.2 < (Q4 (e356 - 1)))) (.chk 11009 (decide (0≤(Q4 (l362.2+1)))&&decide ((Q4 (l362.2+1)) < (p0:Int))) (.row 11010 Q3 l362.1 (0+(Q4 (l362.2+1)).toNat) true fun x363=>.chk 11013 (bD l362.2 p0) (.row 11014 Q3 l362.1 (0+l362.2.toNat) true fun x364=>.chk 11015 (bD l362.2 p0) (.row 11016 Q3 l362.1 (0+l362.2.toNat) true fun x365=>.re 11016 (ReW.put ωa 4 Q3 l362.1 (0+l362.2.toNat) x363) (.chk 11017 (decide (0≤(Q4 (l362.2+1)))&&decide ((Q4 (l362.2+1)) < (p0:Int))) (.row 11018 Q3 (l362.1.set (0+l362.2.toNat) x363) (0+(Q4 (l362.2+1)).toNat) true fun x366=>.re 11018 (ReW.put ωa 4 Q3 (l362.1.set (0+l362.2.toNat) x363) (0+(Q4 (l362.2+1)).toNat) x364) (.done (.inl (((l362.1.set (0+l362.2.toNat) x363).set (0+(Q4 (l362.2+1)).toNat) x364),(Q4 (l362.2+1))))))))))) (.done (.inr l362.1))) (p4,p1)) (fun(e367:(List Q6))=>Ext.of (.exit 2) [(0,.ref ωa 0 p0),(1,.i p1),(2,.i p2),(3,.i p3),(4,.fn 80 [] [])] [] [Bt ωa Q3 4 e367] (by rfl)) (fun e367=>.done e367))) (.br 0 ((Q4 (p3 - p2))==1) (.bind 1 (.lp (fun(l372:Int×Int)=>Ext.of .normal [(0,.ref ωa 0 p0),(1,.i p1),(2,.i p2),(3,.i p3),(4,.fn 80 [] []),(14,.i l372.1),(15,.i l372.2)] [] [Bt ωa Q3 4 p4] (by rfl)) (fun l372=>.br 0 (decide (l372.1 < l372.2)) (.chk 17004 (bD p2 p0) (.row 17005 Q3 p4 (0+p2.toNat) true fun x373=>.chk 17008 (decide (0≤(Q4 (Z3 .u64 (Z4 (Q4 (l372.1+l372.2))) 1)))&&decide ((Q4 (Z3 .u64 (Z4 (Q4 (l372.1+l372.2))) 1)) < (p0:Int))) (.row 17009 Q3 p4 (0+(Q4 (Z3 .u64 (Z4 (Q4 (l372.1+l372.2))) 1)).toNat) true fun x374=>.call 17010 (s80 x373 x374) [] [] fun r375=>.br 0 (!(decide (r375 < 0))) (.done (.inl ((Q4 ((Q4 (Z3 .u64 (Z4 (Q4 (l372.1+l372.2))) 1))+1)),l372.2))) (.done (.inl (l372.1,(Q4 (Z3 .u64 (Z4 (Q4 (l372.1+l372.2))) 1)))))))) (.done (.inr l372.1))) (p1,p2)) (fun(e376:Int)=>Ext.of (.exit 4) [(0,.ref ωa 0 p0),(1,.i p1),(2,.i p2),(3,.i p3),(4,.fn 80 [] []),(14,.i e376)] [] [Bt ωa Q3 4 p4] (by rfl)) (fun e376=>.bind 1 (.lp (fun(l382:(List Q6)×Int)=>Ext.of .normal [(0,.ref ωa 0 p0),(1,.i p1),(2,.i p2),(3,.i p3),(4,.fn 80 [] []),(14,.i e376),(17,.i l382.2)] [] [Bt ωa Q3 4 l382.1] (by rfl)) (fun l382=>.br 0 (decide (e376 < l382.2)) (.chk 23009 (decide (0≤(Q4 (l382.2 - 1)))&&decide ((Q4 (l382.2 - 1)) < (p0:Int))) (.row 23010 Q3 l382.1 (0+(Q4 (l382.2 - 1)).toNat) true fun x383=>.chk 23013 (bD l382.2 p0) (.row 23014 Q3 l382.1 (0+l382.2.toNat) true fun x384=>.chk 23015 (bD l382.2 p0) (.row 23016 Q3 l382.1 (0+l382.2.toNat) true fun x385=>.re 23016 (ReW.put ωa 4 Q3 l382.1 (0+l382.2.toNat) x383) (.chk 23017 (decide (0≤(Q4 (l382.2 - 1)))&&decide ((Q4 (l382.2 - 1)) < (p0:Int))) (.row 23018 Q3 (l382.1.set (0+l382.2.toNat) x383) (0+(Q4 (l382.2 - 1)).toNat) true fun x386=>.re 23018 (ReW.put ωa 4 Q3 (l382.1.set (0+l382.2.toNat) x383) (0+(Q4 (l382.2 - 1)).toNat) x384) (.done (.inl (((l382.1.set (0+l382.2.toNat) x383).set (0+(Q4 (l382.2 - 1)).toNat) x384),(Q4 (l382.2 - 1))))))))))) (.done (.inr l382.1))) (p4,p2)) (fun(e387:(List Q6))=>Ext.of (.exit 6) [(0,.ref ωa 0 p0),(1,.i p1),(2,.i p2),(3,.i p3),(4,.fn 80 [] [])] [] [Bt ωa Q3 4 e387] (by rfl)) (fun e387=>.done e387))) (.bind 0 (.br 0 (decide ((Q4 (Z3 .u64 (Z4 (Q4 (p1+p3))) 1)) < p2)) (.done ((Q4 ((Q4 ((Q4 (Z3 .u64 (Z4 (Q4 (p1+p3))) 1))+p2)) - p3)),(Q4 (Z3 .u64 (Z4 (Q4 (p1+p3))) 1)))) (.done (p1,p2))) (fun(e388:Int×Int)=>Ext.of .normal [(0,.ref ωa 0 p0),(1,.i p1),(2,.i p2),(3,.i p3),(4,.fn 80 [] []),(18,.i (Q4 (Z3 .u64 (Z4 (Q4 (p1+p3))) 1))),(19,.i (Q4 ((Q4 (Z3 .u64 (Z4 (Q4 (p1+p3))) 1))+p2))),(20,.i e388.1),(21,.i e388.2)] [] [Bt ωa Q3 4 p4] (by rfl)) (fun e388=>.bind 1 (.lp (fun(l393:Int×Int)=>Ext.of .normal [(0,.ref ωa 0 p0),(1,.i p1),(2,.i p2),(3,.i p3),(4,.fn 80 [] []),(18,.i (Q4 (Z3 .u64 (Z4 (Q4 (p1+p3))) 1))),(19,.i (Q4 ((Q4 (Z3 .u64 (Z4 (Q4 (p1+p3))) 1))+p2))),(20,.i l393.1),(21,.i l393.2),(22,.i (Q4 ((Q4 ((Q4 (Z3 .u64 (Z4 (Q4 (p1+p3))) 1))+p2)) - 1)))] [] [Bt ωa Q3 4 p4] (by rfl)) (fun l393=>.br 0 (decide (l393.1 < l393.2)) (.chk 35006 (decide (0≤(Q4 ((Q4 ((Q4 ((Q4 (Z3 .u64 (Z4 (Q4 (p1+p3))) 1))+p2)) - 1)) - (Q4 (Z3 .u64 (Z4 (Q4 (l393.1+l393.2))) 1)))))&&decide ((Q4 ((Q4 ((Q4 ((Q4 (Z3 .u64 (Z4 (Q4 (p1+p3))) 1))+p2)) - 1)) - (Q4 (Z3 .u64 (Z4 (Q4 (l393.1+l393.2))) 1)))) < (p0:Int))) (.row 35007 Q3 p4 (0+(Q4 ((Q4 ((Q4 ((Q4 (Z3 .u64 (Z4 (Q4 (p1+p3))) 1))+p2)) - 1)) - (Q4 (Z3 .u64 (Z4 (Q4 (l393.1+l393.2))) 1)))).toNat) true fun x394=>.chk 35010 (decide (0≤(Q4 (Z3 .u64 (Z4 (Q4 (l393.1+l393.2))) 1)))&&decide ((Q4 (Z3 .u64 (Z4 (Q4 (l393.1+l393.2))) 1)) < (p0:Int))) (.row 35011 Q3 p4 (0+(Q4 (Z3 .u64 (Z4 (Q4 (l393.1+l393.2))) 1)).toNat) true fun x395=>.call 35012 (s80 x394 x395) [] [] fun r396=>.br 0 (!(decide (r396 < 0))) (.done (.inl ((Q4 ((Q4 (Z3 .u64 (Z4 (Q4 (l393.1+l393.2))) 1))+1)),l393.2))) (.done (.inl (l393.1,(Q4 (Z3 .u64 (Z4 (Q4 (l393.1+l393.2))) 1)))))))) (.done (.inr l393.1))) (e388.1,e388.2)) (fun(e397:Int)=>Ext.of (.exit 8) [(0,.ref ωa 0 p0),(1,.i p1),(2,.i p2),(3,.i p3),(4,.fn 80 [] []),(18,.i (Q4 (Z3 .u64 (Z4 (Q4 (p1+p3))) 1))),(19,.i (Q4 ((Q4 (Z3 .u64 (Z4 (Q4 (p1+p3))) 1))+p2))),(20,.i e397)] [] [Bt ωa Q3 4 p4] (by rfl)) (fun e397=>.cnd 39 [185] (.br 39005 (decide (e397 < p2)) (.done (decide (p2 < (Q4 ((Q4 ((Q4 (Z3 .u64 (Z4 (Q4 (p1+p3))) 1))+p2)) - e397))))) (.done false)) (fun(c398:Bool)=>[.bool c398]) fun c398=>.bind 0 (.br 0 c398 (.call 40006 (s257 p0 e397 p2 (Q4 ((Q4 ((Q4 (Z3 .u64 (Z4 (Q4 (p1+p3))) 1))+p2)) - e397)) p4) [(ωa,ωa)] [] fun r432=>.done r432) (.done p4)) (fun(e433:(List Q6))=>Ext.of .normal [(0,.ref ωa 0 p0),(1,.i p1),(3,.i p3),(4,.fn 80 [] []),(18,.i (Q4 (Z3 .u64 (Z4 (Q4 (p1+p3))) 1))),(20,.i e397),(24,.i (Q4 ((Q4 ((Q4 (Z3 .u64 (Z4 (Q4 (p1+p3))) 1))+p2)) - e397)))] [] [Bt ωa Q3 4 e433] (by rfl)) (fun e433=>.cnd 41 [199] (.br 41005 (decide (p1 < e397)) (.done (decide (e397 < (Q4 (Z3 .u64 (Z4 (Q4 (p1+p3))) 1))))) (.done false)) (fun(c434:Bool)=>[.bool c434]) fun c434=>.bind 0 (.br 0 c434 (.call 42006 (symSh.spec R (p0,p1,e397,(Q4 (Z3 .u64 (Z4 (Q4 (p1+p3))) 1)),e433)) [(ωa,ωa)] [] fun r448=>.done r448) (.done e433)) (fun(e449:(List Q6))=>Ext.of .normal [(0,.ref ωa 0 p0),(3,.i p3),(4,.fn 80 [] []),(18,.i (Q4 (Z3 .u64 (Z4 (Q4 (p1+p3))) 1))),(24,.i (Q4 ((Q4 ((Q4 (Z3 .u64 (Z4 (Q4 (p1+p3))) 1))+p2)) - e397)))] [] [Bt ωa Q3 4 e449] (by rfl)) (fun e449=>.cnd 43 [213] (.br 43005 (decide ((Q4 (Z3 .u64 (Z4 (Q4 (p1+p3))) 1)) < (Q4 ((Q4 ((Q4 (Z3 .u64 (Z4 (Q4 (p1+p3))) 1))+p2)) - e397)))) (.done (decide ((Q4 ((Q4 ((Q4 (Z3 .u64 (Z4 (Q4 (p1+p3))) 1))+p2)) - e397)) < p3))) (.done false)) (fun(c450:Bool)=>[.bool c450]) fun c450=>.br 0 c450 (.call 44006 (symSh.spec R (p0,(Q4 (Z3 .u64 (Z4 (Q4 (p1+p3))) 1)),(Q4 ((Q4 ((Q4 (Z3 .u64 (Z4 (Q4 (p1+p3))) 1))+p2)) - e397)),p3,e449)) [(ωa,ωa)] [] fun r464=>.done r464) (.done e449)))))))
def s222(R:SymR)(p0:Nat)(p1:Int)(p2:Int)(p3:Int)(p4:(List Q6)):Sp ((List Q6)):=.ofFnB 222 [ωa] Z0 Tryz.func222 rfl (fun _=>rfl) (show FnB Pg GG [0,1,2,3,4,10,11,12,13,14,15,16,17,18,19,20,21,22,23,24,28,33,50,58,80,85,103,110,140,151,171,185,199,213] Tryz.f222 [.ref ωa 0 p0,.i p1,.i p2,.i p3,.fn 80 [] []] (Ext.of .normal (U6 [.ref ωa 0 p0,.i p1,.i p2,.i p3,.fn 80 [] []]) [] [Bt ωa Q3 4 p4] (by rfl)) (g222 R p0 p1 p2 p3 p4) (fun(r:(List Q6))=>.tup []) (fun(r:(List Q6))=>Ext.of .normal [] [] [Bt ωa Q3 4 r] (by rfl)) by unfold FnB;kernel_rfl)
def symAll:SymR:=symSh.fix (fun R a=>(s222 R a.1 a.2.1 a.2.2.1 a.2.2.2.1 a.q)) (fun R a r h=>(s222 R a.1 a.2.1 a.2.2.1 a.2.2.2.1 a.q).ok r h) 60
def g158(p0:Nat)(p1:Int)(p2:List Q6):TT ((List Q6)):=.bind 1 (.lp (fun(l311:(List Q6)×Int×Int)=>Ext.of .normal [(0,.ref ωa 0 p0),(1,.i p1),(2,.fn 80 [] []),(6,.i 20),(7,.i l311.2.1),(8,.i l311.2.2)] [] [Bt ωa Q3 4 l311.1] (by rfl)) (fun l311=>.br 0 (decide (l311.2.2≤p1)) (.call 3005 (s221 p0 l311.2.1 l311.2.2 l311.1) [(ωa,ωa)] [] fun r321=>.done (.inl (r321,l311.2.2,(Q4 (l311.2.2+20))))) (.done (.inr (l311.1,l311.2.1)))) (p2,0,20)) (fun(e322:(List Q6)×Int)=>Ext.of (.exit 0) [(0,.ref ωa 0 p0),(1,.i p1),(2,.fn 80 [] []),(6,.i 20),(7,.i e322.2)] [] [Bt ωa Q3 4 e322.1] (by rfl)) (fun e322=>.call 6005 (s221 p0 e322.2 p1 e322.1) [(ωa,ωa)] [] fun r332=>.bind 1 (.lp (fun(l379:(List Q6)×Int)=>Ext.of .normal [(0,.ref ωa 0 p0),(1,.i p1),(2,.fn 80 [] []),(6,.i l379.2)] [] [Bt ωa Q3 4 l379.1] (by rfl)) (fun l379=>.br 0 (decide (l379.2 < p1)) (.bind 2 (.lp (fun(l395:(List Q6)×Int×Int)=>Ext.of .normal [(0,.ref ωa 0 p0),(1,.i p1),(2,.fn 80 [] []),(6,.i l379.2),(7,.i l395.2.1),(8,.i l395.2.2)] [] [Bt ωa Q3 4 l395.1] (by rfl)) (fun l395=>.br 0 (decide (l395.2.2≤p1)) (.call 10008 (s222 symAll p0 l395.2.1 (Q4 (l395.2.1+l379.2)) l395.2.2 l395.1) [(ωa,ωa)] [] fun r409=>.done (.inl (r409,l395.2.2,(Q4 (l395.2.2+(Q4 ((2:Int) * l379.2))))))) (.done (.inr (l395.1,l395.2.1)))) (l379.1,0,(Q4 ((2:Int) * l379.2)))) (fun(e410:(List Q6)×Int)=>Ext.of (.exit 4) [(0,.ref ωa 0 p0),(1,.i p1),(2,.fn 80 [] []),(6,.i l379.2),(7,.i e410.2)] [] [Bt ωa Q3 4 e410.1] (by rfl)) (fun e410=>.br 0 (decide ((Q4 (e410.2+l379.2)) < p1)) (.call 15006 (s222 symAll p0 e410.2 (Q4 (e410.2+l379.2)) p1 e410.1) [(ωa,ωa)] [] fun r424=>.done (.inl (r424,(Q4 (l379.2 * 2))))) (.done (.inl (e410.1,(Q4 (l379.2 * 2))))))) (.done (.inr l379.1))) (r332,20)) (fun(e425:(List Q6))=>Ext.of (.exit 2) [] [] [Bt ωa Q3 4 e425] (by rfl)) (fun e425=>.done e425))
def s158(p0:Nat)(p1:Int)(p2:List Q6):Sp ((List Q6)):=.ofFnB 158 [ωa] Z0 Tryz.func158 rfl (fun _=>rfl) (show FnB Pg GG [0,1,2,6,7,8,9,13,30,35,54] Tryz.f158 [.ref ωa 0 p0,.i p1,.fn 80 [] []] (Ext.of .normal (U6 [.ref ωa 0 p0,.i p1,.fn 80 [] []]) [] [Bt ωa Q3 4 p2] (by rfl)) (g158 p0 p1 p2) (fun(r:(List Q6))=>.tup []) (fun(r:(List Q6))=>Ext.of .normal [] [] [Bt ωa Q3 4 r] (by rfl)) by unfold FnB;kernel_rfl)
def g79(p0:Nat)(p1:List Q6):TT ((List Q6)):=.call 5 (s158 p0 (p0:Int) p1) [(ωa,ωa)] [] fun r426=>.done r426
def s79(p0:Nat)(p1:List Q6):Sp ((List Q6)):=.ofFnB 79 [ωa] Z0 Tryz.func79 rfl (fun _=>rfl) (show FnB Pg GG [0,1] Tryz.f79 [.ref ωa 0 p0,.fn 80 [] []] (Ext.of .normal (U6 [.ref ωa 0 p0,.fn 80 [] []]) [] [Bt ωa Q3 4 p1] (by rfl)) (g79 p0 p1) (fun(r:(List Q6))=>.tup []) (fun(r:(List Q6))=>Ext.of .normal [] [] [Bt ωa Q3 4 r] (by rfl)) by unfold FnB;kernel_rfl)
def paC(x:Q6):List V:=[.int .i64 x.fH,.int .i64 x.fJ,.int .i64 x.ft,.int .i64 x.fD]
def caC(x:Q2):List V:=[.int .i64 x.fy,.int .i64 x.fX,.int .i64 x.ft,.str x.fY,.str x.fG.fe,.int .i64 x.fG.fh,.str x.fT.fe,.int .i64 x.fT.fh]
def paO(out:List Q6):V:=.ref 1900070 0 out.length
def paTs:List (Nat×V):=[(6,.ptr 1000006 0 0),(7,.int .i64 0),(8,.ptr 1700061 0 0),(9,.ptr 1000009 0 0),(49,.fn 78 [.ptr 1700061 0 0] [])]
def paL(c:Bool)(ls rs:List Q2)(o:V):List (Nat×Blk):=
 [(1000006,⟨4,true,[[.bool false,.nilsl,.nilsl,.nilsl]]⟩),(1000009,⟨1,true,[[o]]⟩),(1700061,⟨4,true,[[.bool c,.ref 1700062 0 ls.length,.ref 1700063 0 rs.length,.nilsl]]⟩)]
def paT(ls rs:List Q2)(out:List Q6):List BT:=[BT.of 1900070 Q3 4 out true,BT.of 1700062 Q0 8 ls true,BT.of 1700063 Q0 8 rs true]
def paX(ts:List (Nat×V))(c:Bool)(ls rs:List Q2)(out:List Q6):Ext:=Ext.of .normal ts (paL c ls rs (paO out)) (paT ls rs out) (by rfl)
def paB(c:Bool)(ls rs:List Q2)(out:List Q6):List (Nat×Blk):=(paX [] c ls rs out).bs
def cRn:Code→Code
 | .seq _ (.scope (.seq _ (.seq _ (.seq _ (.seq _ (.seq (.seq _ (.block _ c)) _))))))=>c
 | _=>.skip
def paR:Code:=cRn (Tryz.f33.body.getD .skip)
def paAs:Code:=rAssign paR
def paBd:Code:=rBody paR
section
variable (c:Bool) (ls rs:List Q2) (out:List Q6)
def xRa(x:Q6):Ext:=paX ((50,.agg (paC x)) :: paTs) c ls rs out
def xRb(x:Q6):Ext:=Ext.of .normal (paTs++[(10,.ptr 10 0 0)]) ((10,⟨4,true,[paC x]⟩) :: paL c ls rs (paO out)) (paT ls rs out) (by rfl)
def xRd(x:Q6):Ext:=Ext.of .normal [] (paL c ls rs (.ref 54 0 (out++[x]).length)) [BT.of 54 Q3 4 (out++[x]) true,BT.of 1700062 Q0 8 ls true,BT.of 1700063 Q0 8 rs true] (by rfl)
theorem kRa(x:Q6):Z9 Tryz.prog GG [6,7,8,9,10,49] 154 paAs (xRa c ls rs out x) (.done ():TT Unit) (fun _=>xRb c ls rs out x):=by unfold Z9;kernel_rfl
def gRd(x:Q6):TT Unit:=.app 9004 Q3 out [x] 32 false (by intro h;cases h) (.done ())
theorem kRd(x:Q6):Z9 Tryz.prog GG [54] 154 paBd (xRb c ls rs out x) (gRd out x) (fun _=>xRd c ls rs out x):=by unfold Z9;kernel_rfl
end
theorem mob9{c:Bool}{ls rs:List Q2}{out:List Q6}{x:Q6}{g:St}(h:Gst GG g ((xRd c ls rs out x).D 154).st):Gst GG g (M7 154 (fun _=>.undef) (ofL (paB c ls rs (out++[x])))):=
 Gst.trans h (Gst.mob (lits:=paL c ls rs (.ref 54 0 (out++[x]).length)) (rest:=[(1700062,(BT.of 1700062 Q0 8 ls true).k),(1700063,(BT.of 1700063 Q0 8 rs true).k)]) (kd:=(BT.of 54 Q3 4 (out++[x]) true).k) (d:=54) (m:=1900070) (n:=154)
  (by decide) (by decide) (by decide) (by decide:([1000006,1000009,1700061,54,1700062,1700063]:List Nat).Nodup) (Q3.data _) (by
   intro p hp
   simp only[ζv,ζw,or_false] at hp
   rcases hp with rfl|rfl
   ·exact Q0.data ls
   ·exact Q0.data rs) (by rfl) (by rfl))
theorem roundMake(c:Bool)(ls rs:List Q2)(out:List Q6)(x:Q6)(hb:(gRd out x).run=some ()) :
  RoundT Tryz.prog GG 154 (tOf paTs) [50] paAs paBd (ofL (paB c ls rs out)) [.agg (paC x)] (fun e b'=>e=.normal∧b'=ofL (paB c ls rs (out++[x]))):=by
 refine⟨((xRb c ls rs out x).D 154).st,?_,?_⟩
 ·have h:=(kRa c ls rs out x).tv Z0 (r:=()) rfl (by rfl)
  have e:((xRa c ls rs out x).D 154).st=setP (M7 154 (tOf paTs) (ofL (paB c ls rs out))) ([50].zip [.agg (paC x)]):=by
   rw[D9 (by rfl)]
   exact(setP_susp 154 paTs _ 50 (.agg (paC x))).symm
  rw[e] at h
  exact h
 ·refine((kRd c ls rs out x).tv Z0 hb (by rfl)).mono fun e s' hg=>?_
  obtain⟨rfl,g⟩:=hg
  exact⟨_,154,⟨rfl,rfl⟩,mob9 g⟩
def paArgs(l:Nat):List V:=[.ptr 1700061 0 0,.yld l]
def cIt:Code:=Tryz.f78.body.getD .skip
def iR0:Code:=cL cIt
def cOut:Code:=cB (cB (cR cIt))
def iR1:Code:=cL cOut
def cO2:Code:=cB (cL (cR (cR cOut)))
def iR2:Code:=cL cO2
def iR3:Code:=cL (cR cO2)
def cIn:Code:=cB (cB (cR (cR cO2)))
def iR10:Code:=cR (cR (cR cOut))
def iR4:Code:=cL cIn
def cI2:Code:=cB (cL (cR (cR cIn)))
def iR5:Code:=cL cI2
def iR6:Code:=cL (cR cI2)
def iR7:Code:=cL (cR (cR cI2))
def ops8:Array Oper:=rOps (cL (cR (cR (cR cI2))))
def iR9:Code:=cR (cR (cR cIn))
theorem eIt:cIt=.seq iR0 (.block 0 (.loop cOut)):=by kernel_rfl
theorem eOut:cOut=.seq iR1 (.seq (.cond (.tmp 16) .skip (.exit 0)) (.seq (.block 1 (.seq iR2 (.seq iR3 (.block 2 (.loop cIn))))) iR10)):=by kernel_rfl
theorem eIn:cIn=.seq iR4 (.seq (.cond (.tmp 27) .skip (.exit 2)) (.seq (.block 3 (.seq iR5 (.seq iR6 (.seq iR7 (.seq (.region 8 ops8 false) (.cond (.tmp 46) .ret .skip)))))) iR9)):=by kernel_rfl
section
variable (l:Nat) (c:Bool) (ls rs:List Q2)
def tA(i:Int):List (Nat×V):=[(0,.ptr 1700061 0 0),(1,.yld l),(13,.ref 1700062 0 ls.length),(14,.int .i64 (ls.length:Int)),(15,.int .i64 i)]
def tB(i:Int)(a:Q2):List (Nat×V):=tA l ls i++[(4,.int .i64 i),(5,.snap (caC a))]
def tC(i k:Int)(a:Q2):List (Nat×V):=tB l ls i a++[(24,.ref 1700063 0 rs.length),(25,.int .i64 (rs.length:Int)),(26,.int .i64 k)]
def tD(i k:Int)(a:Q2):List (Nat×V):=tC l ls rs i k a++[(6,.int .i64 k),(7,.ptr 7 0 0)]
def tE(i k:Int)(a:Q2):List (Nat×V):=tD l ls rs i k a++[(8,.ptr 8 0 0)]
def xI(out:List Q6):Ext:=paX (U6 (paArgs l)) c ls rs out
def xA(i:Int)(out:List Q6):Ext:=paX (tA l ls i) c ls rs out
def xA1(i:Int)(out:List Q6):Ext:=paX (tA l ls i++[(16,.bool (decide (i < (ls.length:Int))))]) c ls rs out
def xB0(i:Int)(a:Q2)(out:List Q6):Ext:=Ext.of .normal (tA l ls i++[(4,.i i),(5,.ptr 5 0 0)]) ((5,⟨8,true,[caC a]⟩) :: paL c ls rs (paO out)) (paT ls rs out) (by rfl)
def xB(i:Int)(a:Q2)(out:List Q6):Ext:=paX (tB l ls i a) c ls rs out
def xC(i k:Int)(a:Q2)(out:List Q6):Ext:=paX (tC l ls rs i k a) c ls rs out
def xC1(i k:Int)(a:Q2)(out:List Q6):Ext:=paX (tC l ls rs i k a++[(27,.bool (decide (k < (rs.length:Int))))]) c ls rs out
def xD(i k:Int)(a b:Q2)(out:List Q6):Ext:=Ext.of .normal (tD l ls rs i k a) ((7,⟨8,true,[caC b]⟩) :: paL c ls rs (paO out)) (paT ls rs out) (by rfl)
def xE(i k p:Int)(a b:Q2)(out:List Q6):Ext:=Ext.of .normal (tE l ls rs i k a) ((7,⟨8,true,[caC b]⟩) :: (8,⟨4,true,[paC ⟨i,k,p,0⟩]⟩) :: paL c ls rs (paO out)) (paT ls rs out) (by rfl)
def tF(i k p:Int)(f:Bool):List (Nat×V):=bif f then [(41,.bool true),(42,.yld l),(43,.agg (paC ⟨i,k,p,0⟩))] else [(41,.bool false),(42,.tup []),(43,.tup [])]
def xF(i k p:Int)(a b:Q2)(out:List Q6)(f:Bool):Ext:=Ext.of .normal (tE l ls rs i k a++tF l i k p f) ((7,⟨8,true,[caC b]⟩) :: (8,⟨4,true,[paC ⟨i,k,p,0⟩]⟩) :: paL c ls rs (paO out)) (paT ls rs out) (by rfl)
def xG(i k p:Int)(a:Q2)(out:List Q6)(f:Bool):Ext:=paX (tC l ls rs i k a++tF l i k p f) c ls rs out
theorem kR0(out:List Q6):Z9 Tryz.prog GG [0,1,13,14,15] 49 iR0 (xI l c ls rs out) (.done ():TT Unit) (fun _=>xA l c ls rs 0 out):=by unfold Z9;kernel_rfl
theorem kR1(i:Int)(out:List Q6):Z9 Tryz.prog GG [0,1,13,14,15,16] 49 iR1 (xA l c ls rs i out) (.done ():TT Unit) (fun _=>xA1 l c ls rs i out):=by unfold Z9;kernel_rfl
def gR2(i:Int):TT Q2:=.chk 2002 (decide (0≤i)&&decide (i < (ls.length:Int))) (.row 2003 Q0 ls (0+i.toNat) true fun x=>.done x)
theorem kR2(i:Int)(out:List Q6):Z9 Tryz.prog GG [0,1,4,5,13,14,15] 49 iR2 (xA l c ls rs i out) (gR2 ls i) (fun a=>xB0 l c ls rs i a out):=by unfold Z9;kernel_rfl
theorem kR3(i:Int)(a:Q2)(out:List Q6):Z9 Tryz.prog GG [0,1,4,5,13,14,15,24,25,26] 49 iR3 (xB l c ls rs i a out) (.done ():TT Unit) (fun _=>xC l c ls rs i 0 a out):=by unfold Z9;kernel_rfl
theorem kR4(i k:Int)(a:Q2)(out:List Q6):Z9 Tryz.prog GG [0,1,4,5,13,14,15,24,25,26,27] 49 iR4 (xC l c ls rs i k a out) (.done ():TT Unit) (fun _=>xC1 l c ls rs i k a out):=by unfold Z9;kernel_rfl
def gR5(k:Int):TT Q2:=.chk 5002 (decide (0≤k)&&decide (k < (rs.length:Int))) (.row 5003 Q0 rs (0+k.toNat) true fun x=>.done x)
theorem kR5(i k:Int)(a:Q2)(out:List Q6):Z9 Tryz.prog GG [0,1,4,5,6,7,13,14,15,24,25,26] 49 iR5 (xC l c ls rs i k a out) (gR5 rs k) (fun b=>xD l c ls rs i k a b out):=by unfold Z9;kernel_rfl
theorem kR6(i k:Int)(a b:Q2)(out:List Q6):Z9 Tryz.prog GG [0,1,4,5,6,7,8,13,14,15,24,25,26] 49 iR6 (xD l c ls rs i k a b out) (.done ():TT Unit) (fun _=>xE l c ls rs i k 0 a b out):=by unfold Z9;kernel_rfl
def gR7(i k:Int):TT Int:=.view 7003 (s156_1 c ls rs (Q6.mk i k 0 0)) [(VwW.o 1700062 Q0 ls),(VwW.o 1700063 Q0 rs)] fun r=>.done r
theorem kR7(i k:Int)(a b:Q2)(out:List Q6):Z9 Tryz.prog GG [0,1,4,5,6,7,8,13,14,15,24,25,26] 49 iR7 (xE l c ls rs i k 0 a b out) (gR7 c ls rs i k) (fun p=>xE l c ls rs i k p a b out):=by unfold Z9;kernel_rfl
def gR8(a b:Q2):TT Bool:=.call 8003 (s157 a b) [] [] fun r=>.br 8005 r (.done true) (.done false)
theorem kR8(i k p:Int)(a b:Q2)(out:List Q6):A0 Tryz.prog GG [0,1,4,5,6,7,8,13,14,15,24,25,26,41,42,43] 49 8 ops8 6 (xE l c ls rs i k p a b out) (gR8 a b) (xF l c ls rs i k p a b out):=by unfold A0;kernel_rfl
theorem kR9(i k:Int)(a:Q2)(out:List Q6):Z9 Tryz.prog GG [0,1,4,5,13,14,15,24,25,26] 49 iR9 (xC l c ls rs i k a out) (.done ():TT Unit) (fun _=>xC l c ls rs i (Q4 (k+1)) a out):=by unfold Z9;kernel_rfl
theorem kR10(i:Int)(out:List Q6):Z9 Tryz.prog GG [0,1,13,14,15] 49 iR10 (xA l c ls rs i out) (.done ():TT Unit) (fun _=>xA l c ls rs (Q4 (i+1)) out):=by unfold Z9;kernel_rfl
end
def D0(c:Bool)(ls rs:List Q2)(i:Int)(a:Q2)(s:Int×List Q6):Option ((Int×List Q6)⊕List Q6):=
 bif decide (s.1 < (rs.length:Int)) then
  (match (gR5 rs s.1).run with
  | none=>none
  | some b=>match (gR7 c ls rs i s.1).run with
   | none=>none
   | some p=>match (gR8 a b).run with
    | none=>none
    | some f=>bif f then (match (gRd s.2 ⟨i,s.1,p,0⟩).run with
      | none=>none
      | some _=>some (.inl (Q4 (s.1+1),s.2++[⟨i,s.1,p,0⟩])))
     else some (.inl (Q4 (s.1+1),s.2)))
 else some (.inr s.2)
def inM(c:Bool)(ls rs:List Q2)(i:Int)(a:Q2)(out:List Q6):Option (List Q6):=I8 (D0 c ls rs i a) FUEL (0,out)
def L6(c:Bool)(ls rs:List Q2)(s:Int×List Q6):Option ((Int×List Q6)⊕List Q6):=
 bif decide (s.1 < (ls.length:Int)) then
  (match (gR2 ls s.1).run with
  | none=>none
  | some a=>match inM c ls rs s.1 a s.2 with
   | none=>none
   | some out=>some (.inl (Q4 (s.1+1),out)))
 else some (.inr s.2)
def pairsM(c:Bool)(ls rs:List Q2):Option (List Q6):=I8 (L6 c ls rs) FUEL (0,[])
def paYL:YL:=⟨154,tOf paTs,#[50],paAs,paBd⟩
theorem inner(l:Nat)(c:Bool)(ls rs:List Q2)(i:Int)(a:Q2)(out:List Q6){r:List Q6}(h:inM c ls rs i a out=some r){Q:Exit→YS→Prop}
    (hq:∀st,Gst GG st ((xA l c ls rs i r).D 49).st→Q .normal ⟨.normal,st⟩) :
    YT Tryz.prog GG paYL l (.block 2 (.loop cIn)) ⟨.normal,((xC l c ls rs i 0 a out).D 49).st⟩ Q:=by
  refine YT.block ?_
  refine YT.loop (fun m s=>s.x=.normal∧∃y:Int×List Q6,Gst GG s.st ((xC l c ls rs i y.1 a y.2).D 49).st∧I8 (D0 c ls rs i a) m y=some r) (fun m s hI=>?_) (n:=FUEL) ⟨rfl,(0,out),Gst.same _,h⟩
  obtain⟨x,st⟩:=s
  obtain⟨rfl,⟨k,o⟩,g,hit⟩:=hI
  refine YT.gst g ?_
  cases m with
  | zero=>simp[I8] at hit
  | succ m=>
    rw[T6] at hit
    rw[eIn]
    refine YT.seq (YT.piece (kR4 l c ls rs i k a o) Z0 rfl (by rfl) fun s g=>?_)
    show YT _ _ _ _ _ _ _
    refine YT.gst g ?_
    cases hc:decide (k < (rs.length:Int)) with
    | false=>
      have hs0:D0 c ls rs i a (k,o)=some (.inr o):=by unfold D0;simp only[hc];rfl
      rw[hs0] at hit
      obtain rfl:o=r:=ζR hit
      refine YT.seq (YT.cond (b:=false) (by show some (V.bool (decide (k < (rs.length:Int))))=_;rw[hc]) (YT.exit ?_))
      show Q .normal _
      exact hq _ (M3 (xA l c ls rs i o) (by rfl) rfl ⟨by rfl,by rfl⟩)
    | true=>
      refine YT.seq (YT.cond (b:=true) (by show some (V.bool (decide (k < (rs.length:Int))))=_;rw[hc]) (YT.skip ?_))
      show YT _ _ _ _ _ _ _
      refine YT.gst (st':=((xC l c ls rs i k a o).D 49).st) (M3 (xC l c ls rs i k a o) (by rfl) rfl ⟨by rfl,by rfl⟩) ?_
      cases h5:(gR5 rs k).run with
      | none => have hs0 : D0 c ls rs i a (k, o) = none := by unfold D0; simp only [hc, h5]; rfl
                rw[hs0] at hit;simp at hit
      | some b=>
      cases h7:(gR7 c ls rs i k).run with
      | none => have hs0 : D0 c ls rs i a (k, o) = none := by unfold D0; simp only [hc, h5, h7]; rfl
                rw[hs0] at hit;simp at hit
      | some p=>
      cases h8:(gR8 a b).run with
      | none => have hs0 : D0 c ls rs i a (k, o) = none := by unfold D0; simp only [hc, h5, h7, h8]; rfl
                rw[hs0] at hit;simp at hit
      | some f=>
      have next:∀(o2:List Q6) (st:St),I8 (D0 c ls rs i a) m (Q4 (k+1),o2)=some r→Gst GG st ((xC l c ls rs i k a o2).D 49).st→
          YT Tryz.prog GG paYL l iR9 ⟨.normal,st⟩ (thenY (fun s'=>∃m',m' < m+1∧s'.x=.normal∧∃y:Int×List Q6,Gst GG s'.st ((xC l c ls rs i y.1 a y.2).D 49).st∧I8 (D0 c ls rs i a) m' y=some r) (inBlockY 2 Q)):=fun o2 st h2 g2=>by
        refine YT.gst g2 ?_
        refine YT.piece (kR9 l c ls rs i k a o2) Z0 rfl (by rfl) fun s g=>?_
        exact⟨m,Nat.lt_succ_self m,rfl,(Q4 (k+1),o2),g,h2⟩
      refine YT.seq (YT.block (YT.seq (YT.piece (kR5 l c ls rs i k a o) Z0 h5 (by rfl) fun s g=>?_)))
      show YT _ _ _ _ _ _ _
      refine YT.gst g ?_
      refine YT.seq (YT.piece (kR6 l c ls rs i k a b o) Z0 rfl (by rfl) fun s g=>?_)
      show YT _ _ _ _ _ _ _
      refine YT.gst g ?_
      refine YT.seq (YT.piece (kR7 l c ls rs i k a b o) Z0 h7 (by rfl) fun s g=>?_)
      show YT _ _ _ _ _ _ _
      refine YT.gst g ?_
      refine YT.seq (YT.region ?_)
      show H1 _ _ _ _ _ ([0,1,2,3,4,5]++[6,7,8]) _ _
      refine H1.tv ((kR8 l c ls rs i k p a b o).tv Z0 h8 (by cases f<;>rfl)) fun e st hq'=>⟨by rw[hq'.1];cases f<;>rfl,H1.gst hq'.2 ?_⟩
      refine H1.gst (st':=((xG l c ls rs i k p a o f).D 49).st) (by cases f<;>exact M3 _ (by rfl) rfl ⟨by rfl,by rfl⟩) ?_
      cases f with
      | false=>
        have hs0:D0 c ls rs i a (k,o)=some (.inl (Q4 (k+1),o)):=by unfold D0;simp only[hc,h5,h7,h8];rfl
        rw[hs0] at hit
        refine H1.step rfl (H1.step rfl (H1.step rfl (H1.nil ?_)))
        show YT _ _ _ _ _ _ _
        refine YT.cond (b:=false) rfl (YT.skip ?_)
        show YT _ _ _ _ _ _ _
        exact next o _ hit (M3 (xC l c ls rs i k a o) (by rfl) rfl ⟨by rfl,by rfl⟩)
      | true=>
        cases hd:(gRd o ⟨i,k,p,0⟩).run with
        | none => have hs0 : D0 c ls rs i a (k, o) = none := by unfold D0; simp only [hc, h5, h7, h8, hd]; rfl
                  rw[hs0] at hit;simp at hit
        | some u=>
        have hs0:D0 c ls rs i a (k,o)=some (.inl (Q4 (k+1),o++[⟨i,k,p,0⟩])):=by unfold D0;simp only[hc,h5,h7,h8,hd];rfl
        rw[hs0] at hit
        rw[D9 (x:=xG l c ls rs i k p a o true) (by rfl) 49]
        refine H1.yieldG (hi:=rfl) rfl rfl rfl rfl rfl rfl rfl ?_ ?_ ?_ rfl (roundMake c ls rs o ⟨i,k,p,0⟩ hd) ?_ ?_
        · exact fun i=>S6 (by rfl) i
        · exact fun i=>S6 (by rfl) i
        · intro p hp
          have:p∈[50]:=hp
          simp at this
          subst this
          exact(by decide:50 < 154)
        · exact fun e b' h=>.inl h.1
        · intro e b' h
          obtain⟨rfl,rfl⟩:=h
          refine H1.step rfl (H1.step rfl (H1.nil ?_))
          show YT _ _ _ _ _ _ _
          refine YT.cond (b:=false) rfl (YT.skip ?_)
          show YT _ _ _ _ _ _ _
          exact next _ _ hit (M3 (xC l c ls rs i k a (o++[⟨i,k,p,0⟩])) (by rfl) rfl ⟨by rfl,by rfl⟩)
theorem iterMake(c:Bool)(ls rs:List Q2){r:List Q6}(h:pairsM c ls rs=some r) :
    IterT Tryz.prog GG cIt 49 paArgs (ofL (paB c ls rs [])) paYL (fun e b=>e=.normal∧b=ofL (paB c ls rs r)):=by
  refine IterT.of fun l=>?_
  have e0:entry 49 (paArgs l) (ofL (paB c ls rs []))=((xI l c ls rs []).D 49).st:=(entry_ext (x:=xI l c ls rs []) (by rfl) (by rfl) 49).symm
  rw[e0,eIt]
  refine YT.seq (YT.piece (kR0 l c ls rs []) Z0 rfl (by rfl) fun s g=>?_)
  show YT _ _ _ _ _ _ _
  refine YT.gst g ?_
  refine YT.block ?_
  refine YT.loop (fun m s=>s.x=.normal∧∃y:Int×List Q6,Gst GG s.st ((xA l c ls rs y.1 y.2).D 49).st∧I8 (L6 c ls rs) m y=some r) (fun m s hI=>?_) (n:=FUEL) ⟨rfl,(0,[]),Gst.same _,h⟩
  obtain⟨x,st⟩:=s
  obtain⟨rfl,⟨i,o⟩,g,hit⟩:=hI
  refine YT.gst g ?_
  cases m with
  | zero=>simp[I8] at hit
  | succ m=>
    rw[T6] at hit
    rw[eOut]
    refine YT.seq (YT.piece (kR1 l c ls rs i o) Z0 rfl (by rfl) fun s g=>?_)
    show YT _ _ _ _ _ _ _
    refine YT.gst g ?_
    cases hc:decide (i < (ls.length:Int)) with
    | false=>
      have hs0:L6 c ls rs (i,o)=some (.inr o):=by unfold L6;simp only[hc];rfl
      rw[hs0] at hit
      obtain rfl:o=r:=ζR hit
      refine YT.seq (YT.cond (b:=false) (by show some (V.bool (decide (i < (ls.length:Int))))=_;rw[hc]) (YT.exit ?_))
      refine⟨.inl rfl,49,tOf (xA1 l c ls rs i o).ts,ofL (paB c ls rs o),?_,rfl,rfl⟩
      show Gst GG ((xA1 l c ls rs i o).D 49).st _
      rw[D9 (by rfl) 49]
      exact Gst.same _
    | true=>
      refine YT.seq (YT.cond (b:=true) (by show some (V.bool (decide (i < (ls.length:Int))))=_;rw[hc]) (YT.skip ?_))
      show YT _ _ _ _ _ _ _
      refine YT.gst (st':=((xA l c ls rs i o).D 49).st) (M3 (xA l c ls rs i o) (by rfl) rfl ⟨by rfl,by rfl⟩) ?_
      cases h2:(gR2 ls i).run with
      | none => have hs0 : L6 c ls rs (i, o) = none := by unfold L6; simp only [hc, h2]; rfl
                rw[hs0] at hit;simp at hit
      | some a=>
      cases h3:inM c ls rs i a o with
      | none => have hs0 : L6 c ls rs (i, o) = none := by unfold L6; simp only [hc, h2, h3]; rfl
                rw[hs0] at hit;simp at hit
      | some o2=>
      have hs0:L6 c ls rs (i,o)=some (.inl (Q4 (i+1),o2)):=by unfold L6;simp only[hc,h2,h3];rfl
      rw[hs0] at hit
      refine YT.seq (YT.block (YT.seq (YT.piece (kR2 l c ls rs i o) Z0 h2 (by rfl) fun s g=>?_)))
      show YT _ _ _ _ _ _ _
      refine YT.gst g ?_
      refine YT.gst (Gst.snapT (t:=5) (b:=5) (k:=⟨8,true,[caC a]⟩) (row:=caC a) rfl rfl rfl (by show 8 < W9;decide) (by simp[caC,U5])) ?_
      refine YT.gst (st':=((xB l c ls rs i a o).D 49).st) (M3 (xB l c ls rs i a o) (by rfl) rfl ⟨by rfl,by rfl⟩) ?_
      refine YT.seq (YT.piece (kR3 l c ls rs i a o) Z0 rfl (by rfl) fun s g=>?_)
      show YT _ _ _ _ _ _ _
      refine YT.gst g ?_
      refine inner l c ls rs i a o h3 fun st g=>?_
      show YT _ _ _ _ _ _ _
      refine YT.gst g ?_
      refine YT.piece (kR10 l c ls rs i o2) Z0 rfl (by rfl) fun s g=>?_
      exact⟨m,Nat.lt_succ_self m,rfl,(Q4 (i+1),o2),g,hit⟩
def paFTs:List (Nat×V):=[(6,.ptr 6 0 0),(7,.int .i64 0),(8,.ptr 700061 0 0),(9,.ptr 9 0 0)]
def paFL(c:Bool)(ls rs:List Q2)(out:List Q6):List (Nat×Blk):=
 [(6,⟨4,true,[[.bool false,.nilsl,.nilsl,.nilsl]]⟩),(9,⟨1,true,[[.ref 900070 0 out.length]]⟩),(700061,⟨4,true,[[.bool c,.ref 700062 0 ls.length,.ref 700063 0 rs.length,.nilsl]]⟩)]
def paFT(ls rs:List Q2)(out:List Q6):List BT:=[BT.of 900070 Q3 4 out true,BT.of 700062 Q0 8 ls true,BT.of 700063 Q0 8 rs true]
def xPa(c:Bool)(ls rs:List Q2)(out:List Q6):Ext:=Ext.of .normal (paFTs++[(49,.fn 78 [.ptr 700061 0 0] [])]) (paFL c ls rs out) (paFT ls rs out) (by rfl)
def ePa(c:Bool)(ls rs:List Q2)(out:List Q6):Ext:=Ext.of .normal paFTs (paFL c ls rs out) (paFT ls rs out) (by rfl)
theorem bsMake(c:Bool)(ls rs:List Q2)(out:List Q6):shB (ofL (xPa c ls rs out).bs)=ofL (paB c ls rs out):=by
 rw[shB_ofL]
 have:((xPa c ls rs out).bs.map fun p=>(sh p.1,p.2.ren sh))=paB c ls rs out:=by
  simp only[xPa,Ext.of,paFL,paFT,List.cons_append,List.nil_append,ξf,List.map_nil,BT.of,Blk.ren,sh_rows]
  kernel_rfl
 rw[this]
theorem loopMake(c:Bool)(ls rs:List Q2){r:List Q6}(h:pairsM c ls rs=some r) :
  TV Tryz.prog GG (.rangeFunc (.tmp 49) #[50] paAs paBd) ((xPa c ls rs []).D 154).st (fun e st=>e=.normal∧Gst GG st ((ePa c ls rs r).D 154).st):=by
 have ht:(fun i=>W5 sh (((xPa c ls rs []).D 154).st.t i))=tOf paTs:=by
  have:((xPa c ls rs []).D 154).st.t=tOf (xPa c ls rs []).ts:=rfl
  rw[this,tOf_shift]
  have:((xPa c ls rs []).ts.map fun p=>(p.1,W5 sh p.2))=paTs:=by kernel_rfl
  rw[this]
 have hb:Tryz.f78.body=some cIt:=by kernel_rfl
 refine TV.rangeF (f:=78) (fi:=Tryz.f78) (c:=cIt) (first:=[.ptr 1700061 0 0]) (caps:=[]) (R:=fun e b=>e=.normal∧b=ofL (paB c ls rs r)) ?_ Tryz.func78 hb (by kernel_rfl) (by kernel_rfl) ?_ (fun i=>?_) ?_ ?_
 ·show some ((fun i=>W5 sh (((xPa c ls rs []).D 154).st.t i)) 49)=_
  rw[ht];rfl
 ·intro b k hk
  obtain⟨q,h1,rfl,_⟩:=find_b (show ofL (xPa c ls rs []).bs b=some k from hk)
  show (((xPa c ls rs []).us).contains q.1 || uTop q.1)=true
  simp only[Ext.us,ζX,ζD,ζF]
  exact .inl (ζt.2 ⟨q,h1,rfl⟩)
 ·have:=congrFun ht i
  rw[show W5 sh (((xPa c ls rs []).D 154).st.t i)=tOf paTs i from this]
  exact S6 (by rfl) i
 ·have hbb:shB ((xPa c ls rs []).D 154).st.b=ofL (paB c ls rs []):=bsMake c ls rs []
  rw[ht,hbb]
  have e:max Tryz.f78.ntmps ([V.ptr 1700061 0 0].length+1+([]:List V).length)=49:=by kernel_rfl
  rw[e]
  exact iterMake c ls rs h
 ·intro e b' ho
  obtain⟨rfl,rfl⟩:=ho
  refine⟨.inl rfl,ofL (xPa c ls rs r).bs,(bsMake c ls rs r).symm,?_,rfl,?_⟩
  ·show (G0 154 (xPa c ls rs []).ts (xPa c ls rs r).bs (xPa c ls rs []).us).known
   refine⟨fun i b hm=>?_,fun i k hk=>?_⟩
   ·have hm':b∈U2 (tOf (xPa c ls rs []).ts i):=hm
    unfold tOf at hm'
    cases hf:(xPa c ls rs []).ts.find? (fun p=>p.1==i) with
    | none=>rw[hf] at hm';simp[U2] at hm'
    | some p=>
     rw[hf] at hm'
     have all:((xPa c ls rs []).ts.all fun p=>(U2 p.2).all fun b=>(xPa c ls rs []).us.contains b)=true:=by rfl
     have:=ζE.1 (ζE.1 all p (ξh hf)) b hm'
     show ((xPa c ls rs []).us.contains b || uTop b)=true
     rw[this];rfl
   ·obtain⟨q,h1,rfl,rfl⟩:=find_b (show ofL (xPa c ls rs r).bs i=some k from hk)
    have husl:(xPa c ls rs r).us=(xPa c ls rs []).us:=rfl
    refine⟨?_,fun b hm=>?_⟩
    ·show ((xPa c ls rs []).us.contains q.1 || uTop q.1)=true
     rw[←husl]
     simp only[Ext.us,ζX,ζD,ζF]
     exact .inl (ζt.2 ⟨q,h1,rfl⟩)
    ·have:q∈paFL c ls rs r++(paFT ls rs r).map fun x=>(x.id,x.k):=h1
     rcases ζr.1 this with h2|h2
     ·have all:((paFL c ls rs r).all fun q=>(H7 q.2.rows.flatten).all fun b=>(xPa c ls rs []).us.contains b)=true:=by rfl
      have:=ζE.1 (ζE.1 all q h2) b hm
      show ((xPa c ls rs []).us.contains b || uTop b)=true
      rw[this];rfl
     ·have hdat:=bts_dat _ h2
      rw[hdat.refs] at hm;simp at hm
  ·show Gst GG (G0 154 (xPa c ls rs []).ts (xPa c ls rs r).bs (xPa c ls rs []).us) _
   exact M3 (ePa c ls rs r) (by rfl) rfl ⟨by rfl,by rfl⟩
def subPairs(c:Bool)(ls rs:List Q2):Sub Tryz.prog GG (List Q6):=
 ⟨.rangeFunc (.tmp 49) #[50] paAs paBd,154,xPa c ls rs [],pairsM c ls rs,ePa c ls rs,fun _ h=>loopMake c ls rs h⟩
def cMk:Code:=cB (cR (Tryz.f33.body.getD .skip))
def cWt:Code→Code
 | .seq _ (.seq _ (.seq _ (.seq _ (.seq _ (.seq _ (.seq _ (.seq _ (.seq _ (.seq _ (.seq _ (.seq c _)))))))))))=>c
 | _=>.skip
def wCode:Code:=cWt cMk
def wOps29:Array Oper:=rOps (cL wCode)
def wLoop:Code:=cB (cB (cR wCode))
def wOps30:Array Oper:=rOps (cL wLoop)
def wBody:Code:=cB (cR (cR wLoop))
def wOps31:Array Oper:=rOps (cL wBody)
def wOps32:Array Oper:=rOps (cR wBody)
theorem eWt:wCode=.seq (.region 29 wOps29 false) (.block 6 (.loop (.seq (.region 30 wOps30 false) (.seq (.cond (.tmp 139) .skip (.exit 6)) (.block 7 (.seq (.region 31 wOps31 false) (.region 32 wOps32 false))))))):=by kernel_rfl
def wTs:List (Nat×V):=[(6,.ptr 6 0 0),(7,.int .i64 0),(8,.ptr 700061 0 0)]
def wL(c:Bool)(ls rs:List Q2)(m:Nat):List (Nat×Blk):=[(6,⟨4,true,[[.bool false,.nilsl,.nilsl,.nilsl]]⟩),(700061,⟨4,true,[[.bool c,.ref 700062 0 ls.length,.ref 700063 0 rs.length,.ref 700064 0 m]]⟩)]
def wT(ls rs:List Q2)(s:List Q6):List BT:=[BT.of 700062 Q0 8 ls true,BT.of 700063 Q0 8 rs true,BT.of 700064 Q3 4 s true]
section
variable (c:Bool) (ls rs:List Q2) (m:Nat)
def eW(s:List Q6):Ext:=Ext.of .normal wTs (wL c ls rs m) (wT ls rs s) (by rfl)
def xW(l:List F9)(s:List Q6):Ext:=Ext.of .normal (wTs++[(14,.mp 700065)]) (wL c ls rs m) (wT ls rs s++[BT.of 700065 C9 1114370 l true]) (by rfl)
def xWi(i:Int)(s:List Q6):Ext:=Ext.of .normal (wTs++[(21,.i i)]) (wL c ls rs m) (wT ls rs s) (by rfl)
def gW(i:Int)(s:List Q6):TT (List Q6):=
 .chk 32007 (decide (0≤i)&&decide (i < (m:Int))) (.row 32009 Q3 s (0+i.toNat) true fun x=>
  .re 32009 (ReW.put 700064 4 Q3 s (0+i.toNat) (Q6.mk x.fH x.fJ x.ft 1)) (.done (s.set (0+i.toNat) (Q6.mk x.fH x.fJ x.ft 1))))
theorem kW(i:Int)(s:List Q6):A0 Tryz.prog GG [6,7,8] 154 32 wOps32 9 (xWi c ls rs m i s) (gW m i s) (fun s'=>eW c ls rs m s'):=by unfold A0;kernel_rfl
end
def wSet(m:Nat)(i:Int)(s:List Q6):Option (List Q6):=
 bif decide (0≤i)&&decide (i < (m:Int)) then (match s[i.toNat]? with|some x=>some (s.set i.toNat (Q6.mk x.fH x.fJ x.ft 1))|none=>none) else none
theorem gW_run(m:Nat)(i:Int)(s:List Q6):(gW m i s).run=wSet m i s:=by
 unfold gW wSet
 simp only[T.run,ξv,cond_true]
 cases (decide (0≤i)&&decide (i < (m:Int))) with
 | false=>rfl
 | true=>simp only[cond_true];cases s[i.toNat]?<;>rfl
theorem wSet_comm(m:Nat)(i j:Int)(s:List Q6):(wSet m i s).bind (wSet m j)=(wSet m j s).bind (wSet m i):=by
 unfold wSet
 cases hi:(decide (0≤i)&&decide (i < (m:Int)))<;>cases hj:(decide (0≤j)&&decide (j < (m:Int)))
 ·rfl
 ·simp only[cond_true,cond_false]
  cases s[j.toNat]?<;>rfl
 ·simp only[cond_true,cond_false]
  cases s[i.toNat]?<;>rfl
 ·simp only[cond_true]
  by_cases e:i.toNat=j.toNat
  ·rw[e]
  ·cases h1:s[i.toNat]? with
   | none=>
    cases h2:s[j.toNat]? with
    | none=>rfl
    | some y=>simp only[Option.bind_none,ξa,ζk (Ne.symm e),h1]
   | some x=>
    cases h2:s[j.toNat]? with
    | none=>simp only[Option.bind_none,ξa,ζk e,h2]
    | some y=>simp only[ξa,ζk e,ζk (Ne.symm e),h1,h2,ζa];exact List.set_comm _ _ e
def wAll(m:Nat)(l:List F9)(s:List Q6):Option (List Q6):=G6 (fun x s=>wSet m x.fv s) l s
theorem loopWait(c:Bool)(ls rs:List Q2)(m:Nat)(l:List F9)(s0:List Q6){r:List Q6}(h:wAll m l s0=some r) :
  TV Tryz.prog GG wCode ((xW c ls rs m l s0).D 154).st (fun e st=>e=.normal∧Gst GG st ((eW c ls rs m r).D 154).st):=by
 rw[eWt]
 have key:=TV.rangeMap (P:=Tryz.prog) (G:=GG) (ty:=C9) (z:=1114370) (b:=700065) (mt:=162) (kt:=163) (et:=3) (n:=154) (ex:=true) (l:=l) (kd:=.i64) (fv:=fun x=>x.fv) (i29:=29) (i30:=30) (i31:=31) (i32:=32) (B:=6) (B2:=7) (ops29:=wOps29) (ops30:=wOps30) (ops31:=wOps31) (ops32:=wOps32)
  (tm:=14) (t0:=136) (it:=137) (tn:=138) (tb:=139) (te:=140) (tw:=141) (tv:=21) (st:=((xW c ls rs m l s0).D 154).st) (S:=fun s=>((eW c ls rs m s).D 154).st) (body:=fun x s=>wSet m x.fv s) (s0:=s0) (r:=r)
  (by kernel_rfl) (by kernel_rfl) (by kernel_rfl) (by kernel_rfl) (by decide) (by decide) (by kernel_rfl) ⟨by decide,by decide⟩ (by decide) rfl rfl rfl (fun x=>rfl) (fun s=>⟨rfl,rfl,rfl,rfl,rfl,rfl,rfl⟩)
  (M3 (eW c ls rs m s0) (by rfl) rfl ⟨by rfl,by rfl⟩) (fun x s s' hs=>?_) (fun x y s=>wSet_comm m x.fv y.fv s) h
 ·exact key.mono fun e st hq=>⟨hq.1,by rw[hq.2];exact Gst.same _⟩
 ·have e:((eW c ls rs m s).D 154).st.setT 21 (.int .i64 x.fv)=((xWi c ls rs m x.fv s).D 154).st:=by
   refine St.ext' rfl fun l=>?_
   cases l with
   | b j=>exact⟨rfl,rfl⟩
   | t j=>
    show (if j=21 then V.int .i64 x.fv else tOf wTs j)=tOf (wTs++[(21,.int .i64 x.fv)]) j
    unfold tOf
    by_cases hj:j=21
    ·subst hj;rfl
    ·rw[if_neg hj,List.find?_append]
     cases wTs.find? (fun p=>p.1==j) with
     | some p=>rfl
     | none=>
      have:((21:Nat)==j)=false:=by simpa using fun e=>hj e.symm
      simp[this]
  have:=(kW c ls rs m x.fv s).tv Z0 (r:=s') (by rw[gW_run];exact hs) (by rfl)
  rw[←e] at this
  exact this
def subWait(c:Bool)(ls rs:List Q2)(m:Nat)(l:List F9)(s:List Q6):Sub Tryz.prog GG (List Q6):=
 ⟨wCode,154,xW c ls rs m l s,wAll m l s,eW c ls rs m,fun _ h=>loopWait c ls rs m l s h⟩
structure M4 where
 fk:R1
 fv:Bool
def L3:Ty M4:=⟨fun x=>[.str x.fk.a0,.str x.fk.a1,.bool x.fv],fun x=>[.str x.fk.a0,.str x.fk.a1,.bool x.fv],fun _=>rfl,fun _=>rfl,fun _ _=>rfl,fun _=>rfl⟩
def g77(p0:List Q2):TT Unit:=.app 3003 Q0 [] p0 88 true (by intros;rfl) (.done ())
theorem k77y:Z9 Tryz.prog GG [2] 8 (I7 Tryz.f77.body) (Ext.l .normal [(2,.nilsl)] []) (.done ():TT Unit) (fun _=>Ext.l .ret [(2,.nilsl)] []):=by unfold Z9;kernel_rfl
theorem k77r(p0:List Q2):Z9 Tryz.prog GG [0,2,5,6,7] 8 (D2 Tryz.f77.body) (Ext.l .normal [(0,.sl false 8 (List.map Q0.c p0)),(2,.nilsl)] []) (g77 p0) (fun _=>Ext.of .ret [(2,.ref 7 0 ([]++p0).length)] [] [BT.of 7 Q0 8 ([]++p0)] (by rfl)):=by unfold Z9;kernel_rfl
theorem k77(p0:(List Q2)){r:Unit}(h:(g77 p0).run=some r):CallC Tryz.prog GG 77 [.sl false 8 (List.map Q0.c p0)] (ofL []) (.ref 7 0 p0.length) (ofL [(7,⟨8,true,List.map Q0.c p0⟩)]):=
 clone_ok (ty:=Q0) (ops0:=T9 Tryz.f77.body) (ops1:=T8 Tryz.f77.body) (yes:=I7 Tryz.f77.body) (rest:=D2 Tryz.f77.body) (t:=27) Z0 (by decide) Tryz.func77 (by kernel_rfl) (by kernel_rfl) (by kernel_rfl) (by kernel_rfl) (by kernel_rfl) (by kernel_rfl) (by kernel_rfl) (by kernel_rfl) (by kernel_rfl) k77y (k77r p0) (by rfl) h
def s77(p0:List Q2):Sp Unit:=⟨77,[Sl 8 Q0 p0],[],(g77 p0).run,fun _=>Rf 7 p0,fun _=>[(7,⟨8,true,List.map Q0.c p0⟩)],[7],fun _ p hp _=>by rw[ζu.1 hp];exact Q0.data _,fun _ h=>k77 p0 h⟩
def g83(p0:U0)(p1:Q6):TT (R1):=.row 1008 Q0 p0.fc.fu p1.fH.toNat (decide (0≤p1.fH)) fun x456=>.row 1018 Q0 p0.fc.fw p1.fJ.toNat (decide (0≤p1.fJ)) fun x457=>.done (R1.mk x456.fY x457.fY)
def s83(p0:U0)(p1:Q6):Sp (R1):=.ofFn 83 Z0 Tryz.func83 (show FnD Pg GG [0,1,3,4] Tryz.f83 [.snap [.bool p0.fc.fo,Sl 8 Q0 p0.fc.fu,Sl 8 Q0 p0.fc.fw,Sl 4 Q3 p0.fc.fm],.agg (Q3.c p1)] (g83 p0 p1) (fun r=>.agg [.str r.a0,.str r.a1]) by unfold FnD;kernel_rfl)
def g84(p0:U0)(p1:Q6):TT (Int):=.row 1008 Q0 p0.fc.fu p1.fH.toNat (decide (0≤p1.fH)) fun x459=>.done x459.fX
def s84(p0:U0)(p1:Q6):Sp (Int):=.ofFn 84 Z0 Tryz.func84 (show FnD Pg GG [0,1,3,4] Tryz.f84 [.snap [.bool p0.fc.fo,Sl 8 Q0 p0.fc.fu,Sl 8 Q0 p0.fc.fw,Sl 4 Q3 p0.fc.fm],.agg (Q3.c p1)] (g84 p0 p1) (fun r=>.int .i64 r) by unfold FnD;kernel_rfl)
def g33(p0 p1:List Q2)(p2:Bool):TT (Y3×Int):=.cnd 1 [29] (.br 1005 (decide ((12:Int) < (Y9 Q0 p0))) (.done true) (.done (decide ((12:Int) < (Y9 Q0 p1))))) (fun(c427:Bool)=>[.bool c427]) fun c427=>.br 0 c427 (.done ((Y3.mk false [] [] []),3)) (.cnd 3 [38] (.call 3002 (s76 p0) [] [] fun r428=>.br 3005 (!r428) (.done true) (.call 3006 (s76 p1) [] [] fun r429=>.done (!r429))) (fun(c430:Bool)=>[.bool c430]) fun c430=>.br 0 c430 (.done ((Y3.mk false [] [] []),90)) (.call 5003 (s77 p0) [] [(7,500042)] fun r431=>.call 5005 (s77 p1) [] [(7,500043)] fun r432=>.gh 1 (.ren 47 700061) (.gh 1 (.ren 500042 ωo) (.gh 1 (.ren 500043 ωp) (.gh 1 (.virtC 900070 9 0 4) (.sub (subPairs p2 p0 p1) fun r433=>.call 10002 (s79 r433.length r433) [(ωa,900070)] [] fun r444=>.opr 11001 (Rule.makeMap 158 57 1114373 (by decide)) fun _=>.gh 1 (.virtC ωm 700061 3 4) (.bind 0 (.lp (fun(l449:(List O2)×(List Q6)×Int)=>Ext.of .normal [(6,.ptr 6 0 0),(7,.i 0),(8,.ptr 700061 0 0),(11,.mp 57),(58,Rf 900070 r433),(59,.i (r433.length:Int)),(60,.i l449.2.2)] [(6,⟨4,true,[[.bool false,.nilsl,.nilsl,.nilsl]]⟩),(700061,⟨4,true,[[.bool p2,Rf ωo p0,Rf ωp p1,Rf ωm l449.2.1]]⟩)] [Bt 57 T0 1114373 l449.1,Bt ωm Q3 4 l449.2.1,Bt ωo Q0 8 p0,Bt ωp Q0 8 p1,Bt 900070 Q3 4 r444] (by rfl)) (fun l449=>.br 0 (decide (l449.2.2 < (r433.length:Int))) (.chk 14001 (bD l449.2.2 r433.length) (.row 14002 Q3 r444 (0+l449.2.2.toNat) true fun x450=>.br 0 ((l449.2.1.length:Int)==36) (.done (.inr l449.2.1)) (.view 16004 (s82 (U0.mk (Y3.mk p2 p0 p1 l449.2.1)) x450) [(VwW.o ωo Q0 p0),(VwW.o ωp Q0 p1),(VwW.o ωm Q3 l449.2.1)] fun r451=>.opr 16005 (Rule.look (mt:=158) (kt:=160) (et:=4) (z:=1114373) (ty:=T0) (p:=(fun x=>((decide (r451.fL.fe=x.fk.fL.fe))&&((r451.fL.fh==x.fk.fL.fh)&&((decide (r451.fM.fe=x.fk.fM.fe))&&((r451.fM.fh==x.fk.fM.fh)&&((r451.gg==x.fk.gg)&&true))))))) (kc:=[.str r451.fL.fe,.int .i64 r451.fL.fh,.str r451.fM.fe,.int .i64 r451.fM.fh,.int .i64 r451.gg]) (.tmp 71) (.tmp 74) 75 57 true l449.1 (.bool false) (.bool (K8 l449.1 (fun x=>((decide (r451.fL.fe=x.fk.fL.fe))&&((r451.fL.fh==x.fk.fL.fh)&&((decide (r451.fM.fe=x.fk.fM.fe))&&((r451.fM.fh==x.fk.fM.fh)&&((r451.gg==x.fk.gg)&&true)))))) (fun x=>x.fv) false)) ⟨by kernel_rfl,by kernel_rfl,by kernel_rfl,fun _=>by kernel_rfl⟩ (by kernel_rfl) (R8 _ _ (fun x:O2=>x.fv) false V.bool)) fun _=>.br 0 (K8 l449.1 (fun x=>((decide (r451.fL.fe=x.fk.fL.fe))&&((r451.fL.fh==x.fk.fL.fh)&&((decide (r451.fM.fe=x.fk.fM.fe))&&((r451.fM.fh==x.fk.fM.fh)&&((r451.gg==x.fk.gg)&&true)))))) (fun x=>x.fv) false) (.done (.inl (l449.1,l449.2.1,(Q4 (l449.2.2+1))))) (.view 17004 (s82 (U0.mk (Y3.mk p2 p0 p1 l449.2.1)) x450) [(VwW.o ωo Q0 p0),(VwW.o ωp Q0 p1),(VwW.o ωm Q3 l449.2.1)] fun r452=>.opr 17005 (Rule.put (mt:=158) (kt:=160) (et:=4) (z:=1114373) (ty:=T0) (p:=(fun x=>((decide (r452.fL.fe=x.fk.fL.fe))&&((r452.fL.fh==x.fk.fL.fh)&&((decide (r452.fM.fe=x.fk.fM.fe))&&((r452.fM.fh==x.fk.fM.fh)&&((r452.gg==x.fk.gg)&&true))))))) (kc:=[.str r452.fL.fe,.int .i64 r452.fL.fh,.str r452.fM.fe,.int .i64 r452.fM.fh,.int .i64 r452.gg]) (.tmp 76) (.tmp 79) (.const (.bool true)) 57 l449.1 (O2.mk r452 true) [.bool true] ⟨by kernel_rfl,by kernel_rfl,by kernel_rfl,fun _=>by kernel_rfl⟩ (by rfl) (by kernel_rfl) (by kernel_rfl) (by decide) (by decide)) fun _=>.app 18009 Q3 l449.2.1 [x450] 32 false (by intro h;cases h) (.gh 0 (.drop [ωm]) (.gh 0 (.ren 88 ωm) (.done (.inl ((mput l449.1 (fun x=>((decide (r452.fL.fe=x.fk.fL.fe))&&((r452.fL.fh==x.fk.fL.fh)&&((decide (r452.fM.fe=x.fk.fM.fe))&&((r452.fM.fh==x.fk.fM.fh)&&((r452.gg==x.fk.gg)&&true)))))) (O2.mk r452 true)),(l449.2.1++[x450]),(Q4 (l449.2.2+1))))))))))) (.done (.inr l449.2.1))) ([],[],0)) (fun(e453:(List Q6))=>Ext.of (.exit 2) [(6,.ptr 6 0 0),(7,.i 0),(8,.ptr 700061 0 0)] [(6,⟨4,true,[[.bool false,.nilsl,.nilsl,.nilsl]]⟩),(700061,⟨4,true,[[.bool p2,Rf ωo p0,Rf ωp p1,Rf ωm e453]]⟩)] [Bt ωm Q3 4 e453,Bt ωo Q0 8 p0,Bt ωp Q0 8 p1] (by rfl)) (fun e453=>.opr 20001 (Rule.makeMap 162 93 ωl (by decide)) fun _=>.bind 1 (.lp (fun(l461:(List F9)×Int)=>Ext.of .normal [(6,.ptr 6 0 0),(7,.i 0),(8,.ptr 700061 0 0),(14,.mp 93),(98,Rf ωm e453),(99,.i (e453.length:Int)),(100,.i l461.2)] [(6,⟨4,true,[[.bool false,.nilsl,.nilsl,.nilsl]]⟩),(700061,⟨4,true,[[.bool p2,Rf ωo p0,Rf ωp p1,Rf ωm e453]]⟩)] [Bt 93 C9 ωl l461.1,Bt ωm Q3 4 e453,Bt ωo Q0 8 p0,Bt ωp Q0 8 p1] (by rfl)) (fun l461=>.br 0 (decide (l461.2 < (e453.length:Int))) (.chk 23002 (bD l461.2 e453.length) (.row 23003 Q3 e453 (0+l461.2.toNat) true fun x462=>.view 24003 (s83 (U0.mk (Y3.mk p2 p0 p1 e453)) x462) [(VwW.o ωo Q0 p0),(VwW.o ωp Q0 p1),(VwW.o ωm Q3 e453)] fun r463=>.opr 25003 (Rule.look2 (mt:=162) (kt:=163) (et:=3) (z:=ωl) (ty:=C9) (p:=(fun x=>((decide (r463.a0=x.fk.a0))&&((decide (r463.a1=x.fk.a1))&&true)))) (kc:=[.str r463.a0,.str r463.a1]) (.tmp 109) (.tmp 110) 111 93 true l461.1 (.int .i64 0) (.int .i64 (K8 l461.1 (fun x=>((decide (r463.a0=x.fk.a0))&&((decide (r463.a1=x.fk.a1))&&true))) (fun x=>x.fv) 0)) ⟨by kernel_rfl,by kernel_rfl,by kernel_rfl,fun _=>by kernel_rfl⟩ (by kernel_rfl) (R8 _ _ (fun x:F9=>x.fv) 0 (V.int .i64))) fun _=>.cnd 26 [131] (.br 26004 (!(l461.1.findIdx? (fun x=>((decide (r463.a0=x.fk.a0))&&((decide (r463.a1=x.fk.a1))&&true)))).isSome) (.done true) (.view 26006 (s84 (U0.mk (Y3.mk p2 p0 p1 e453)) x462) [(VwW.o ωo Q0 p0),(VwW.o ωp Q0 p1),(VwW.o ωm Q3 e453)] fun r464=>.chk 26014 (decide (0≤(K8 l461.1 (fun x=>((decide (r463.a0=x.fk.a0))&&((decide (r463.a1=x.fk.a1))&&true))) (fun x=>x.fv) 0))&&decide ((K8 l461.1 (fun x=>((decide (r463.a0=x.fk.a0))&&((decide (r463.a1=x.fk.a1))&&true))) (fun x=>x.fv) 0) < (e453.length:Int))) (.row 26015 Q3 e453 (0+(K8 l461.1 (fun x=>((decide (r463.a0=x.fk.a0))&&((decide (r463.a1=x.fk.a1))&&true))) (fun x=>x.fv) 0).toNat) true fun x465=>.view 26016 (s84 (U0.mk (Y3.mk p2 p0 p1 e453)) x465) [(VwW.o ωo Q0 p0),(VwW.o ωp Q0 p1),(VwW.o ωm Q3 e453)] fun r466=>.done (decide (r464 < r466))))) (fun(c467:Bool)=>[.bool c467]) fun c467=>.br 0 c467 (.opr 27004 (Rule.put (mt:=162) (kt:=163) (et:=3) (z:=ωl) (ty:=C9) (p:=(fun x=>((decide (r463.a0=x.fk.a0))&&((decide (r463.a1=x.fk.a1))&&true)))) (kc:=[.str r463.a0,.str r463.a1]) (.tmp 132) (.tmp 133) (.tmp 134) 93 l461.1 (F9.mk r463 l461.2) [.int .i64 l461.2] ⟨by kernel_rfl,by kernel_rfl,by kernel_rfl,fun _=>by kernel_rfl⟩ (by rfl) (by kernel_rfl) (by kernel_rfl) (by decide) (by decide)) fun _=>.done (.inl ((mput l461.1 (fun x=>((decide (r463.a0=x.fk.a0))&&((decide (r463.a1=x.fk.a1))&&true))) (F9.mk r463 l461.2)),(Q4 (l461.2+1))))) (.done (.inl (l461.1,(Q4 (l461.2+1))))))) (.done (.inr l461.1))) ([],0)) (fun(e468:(List F9))=>Ext.of (.exit 4) [(6,.ptr 6 0 0),(7,.i 0),(8,.ptr 700061 0 0),(14,.mp 93)] [(6,⟨4,true,[[.bool false,.nilsl,.nilsl,.nilsl]]⟩),(700061,⟨4,true,[[.bool p2,Rf ωo p0,Rf ωp p1,Rf ωm e453]]⟩)] [Bt 93 C9 ωl e468,Bt ωm Q3 4 e453,Bt ωo Q0 8 p0,Bt ωp Q0 8 p1] (by rfl)) (fun e468=>.gh 1 (.ren ωm 700064) (.gh 1 (.ren 93 700065) (.sub (subWait p2 p0 p1 e453.length e468 e453) fun r469=>.gh 0 (.share (VwW.o ωo Q0 p0) 1) (.gh 0 (.share (VwW.o ωp Q0 p1) 1) (.gh 0 (.share (VwW.part 700064 Q3 r469 e453.length) 1) (.done ((Y3.mk p2 p0 p1 (r469.take e453.length)),0)))))))))))))))
def s33(p0 p1:List Q2)(p2:Bool):Sp (Y3×Int):=.ofFn 33 Z0 Tryz.func33 (show FnD Pg GG [0,1,2,6,7,8,9,10,11,13,14,15,16,17,18,19,21,29,38,49,50,58,59,60,61,70,75,98,99,100,101,131,139] Tryz.f33 [Sl 8 Q0 p0,Sl 8 Q0 p1,.bool p2] (g33 p0 p1 p2) (fun r=>.tup [.agg [.bool r.1.fo,Sl 8 Q0 r.1.fu,Sl 8 Q0 r.1.fw,Sl 4 Q3 r.1.fm],.i r.2]) by unfold FnD;kernel_rfl)
def g89(p0:List Q6):TT Unit:=.app 3003 Q3 [] p0 32 true (by intros;rfl) (.done ())
theorem k89y:Z9 Tryz.prog GG [2] 8 (I7 Tryz.f89.body) (Ext.l .normal [(2,.nilsl)] []) (.done ():TT Unit) (fun _=>Ext.l .ret [(2,.nilsl)] []):=by unfold Z9;kernel_rfl
theorem k89r(p0:List Q6):Z9 Tryz.prog GG [0,2,5,6,7] 8 (D2 Tryz.f89.body) (Ext.l .normal [(0,.sl false 4 (List.map Q3.c p0)),(2,.nilsl)] []) (g89 p0) (fun _=>Ext.of .ret [(2,.ref 7 0 ([]++p0).length)] [] [BT.of 7 Q3 4 ([]++p0)] (by rfl)):=by unfold Z9;kernel_rfl
theorem k89(p0:(List Q6)){r:Unit}(h:(g89 p0).run=some r):CallC Tryz.prog GG 89 [.sl false 4 (List.map Q3.c p0)] (ofL []) (.ref 7 0 p0.length) (ofL [(7,⟨4,true,List.map Q3.c p0⟩)]):=
 clone_ok (ty:=Q3) (ops0:=T9 Tryz.f89.body) (ops1:=T8 Tryz.f89.body) (yes:=I7 Tryz.f89.body) (rest:=D2 Tryz.f89.body) (t:=28) Z0 (by decide) Tryz.func89 (by kernel_rfl) (by kernel_rfl) (by kernel_rfl) (by kernel_rfl) (by kernel_rfl) (by kernel_rfl) (by kernel_rfl) (by kernel_rfl) (by kernel_rfl) k89y (k89r p0) (by rfl) h
def s89(p0:List Q6):Sp Unit:=⟨89,[Sl 4 Q3 p0],[],(g89 p0).run,fun _=>Rf 7 p0,fun _=>[(7,⟨4,true,List.map Q3.c p0⟩)],[7],fun _ p hp _=>by rw[ζu.1 hp];exact Q3.data _,fun _ h=>k89 p0 h⟩
def g162(p0:Y3):TT ((Unit)⊕(Unit)):=.view 2002 (s160 (U0.mk p0)) [] fun r470=>.br 0 (!r470) (.done (.inl ())) (.call 4004 (s89 p0.fm) [] [(7,500046)] fun r471=>.done (.inr ()))
def s162(p0:Y3):Sp ((Unit)⊕(Unit)):=.ofFnB 162 [500046] Z0 Tryz.func162 rfl (fun r=>by cases r<;>rfl) (show FnB Pg GG [0,1,2,3,4,10] Tryz.f162 [.agg [.bool p0.fo,Sl 8 Q0 p0.fu,Sl 8 Q0 p0.fw,Sl 4 Q3 p0.fm]] (Ext.of .normal (U6 [.agg [.bool p0.fo,Sl 8 Q0 p0.fu,Sl 8 Q0 p0.fw,Sl 4 Q3 p0.fm]]) [] [] (by rfl)) (g162 p0) (Sum.elim (fun(r:Unit)=>.tup [.nilp,.i 100]) (fun(r:Unit)=>.tup [.ptr 7 0 0,.i 0])) (Sum.elim (fun(r:Unit)=>Ext.of .normal [] [] [] (by rfl)) (fun(r:Unit)=>Ext.of .normal [] [(7,⟨4,true,[[.bool p0.fo,Sl 8 Q0 p0.fu,Sl 8 Q0 p0.fw,Rf 500046 p0.fm]]⟩)] [Bt 500046 Q3 4 p0.fm] (by rfl))) by unfold FnB;kernel_rfl)
def s165(p0:Q6):Sp (Bool):=.ofFn 165 Z0 Tryz.func165 (show FnD Pg GG [0,1,2] Tryz.f165 [.agg (Q3.c p0)] (.done (p0.fD==1):TT (Bool)) (fun r=>.bool r) by unfold FnD;kernel_rfl)
def s163(p0:Q6):Sp (Int):=.ofFn 163 Z0 Tryz.func163 (show FnD Pg GG [0,1,2] Tryz.f163 [.agg (Q3.c p0)] (.done p0.ft:TT (Int)) (fun r=>.int .i64 r) by unfold FnD;kernel_rfl)
def g164(p0:List Q6):TT (Int):=.bind 1 (.lp (fun(l478:Int×Int)=>Ext.l .normal [(0,Sl 4 Q3 p0),(1,.fn 165 [] []),(2,.fn 163 [] []),(6,.i 0),(7,.i l478.1),(10,Sl 4 Q3 p0),(11,.i (Y9 Q3 p0)),(12,.i l478.2)] []) (fun l478=>.br 0 (decide (l478.2 < (Y9 Q3 p0))) (.row 4002 Q3 p0 l478.2.toNat (decide (0≤l478.2)) fun x479=>.cnd 5 [35] (.call 5003 (s165 x479) [] [] fun r480=>.br 5005 r480 (.br 5008 (decide (l478.1 < 0)) (.done true) (.call 5010 (s163 x479) [] [] fun r481=>.row 5014 Q3 p0 l478.1.toNat (decide (0≤l478.1)) fun x482=>.call 5016 (s163 x482) [] [] fun r483=>.done (decide (r483 < r481)))) (.done false)) (fun(c484:Bool)=>[.bool c484]) fun c484=>.br 0 c484 (.done (.inl (l478.2,(Q4 (l478.2+1))))) (.done (.inl (l478.1,(Q4 (l478.2+1)))))) (.done (.inr l478.1))) ((-1),0)) (fun(e485:Int)=>Ext.l (.exit 0) [(6,.i 0),(7,.i e485)] []) (fun e485=>.done e485)
def s164(p0:List Q6):Sp (Int):=.ofFn 164 Z0 Tryz.func164 (show FnD Pg GG [0,1,2,6,7,8,9,10,11,12,13,35] Tryz.f164 [Sl 4 Q3 p0,.fn 165 [] [],.fn 163 [] []] (g164 p0) (fun r=>.int .i64 r) by unfold FnD;kernel_rfl)
def g166(p0:Q6)(p1:List M4)(p2:Bool)(p3 p4:List Q2)(p5:List Q6):TT (Bool):=.cnd 1 [4] (.br 1005 (p0.fD==0) (.view 1008 (s83 (U0.mk (Y3.mk p2 p3 p4 p5)) p0) [(VwW.o ωe Q3 p5)] fun r496=>.opr 1009 (Rule.look (mt:=236) (kt:=163) (et:=4) (z:=ωl) (ty:=L3) (p:=(fun x=>((decide (r496.a0=x.fk.a0))&&((decide (r496.a1=x.fk.a1))&&true)))) (kc:=[.str r496.a0,.str r496.a1]) (.tmp 9) (.tmp 12) 13 ωc true p1 (.bool false) (.bool (K8 p1 (fun x=>((decide (r496.a0=x.fk.a0))&&((decide (r496.a1=x.fk.a1))&&true))) (fun x=>x.fv) false)) ⟨by kernel_rfl,by kernel_rfl,by kernel_rfl,fun _=>by kernel_rfl⟩ (by kernel_rfl) (R8 _ _ (fun x:M4=>x.fv) false V.bool)) fun _=>.done (!(K8 p1 (fun x=>((decide (r496.a0=x.fk.a0))&&((decide (r496.a1=x.fk.a1))&&true))) (fun x=>x.fv) false))) (.done false)) (fun(c497:Bool)=>[.bool c497]) fun c497=>.done c497
def s166(p0:Q6)(p1:List M4)(p2:Bool)(p3 p4:List Q2)(p5:List Q6):Sp (Bool):=.ofFnB 166 [ωc,ωe] Z0 Tryz.func166 rfl (fun _=>rfl) (show FnB Pg GG [0,1,2,3,4] Tryz.f166 [.agg (Q3.c p0),.ptr ωa 0 0,.ptr ωb 0 0] (Ext.of .normal (U6 [.agg (Q3.c p0),.ptr ωa 0 0,.ptr ωb 0 0]) [(ωa,⟨1,true,[[.mp ωc]]⟩),(ωb,⟨1,true,[[.ptr ωd 0 0]]⟩),(ωd,⟨4,true,[[.bool p2,Sl 8 Q0 p3,Sl 8 Q0 p4,Rf ωe p5]]⟩)] [Bt ωc L3 ωl p1,Bt ωe Q3 4 p5] (by rfl)) (g166 p0 p1 p2 p3 p4 p5) (fun(r:Bool)=>.bool r) (fun(r:Bool)=>Ext.of .normal [] [(ωa,⟨1,true,[[.mp ωc]]⟩),(ωb,⟨1,true,[[.ptr ωd 0 0]]⟩),(ωd,⟨4,true,[[.bool p2,Sl 8 Q0 p3,Sl 8 Q0 p4,Rf ωe p5]]⟩)] [Bt ωc L3 ωl p1,Bt ωe Q3 4 p5] (by rfl)) by unfold FnB;kernel_rfl)
def g164_1(p0:List Q6)(p1:List M4)(p2:Bool)(p3 p4:List Q2):TT (Int):=.bind 1 (.lp (fun(l498:Int×Int)=>Ext.of .normal [(0,Rf ωa p0),(1,.fn 166 [] [.ptr ωb 0 0,.ptr ωc 0 0]),(2,.fn 163 [] []),(6,.i 0),(7,.i l498.1),(10,Rf ωa p0),(11,.i (p0.length:Int)),(12,.i l498.2)] [(ωb,⟨1,true,[[.mp ωd]]⟩),(ωc,⟨1,true,[[.ptr ωe 0 0]]⟩),(ωe,⟨4,true,[[.bool p2,Sl 8 Q0 p3,Sl 8 Q0 p4,Rf ωa p0]]⟩)] [Bt ωa Q3 4 p0,Bt ωd L3 ωl p1] (by rfl)) (fun l498=>.br 0 (decide (l498.2 < (p0.length:Int))) (.chk 4002 (bD l498.2 p0.length) (.row 4003 Q3 p0 (0+l498.2.toNat) true fun x499=>.cnd 5 [35] (.opr 5003 (Rule.callRead (s166 x499 p1 p2 p3 p4 p0) (.tmp 17) #[.tmp 18] #[106] 19 [] [.agg (Q3.c x499)] [.ptr ωb 0 0,.ptr ωc 0 0] [(ωa,ωb,⟨1,true,[[.mp ωd]]⟩),(ωb,ωc,⟨1,true,[[.ptr ωe 0 0]]⟩),(ωd,ωe,⟨4,true,[[.bool p2,Sl 8 Q0 p3,Sl 8 Q0 p4,Rf ωa p0]]⟩)] [(ωc,Bt ωd L3 ωl p1),(ωe,Bt ωa Q3 4 p0)] [(ωa,ωb),(ωb,ωc),(ωd,ωe),(ωc,ωd),(ωe,ωa)] (by kernel_rfl) (by kernel_rfl) (by kernel_rfl) (by kernel_rfl) (by kernel_rfl) (by kernel_rfl) (by kernel_rfl) (by kernel_rfl) (by kernel_rfl) (by kernel_rfl) (fun _=>by kernel_rfl) (fun _=>⟨by kernel_rfl,by kernel_rfl⟩)) fun r500=>.br 5005 r500 (.br 5008 (decide (l498.1 < 0)) (.done true) (.call 5010 (s163 x499) [] [] fun r501=>.chk 5014 (bD l498.1 p0.length) (.row 5015 Q3 p0 (0+l498.1.toNat) true fun x502=>.call 5016 (s163 x502) [] [] fun r503=>.done (decide (r503 < r501))))) (.done false)) (fun(c504:Bool)=>[.bool c504]) fun c504=>.br 0 c504 (.done (.inl (l498.2,(Q4 (l498.2+1))))) (.done (.inl (l498.1,(Q4 (l498.2+1))))))) (.done (.inr l498.1))) ((-1),0)) (fun(e505:Int)=>Ext.l (.exit 0) [(6,.i 0),(7,.i e505)] []) (fun e505=>.done e505)
def s164_1(p0:List Q6)(p1:List M4)(p2:Bool)(p3 p4:List Q2):Sp (Int):=.ofFnB 164 [] Z0 Tryz.func164 rfl (fun _=>rfl) (show FnB Pg GG [0,1,2,6,7,8,9,10,11,12,13,35] Tryz.f164 [Rf ωa p0,.fn 166 [] [.ptr ωb 0 0,.ptr ωc 0 0],.fn 163 [] []] (Ext.of .normal (U6 [Rf ωa p0,.fn 166 [] [.ptr ωb 0 0,.ptr ωc 0 0],.fn 163 [] []]) [(ωb,⟨1,true,[[.mp ωd]]⟩),(ωc,⟨1,true,[[.ptr ωe 0 0]]⟩),(ωe,⟨4,true,[[.bool p2,Sl 8 Q0 p3,Sl 8 Q0 p4,Rf ωa p0]]⟩)] [Bt ωa Q3 4 p0,Bt ωd L3 ωl p1] (by rfl)) (g164_1 p0 p1 p2 p3 p4) (fun(r:Int)=>.int .i64 r) (fun(r:Int)=>Ext.of .normal [] [] [] (by rfl)) by unfold FnB;kernel_rfl)
def g93(p0:Y3):TT (Int×Int):=.call2 1002 (s162 p0) [] [(7,500047),(500046,500048)] (fun r472=>.tt (.done (0,100))) (fun r473=>.ff (.view 5007 (s164 p0.fm) [(VwW.o 500048 Q3 p0.fm)] fun r486=>.bind 0 (.br 0 (decide (r486 < 0)) (.opr 7001 (Rule.makeMap 236 28 ωl (by decide)) fun _=>.opr 7002 (Rule.allocAny 236 8 (by kernel_rfl)) fun _=>.bind 1 (.lp (fun(l490:(List M4)×Int)=>Ext.of .normal [(2,.i 0),(3,.i 0),(4,.ptr 4 0 0),(6,.fn 163 [] []),(7,.i r486),(8,.ptr 8 0 0),(33,Rf 500048 p0.fm),(34,.i (p0.fm.length:Int)),(35,.i l490.2)] [(4,⟨1,true,[[.ptr 500047 0 0]]⟩),(8,⟨1,true,[[.mp 28]]⟩),(500047,⟨4,true,[[.bool p0.fo,Sl 8 Q0 p0.fu,Sl 8 Q0 p0.fw,Rf 500048 p0.fm]]⟩)] [Bt 28 L3 ωl l490.1,Bt 500048 Q3 4 p0.fm] (by rfl)) (fun l490=>.br 0 (decide (l490.2 < (p0.fm.length:Int))) (.chk 10001 (bD l490.2 p0.fm.length) (.row 10002 Q3 p0.fm (0+l490.2.toNat) true fun x491=>.br 0 (x491.fD==2) (.view 12004 (s83 (U0.mk p0) x491) [(VwW.o 500048 Q3 p0.fm)] fun r492=>.opr 12005 (Rule.put (mt:=236) (kt:=163) (et:=4) (z:=ωl) (ty:=L3) (p:=(fun x=>((decide (r492.a0=x.fk.a0))&&((decide (r492.a1=x.fk.a1))&&true)))) (kc:=[.str r492.a0,.str r492.a1]) (.tmp 42) (.tmp 45) (.const (.bool true)) 28 l490.1 (M4.mk r492 true) [.bool true] ⟨by kernel_rfl,by kernel_rfl,by kernel_rfl,fun _=>by kernel_rfl⟩ (by rfl) (by kernel_rfl) (by kernel_rfl) (by decide) (by decide)) fun _=>.done (.inl ((mput l490.1 (fun x=>((decide (r492.a0=x.fk.a0))&&((decide (r492.a1=x.fk.a1))&&true))) (M4.mk r492 true)),(Q4 (l490.2+1))))) (.done (.inl (l490.1,(Q4 (l490.2+1))))))) (.done (.inr (l490.1,r486)))) ([],0)) (fun(e493:(List M4)×Int)=>Ext.of (.exit 0) [(2,.i 0),(3,.i 0),(4,.ptr 4 0 0),(6,.fn 163 [] []),(7,.i e493.2),(8,.ptr 8 0 0)] [(4,⟨1,true,[[.ptr 500047 0 0]]⟩),(8,⟨1,true,[[.mp 28]]⟩),(500047,⟨4,true,[[.bool p0.fo,Sl 8 Q0 p0.fu,Sl 8 Q0 p0.fw,Rf 500048 p0.fm]]⟩)] [Bt 28 L3 ωl e493.1,Bt 500048 Q3 4 p0.fm] (by rfl)) (fun e493=>.call 14008 (s164_1 p0.fm e493.1 p0.fo p0.fu p0.fw) [(ωb,8),(ωc,4),(ωe,500047),(ωa,500048),(ωd,28)] [] fun r506=>.done r506)) (.done r486)) (fun(e507:Int)=>Ext.l .normal [(2,.i 0),(3,.i 0),(7,.i e507)] []) (fun e507=>.br 0 (decide (e507 < 0)) (.done (0,4)) (.done (e507,0)))))
def s93(p0:Y3):Sp (Int×Int):=.ofFn 93 Z0 Tryz.func93 (show FnD Pg GG [0,1,2,3,4,5,6,7,8,10,17,27,33,34,35,36,41,56] Tryz.f93 [.agg [.bool p0.fo,Sl 8 Q0 p0.fu,Sl 8 Q0 p0.fw,Sl 4 Q3 p0.fm]] (g93 p0) (fun r=>.tup [.i r.1,.i r.2]) by unfold FnD;kernel_rfl)
end Go.Proofs.YtjpahkpfkohfkaaGreatDoor
